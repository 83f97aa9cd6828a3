import PyProof.Rows.All
import Wide.All
import OpenK.AllK
import Wide.FinOn
import HandS.ForMost
import HandS.Deep
import HandS.Conv
import HandS.Star
import HandS.TupAny
import HandS.Defaults
import HandS.IsInst
import HandS.Style
import HandS.Flow
import HandS.TupMul
import HandS.Strs
import KE.DataCmp
import KE.DataMinMax
import KE.SortData
import KE.DataAny
import KE.KTupSum
import HandS.Zip
import HandS.Rev
import KE.GoesEnum
import HandS.SetFor
import HandS.Head0
import HandS.Head1
import HandS.Head2
import HandS.HeadEnd
import HandS.HeadHook1
import HandS.HeadHook2
import KE.DataFind
import HandS.Gcd
import KE.GoesZip
import KE.GoesMore
import HandS.Text
import KE.KMathGC
import HandS.SortKw
import PyProof.MaxThree
import KE.KStateDown
import HandS.ForExc
import HandS.More
import HandS.Head3
import PySem.Challenge.RW_playground_k35_whispers_by_tables_whole
/-! part: Q1 -/
section
set_option Elab.async false
set_option linter.all false
set_option maxRecDepth 100000
set_option maxHeartbeats 4000000
namespace Q
open PySem PySem.Spec PyProof.Rows L2
abbrev D := PyData

/-! ### representation -/
/-- a tuple whose object is known, or of the written part -/
def TupAt (K : PySem.W.Frag) (F : Hp) (a : Addr) (xs : List V) : Prop :=
  (∃ o, F a = some (.frz o (.tup xs)) ∧ o.cls = .type "tuple" ∧ o.dict = none) ∨
    ∃ (o : Obj) (its : Array Value) (n : Nat), K.lookup a = some o ∧ o.cls = .type "tuple" ∧ o.dict = none ∧ o.data = .seq its n ∧ its.size ≤ sizeLine ∧ Vals xs its.toList
theorem TupAt.sq {K : PySem.W.Frag} {F : Hp} {a : Addr} {xs : List V} (h : TupAt K F a xs) : SqT K F a xs := by
  rcases h with ⟨o, h, _⟩ | ⟨o, its, n, h1, h2, _, h4, h5, h6⟩
  · exact .inl (.inr ⟨o, h⟩)
  · exact .inr ⟨o, its, n, h1, h2, h4, h5, h6⟩
mutual
inductive Rep (K : PySem.W.Frag) (F : Hp) : V → D → Prop
  | non : Rep K F .non .none
  | bl (b : Bool) : Rep K F (.bl b) (.bool b)
  | int (i : Int) : Rep K F (.int i) (.int i)
  | str (x : Str) : Rep K F (.str x) (.str x)
  | lst {a : Addr} {xs : List V} {ds : List D} : SqL K F a xs → RepA K F xs ds → Rep K F (.ref a) (.list ds)
  | tup {a : Addr} {xs : List V} {ds : List D} : TupAt K F a xs → RepA K F xs ds → Rep K F (.ref a) (.tuple ds)
inductive RepA (K : PySem.W.Frag) (F : Hp) : List V → List D → Prop
  | nil : RepA K F [] []
  | cons {v : V} {vs : List V} {d : D} {ds : List D} : Rep K F v d → RepA K F vs ds → RepA K F (v :: vs) (d :: ds)
end
theorem _root_.L2.Same.sqT {K : PySem.W.Frag} {H H' : Hp} {a : Addr} {xs : List V} (e : Same H H') (h : SqT K H a xs) : SqT K H' a xs := by
  rcases h with (h | ⟨o, h⟩) | h
  · exact .inl (.inl (e _ _ h))
  · exact .inl (.inr ⟨o, e _ _ h⟩)
  · exact .inr h
theorem TupAt.mono {K : PySem.W.Frag} {H H' : Hp} {a : Addr} {xs : List V} (e : Same H H') (h : TupAt K H a xs) : TupAt K H' a xs := by
  rcases h with ⟨o, h, r⟩ | h
  · exact .inl ⟨o, e _ _ h, r⟩
  · exact .inr h
section
variable {K : PySem.W.Frag} {F F' : Hp}
mutual
theorem Rep.mono (e : Same F F') : ∀ {v : V} {d : D}, Rep K F v d → Rep K F' v d
  | _, _, .non => .non
  | _, _, .bl b => .bl b
  | _, _, .int i => .int i
  | _, _, .str x => .str x
  | _, _, .lst h r => .lst (e.seq h) (RepA.mono e r)
  | _, _, .tup h r => .tup (h.mono e) (RepA.mono e r)
theorem RepA.mono (e : Same F F') : ∀ {vs : List V} {ds : List D}, RepA K F vs ds → RepA K F' vs ds
  | _, _, .nil => .nil
  | _, _, .cons h r => .cons (Rep.mono e h) (RepA.mono e r)
end
mutual
theorem Rep.dp : ∀ {v : V} {d : D}, Rep K F v d → Dp K F v d
  | _, _, .non => .non
  | _, _, .bl b => .bl b
  | _, _, .int i => .int i
  | _, _, .str x => .str x
  | _, _, .lst h r => .lst h (RepA.dp r)
  | _, _, .tup h r => .tup h.sq (RepA.dp r)
theorem RepA.dp : ∀ {vs : List V} {ds : List D}, RepA K F vs ds → DpAll K F vs ds
  | _, _, .nil => .nil
  | _, _, .cons h r => .cons (Rep.dp h) (RepA.dp r)
end
theorem RepA.length : ∀ {vs : List V} {ds : List D}, RepA K F vs ds → vs.length = ds.length
  | _, _, .nil => rfl
  | _, _, .cons _ r => congrArg Nat.succ (RepA.length r)
theorem RepA.get : ∀ {vs : List V} {ds : List D} {i : Nat} {d : D}, RepA K F vs ds → ds[i]? = some d → ∃ v, vs[i]? = some v ∧ Rep K F v d
  | _, _, _, _, .nil, e => by simp at e
  | _, _, 0, _, .cons h _, e => by simp at e; subst e; exact ⟨_, rfl, h⟩
  | _, _, i + 1, _, .cons _ r, e => by
    obtain ⟨v, h1, h2⟩ := RepA.get (i := i) r (by simpa using e)
    exact ⟨v, by simpa using h1, h2⟩
theorem RepA.getV : ∀ {vs : List V} {ds : List D} {i : Nat} {v : V}, RepA K F vs ds → vs[i]? = some v → ∃ d, ds[i]? = some d ∧ Rep K F v d
  | _, _, _, _, .nil, e => by simp at e
  | _, _, 0, _, .cons h _, e => by simp at e; subst e; exact ⟨_, rfl, h⟩
  | _, _, i + 1, _, .cons _ r, e => by
    obtain ⟨v, h1, h2⟩ := RepA.getV (i := i) r (by simpa using e)
    exact ⟨v, by simpa using h1, h2⟩
theorem RepA.append : ∀ {vs ws : List V} {ds es : List D}, RepA K F vs ds → RepA K F ws es → RepA K F (vs ++ ws) (ds ++ es)
  | _, _, _, _, .nil, s => s
  | _, _, _, _, .cons h r, s => .cons h (RepA.append r s)
theorem RepA.take : ∀ {vs : List V} {ds : List D} (n : Nat), RepA K F vs ds → RepA K F (vs.take n) (ds.take n)
  | _, _, 0, _ => by simp only [List.take_zero]; exact .nil
  | _, _, _ + 1, .nil => .nil
  | _, _, n + 1, .cons h r => .cons h (RepA.take n r)
theorem RepA.drop : ∀ {vs : List V} {ds : List D} (n : Nat), RepA K F vs ds → RepA K F (vs.drop n) (ds.drop n)
  | _, _, 0, r => by simpa using r
  | _, _, _ + 1, .nil => .nil
  | _, _, n + 1, .cons _ r => RepA.drop n r
theorem RepA.set : ∀ {vs : List V} {ds : List D} {v : V} {d : D} (i : Nat), RepA K F vs ds → Rep K F v d → RepA K F (vs.set i v) (ds.set i d)
  | _, _, _, _, _, .nil, _ => .nil
  | _, _, _, _, 0, .cons _ r, q => .cons q r
  | _, _, _, _, i + 1, .cons h r, q => .cons h (RepA.set i r q)
theorem RepA.eraseIdx : ∀ {vs : List V} {ds : List D} (i : Nat), RepA K F vs ds → RepA K F (vs.eraseIdx i) (ds.eraseIdx i)
  | _, _, _, .nil => .nil
  | _, _, 0, .cons _ r => r
  | _, _, i + 1, .cons h r => .cons h (RepA.eraseIdx i r)
theorem RepA.dropLast : ∀ {vs : List V} {ds : List D}, RepA K F vs ds → RepA K F vs.dropLast ds.dropLast
  | _, _, .nil => .nil
  | _, _, .cons _ .nil => .nil
  | _, _, .cons h (.cons h' r) => .cons h (RepA.dropLast (.cons h' r))
theorem RepA.reverse {vs : List V} {ds : List D} (h : RepA K F vs ds) : RepA K F vs.reverse ds.reverse := by
  match h with
  | .nil => exact .nil
  | .cons q r => rw [List.reverse_cons, List.reverse_cons]; exact RepA.append (RepA.reverse r) (.cons q .nil)
end
section
variable {K : PySem.W.Frag} {F F' : Hp}
theorem Rep.int_of {v : V} {i : Int} (h : Rep K F v (.int i)) : v = .int i := by cases h; rfl
theorem Rep.bl_of {v : V} {b : Bool} (h : Rep K F v (.bool b)) : v = .bl b := by cases h; rfl
theorem Rep.str_of {v : V} {x : Str} (h : Rep K F v (.str x)) : v = .str x := by cases h; rfl
theorem Rep.non_of {v : V} (h : Rep K F v .none) : v = .non := by cases h; rfl
theorem RepA.ints : ∀ {vs : List V} {ns : List Int}, RepA K F vs (ns.map .int) → vs = ns.map V.int
  | _, [], h => by cases h; rfl
  | _, n :: ns, h => by
    cases h with
    | cons h r => rw [Rep.int_of h, RepA.ints r]; rfl
theorem RepA.of_ints : ∀ (ns : List Int), RepA K F (ns.map V.int) (ns.map .int)
  | [] => .nil
  | n :: ns => .cons (.int n) (RepA.of_ints ns)
theorem RepA.bls : ∀ {vs : List V} {ns : List Bool}, RepA K F vs (ns.map .bool) → vs = ns.map V.bl
  | _, [], h => by cases h; rfl
  | _, n :: ns, h => by
    cases h with
    | cons h r => rw [Rep.bl_of h, RepA.bls r]; rfl
theorem RepA.strs : ∀ {vs : List V} {ns : List Str}, RepA K F vs (ns.map .str) → vs = ns.map V.str
  | _, [], h => by cases h; rfl
  | _, n :: ns, h => by
    cases h with
    | cons h r => rw [Rep.str_of h, RepA.strs r]; rfl
end

/-! ### slots, modes -/
inductive Sl where
  | un
  | im (d : D)
  | ow (d : D)
abbrev Rho := List Sl
inductive Md where
  | pk | fz | fr
/-- a changing object at a, its parts frozen -/
def Own (K : PySem.W.Frag) (F H : Hp) (a : Addr) : D → Prop
  | .list ds => ∃ vs, H a = some (.lst vs) ∧ RepA K F vs ds
  | _ => False
structure Bs where
  F0 : Hp
  G : Hp
/-- F' adds to F only what H does not have -/
def New (F F' H : Hp) : Prop := ∀ a, F' a ≠ none → F a ≠ none ∨ H a = none
structure Ext (F H F' H' : Hp) : Prop where
  f : Same F F'
  h : Same H H'
  n : New F F' H
  s : Same F' H'
theorem New.refl {F H : Hp} : New F F H := fun _ h => .inl h
theorem Ext.refl {F H : Hp} (h : Same F H) : Ext F H F H := ⟨.refl _, .refl _, .refl, h⟩
theorem Ext.trans {F H F1 H1 F2 H2 : Hp} (a : Ext F H F1 H1) (b : Ext F1 H1 F2 H2) : Ext F H F2 H2 :=
  ⟨a.f.trans b.f, a.h.trans b.h, fun c q => (b.n c q).elim (a.n c) fun z => .inr (a.h.free z), b.s⟩
/-- what is known of one value -/
def Res (K : PySem.W.Frag) (m : Md) (H0 F H : Hp) (v : V) (d : D) : Prop := match m with
  | .pk => Rep K F v d ∨ ∃ a, v = .ref a ∧ F a = none ∧ Own K F H a d
  | .fz => Rep K F v d
  | .fr => ∃ a, v = .ref a ∧ H0 a = none ∧ F a = none ∧ Own K F H a d
theorem Own.there {K : PySem.W.Frag} {F H : Hp} {a : Addr} {d : D} (h : Own K F H a d) : H a ≠ none := by
  cases d with
  | list ds => obtain ⟨vs, e, _⟩ := h; rw [e]; exact fun z => nomatch z
  | _ => exact h.elim
theorem Own.mono {K : PySem.W.Frag} {F H F' H' : Hp} {a : Addr} {d : D} (e : Same F F') (e2 : Same H H') (h : Own K F H a d) : Own K F' H' a d := by
  cases d with
  | list ds => obtain ⟨vs, q, r⟩ := h; exact ⟨vs, e2 _ _ q, r.mono e⟩
  | _ => exact h.elim
theorem Ext.keepNone {F H F' H' : Hp} (x : Ext F H F' H') {a : Addr} (h1 : F a = none) (h2 : H a ≠ none) : F' a = none := by
  cases q : F' a with
  | none => rfl
  | some o => exact ((x.n a (by rw [q]; exact fun z => nomatch z)).elim (fun z => z h1) fun z => h2 z).elim
theorem Res.mono {K : PySem.W.Frag} {m : Md} {H0 F H F' H' : Hp} {v : V} {d : D} (h : Res K m H0 F H v d) (x : Ext F H F' H') : Res K m H0 F' H' v d := by
  cases m with
  | pk =>
    rcases h with h | ⟨a, e, f, o⟩
    · exact .inl (h.mono x.f)
    · exact .inr ⟨a, e, x.keepNone f o.there, o.mono x.f x.h⟩
  | fz => exact Rep.mono x.f h
  | fr =>
    obtain ⟨a, e, h0, f, o⟩ := h
    exact ⟨a, e, h0, x.keepNone f o.there, o.mono x.f x.h⟩
def SlOk (K : PySem.W.Frag) (F H G : Hp) (o : Option V) : Sl → Prop
  | .un => True
  | .im d => ∃ v, o = some v ∧ Rep K F v d
  | .ow d => ∃ a, o = some (.ref a) ∧ F a = none ∧ G a = none ∧ Own K F H a d
/-- the state of a def's names -/
structure Rel (K : PySem.W.Frag) (B : Bs) (F H : Hp) (σ : L2.St) (ρ : Rho) : Prop where
  len : σ.length = ρ.length
  f0 : Same B.F0 F
  g : Same B.G H
  fh : Same F H
  nw : New B.F0 F B.G
  sl : ∀ (i : Nat) (o : Option V) (s : Sl), σ[i]? = some o → ρ[i]? = some s → SlOk K F H B.G o s
  sep : ∀ (i j : Nat) (d e : D) (a : Addr), i ≠ j → ρ[i]? = some (.ow d) → ρ[j]? = some (.ow e) → σ[i]? = some (some (.ref a)) → σ[j]? ≠ some (some (.ref a))
theorem SlOk.mono {K : PySem.W.Frag} {F H F' H' G : Hp} {o : Option V} {s : Sl} (h : SlOk K F H G o s) (x : Ext F H F' H') : SlOk K F' H' G o s := by
  cases s with
  | un => trivial
  | im d => obtain ⟨v, e, r⟩ := h; exact ⟨v, e, r.mono x.f⟩
  | ow d => obtain ⟨a, e, f, g, o⟩ := h; exact ⟨a, e, x.keepNone f o.there, g, o.mono x.f x.h⟩
theorem Rel.ext {K : PySem.W.Frag} {B : Bs} {F H F' H' : Hp} {σ : L2.St} {ρ : Rho} (r : Rel K B F H σ ρ) (x : Ext F H F' H') : Rel K B F' H' σ ρ :=
  ⟨r.len, r.f0.trans x.f, r.g.trans x.h, x.s, fun a q => (x.n a q).elim (r.nw a) fun z => .inr (r.g.free z), fun i o s h1 h2 => (r.sl i o s h1 h2).mono x, r.sep⟩

/-! ### readings and what they give -/
def SemE (K : PySem.W.Frag) (m : Md) (t : TE) (f : Rho → Option D) : Prop :=
  ∀ (B : Bs) (F H : Hp) (σ : L2.St) (ρ : Rho) (d : D) (Q : VK), Rel K B F H σ ρ → f ρ = some d → (∀ v F' H', Ext F H F' H' → Res K m H F' H' v d → Q v H') → t σ H Q
def SemT (K : PySem.W.Frag) (t : TT) (f : Rho → Option Bool) : Prop :=
  ∀ (B : Bs) (F H : Hp) (σ : L2.St) (ρ : Rho) (b : Bool) (Q : Bool → Hp → Prop), Rel K B F H σ ρ → f ρ = some b → (∀ F' H', Ext F H F' H' → Q b H') → t σ H Q
inductive ResA (K : PySem.W.Frag) (m : Md) (H0 F H : Hp) : List V → List D → Prop
  | nil : ResA K m H0 F H [] []
  | cons {v vs d ds} : Res K m H0 F H v d → ResA K m H0 F H vs ds → ResA K m H0 F H (v :: vs) (d :: ds)
theorem ResA.mono {K : PySem.W.Frag} {m : Md} {H0 F H F' H' : Hp} (x : Ext F H F' H') : ∀ {vs : List V} {ds : List D}, ResA K m H0 F H vs ds → ResA K m H0 F' H' vs ds
  | _, _, .nil => .nil
  | _, _, .cons h r => .cons (h.mono x) (ResA.mono x r)
theorem ResA.rep {K : PySem.W.Frag} {H0 F H : Hp} : ∀ {vs : List V} {ds : List D}, ResA K .fz H0 F H vs ds → RepA K F vs ds
  | _, _, .nil => .nil
  | _, _, .cons h r => .cons h (ResA.rep r)
theorem ResA.length {K : PySem.W.Frag} {m : Md} {H0 F H : Hp} : ∀ {vs : List V} {ds : List D}, ResA K m H0 F H vs ds → vs.length = ds.length
  | _, _, .nil => rfl
  | _, _, .cons _ r => congrArg Nat.succ (ResA.length r)
def SemA (K : PySem.W.Frag) (m : Md) (t : TA) (f : Rho → Option (List D)) : Prop :=
  ∀ (B : Bs) (F H : Hp) (σ : L2.St) (ρ : Rho) (ds : List D) (Q : List V → Hp → Prop), Rel K B F H σ ρ → f ρ = some ds → (∀ vs F' H', Ext F H F' H' → ResA K m H F' H' vs ds → Q vs H') → t σ H Q
structure DE (X : Cx) (m : Md) (e : Expr) (t : TE) (f : Rho → Option D) : Prop where
  p : PE X e t
  s : SemE X.K m t f
structure DT (X : Cx) (e : Expr) (t : TT) (f : Rho → Option Bool) : Prop where
  p : PT X e t
  s : SemT X.K t f
structure DA (X : Cx) (m : Md) (es : List Expr) (t : TA) (f : Rho → Option (List D)) : Prop where
  p : PA X es t
  s : SemA X.K m t f
  n : ∀ ρ ds, f ρ = some ds → ds.length = es.length
/-! ### modes -/
theorem fr_pk {K : PySem.W.Frag} {H0 F H : Hp} {v : V} {d : D} (h : Res K .fr H0 F H v d) : Res K .pk H0 F H v d := by
  obtain ⟨a, e, _, f, o⟩ := h
  exact .inr ⟨a, e, f, o⟩
theorem fz_pk {K : PySem.W.Frag} {H0 F H : Hp} {v : V} {d : D} (h : Res K .fz H0 F H v d) : Res K .pk H0 F H v d := .inl h
theorem same_upd {F : Hp} {a : Addr} {o : HO} (h : F a = none) : Same F (upd F a o) := fun b u q => by rw [upd_ne (ne_of_none q h)]; exact q
theorem new_upd {F H : Hp} {a : Addr} {o : HO} (h : H a = none) : New F (upd F a o) H := fun b q => by
  by_cases e : b = a
  · subst e; exact .inr h
  · rw [upd_ne e] at q; exact .inl q
theorem same_upd2 {F H : Hp} {a : Addr} {o : HO} (h : Same F H) (e : H a = some o) (f : F a = none) : Same (upd F a o) H := fun b u q => by
  by_cases z : b = a
  · subst z; rw [upd_same] at q; cases q; exact e
  · rw [upd_ne z] at q; exact h _ _ q
/-- a new object is frozen -/
theorem fr_fz {K : PySem.W.Frag} {F H F' H' : Hp} {v : V} {d : D} (x : Ext F H F' H') (h : Res K .fr H F' H' v d) : ∃ F2, Ext F H F2 H' ∧ Res K .fz H F2 H' v d := by
  obtain ⟨a, rfl, h0, f, o⟩ := h
  cases d with
  | list ds =>
    obtain ⟨vs, e, r⟩ := o
    have s1 : Same F' (upd F' a (.lst vs)) := same_upd f
    refine ⟨upd F' a (.lst vs), ⟨x.f.trans s1, x.h, fun c q => ?_, same_upd2 x.s e f⟩, .lst (.of upd_same) (r.mono s1)⟩
    by_cases z : c = a
    · subst z; exact .inr h0
    · rw [upd_ne z] at q; exact x.n c q
  | _ => exact o.elim
theorem DE.frz {X : Cx} {e : Expr} {t : TE} {f : Rho → Option D} (h : DE X .fr e t f) : DE X .fz e t f := ⟨h.p, fun B F H σ ρ d Q r hf q => h.s B F H σ ρ d Q r hf fun v F' H' x rs => by
  obtain ⟨F2, x2, r2⟩ := fr_fz x rs
  exact q v F2 H' x2 r2⟩
theorem DE.frp {X : Cx} {e : Expr} {t : TE} {f : Rho → Option D} (h : DE X .fr e t f) : DE X .pk e t f := ⟨h.p, fun B F H σ ρ d Q r hf q => h.s B F H σ ρ d Q r hf fun v F' H' x rs => q v F' H' x (fr_pk rs)⟩
theorem DE.fzp {X : Cx} {e : Expr} {t : TE} {f : Rho → Option D} (h : DE X .fz e t f) : DE X .pk e t f := ⟨h.p, fun B F H σ ρ d Q r hf q => h.s B F H σ ρ d Q r hf fun v F' H' x rs => q v F' H' x (fz_pk rs)⟩
/-! ### names, constants -/
def vF (i : Nat) : Rho → Option D := fun ρ => match ρ[i]? with
  | some (.im d) => some d
  | _ => none
def vP (i : Nat) : Rho → Option D := fun ρ => match ρ[i]? with
  | some (.im d) => some d
  | some (.ow d) => some d
  | _ => none
def cD (d : D) : Rho → Option D := fun _ => some d
theorem Rel.at {K : PySem.W.Frag} {B : Bs} {F H : Hp} {σ : L2.St} {ρ : Rho} (r : Rel K B F H σ ρ) {i : Nat} {s : Sl} (h : ρ[i]? = some s) : ∃ o, σ[i]? = some o ∧ SlOk K F H B.G o s := by
  have hi : i < σ.length := by rw [r.len]; exact (List.getElem?_eq_some_iff.mp h).1
  exact ⟨σ[i], List.getElem?_eq_getElem hi, r.sl i _ s (List.getElem?_eq_getElem hi) h⟩
section
variable {X : Cx} {pos : Pos}
theorem sem_varF {K : PySem.W.Frag} {i : Nat} : SemE K .fz (tVar i) (vF i) := fun B F H σ ρ d Q r hf q => by
  unfold vF at hf
  split at hf
  · rename_i d' e
    cases hf
    obtain ⟨o, h1, v, rfl, h2⟩ := r.at e
    exact ⟨v, h1, q v F H (.refl r.fh) h2⟩
  · cases hf
theorem sem_varP {K : PySem.W.Frag} {i : Nat} : SemE K .pk (tVar i) (vP i) := fun B F H σ ρ d Q r hf q => by
  unfold vP at hf
  split at hf
  · rename_i d' e
    cases hf
    obtain ⟨o, h1, v, rfl, h2⟩ := r.at e
    exact ⟨v, h1, q v F H (.refl r.fh) (.inl h2)⟩
  · rename_i d' e
    cases hf
    obtain ⟨o, h1, a, rfl, h2, h3, h4⟩ := r.at e
    exact ⟨_, h1, q _ F H (.refl r.fh) (.inr ⟨a, rfl, h2, h4⟩)⟩
  · cases hf
theorem de_v (i : Nat) {x : Str} (hN : X.N[i]? = some x := by rfl) (hv : Vis X.env.scope x := by first | exact Or.inl rfl | exact Or.inr (Or.inl rfl) | exact Or.inr (Or.inr rfl)) (hd : (x == ("__debug__" : Str)) = false := by decide)
    (hcd : (x == ("__classdict__" : Str)) = false := by decide) : DE X .fz (.Name x pos) (tVar i) (vF i) := ⟨pe_var hN hv hd hcd, sem_varF⟩
theorem de_p (i : Nat) {x : Str} (hN : X.N[i]? = some x := by rfl) (hv : Vis X.env.scope x := by first | exact Or.inl rfl | exact Or.inr (Or.inl rfl) | exact Or.inr (Or.inr rfl)) (hd : (x == ("__debug__" : Str)) = false := by decide)
    (hcd : (x == ("__classdict__" : Str)) = false := by decide) : DE X .pk (.Name x pos) (tVar i) (vP i) := ⟨pe_var hN hv hd hcd, sem_varP⟩
theorem sem_c {K : PySem.W.Frag} {v : V} {d : D} (h : ∀ F, Rep K F v d) : SemE K .fz (tC v) (cD d) := fun B F H σ ρ d' Q r hf q => by
  cases hf
  exact q v F H (.refl r.fh) (h F)
theorem de_int {i : Int} {j : Nat} : DE X .fz (.Constant (.int i) j pos) (tC (.int i)) (cD (.int i)) := ⟨pe_int, sem_c fun _ => .int i⟩
theorem de_bl {b : Bool} {j : Nat} : DE X .fz (.Constant (.bool b) j pos) (tC (.bl b)) (cD (.bool b)) := ⟨pe_bl, sem_c fun _ => .bl b⟩
theorem de_non {j : Nat} : DE X .fz (.Constant .none j pos) (tC .non) (cD .none) := ⟨pe_non, sem_c fun _ => .non⟩
theorem de_str {x : Str} {j : Nat} : DE X .fz (.Constant (.str x) j pos) (tC (.str x)) (cD (.str x)) := ⟨pe_str, sem_c fun _ => .str x⟩
theorem de_globI {x : Str} {i : Int} (hg : Gl X x) (hm : ∃ t, X.mg x = some (.int i t)) (hd : (x == ("__debug__" : Str)) = false := by decide) : DE X .fz (.Name x pos) (tC (.int i)) (cD (.int i)) := by
  obtain ⟨t, hm⟩ := hm
  exact ⟨pe_glob hg hm ⟨t, rfl⟩ hd, sem_c fun _ => .int i⟩
theorem de_globS {x : Str} {z : Str} (hg : Gl X x) (hm : ∃ t, X.mg x = some (.str z t)) (hd : (x == ("__debug__" : Str)) = false := by decide) : DE X .fz (.Name x pos) (tC (.str z)) (cD (.str z)) := by
  obtain ⟨t, hm⟩ := hm
  exact ⟨pe_glob hg hm ⟨t, rfl⟩ hd, sem_c fun _ => .str z⟩
end
end Q
end

/-! part: Q2 -/
section
set_option Elab.async false
set_option linter.all false
set_option maxRecDepth 100000
set_option maxHeartbeats 4000000
namespace Q
open PySem PySem.Spec PyProof.Rows L2
/-! ### what a value known by Res gives -/
section
variable {K : PySem.W.Frag} {m : Md} {H0 F H : Hp} {v : V} {d : D}
theorem Res.any (h : Res K m H0 F H v d) : Res K .pk H0 F H v d := by
  cases m with
  | pk => exact h
  | fz => exact fz_pk h
  | fr => exact fr_pk h
/-- as data over the whole heap -/
theorem Res.dp (h : Res K m H0 F H v d) (fh : Same F H) : Dp K H v d := by
  rcases h.any with h | ⟨a, rfl, _, o⟩
  · exact (h.mono fh).dp
  · cases d with
    | list ds => obtain ⟨vs, e, r⟩ := o; exact .lst (.of e) (r.mono fh).dp
    | _ => exact o.elim
theorem Res.list {ds : List D} (h : Res K m H0 F H v (.list ds)) (fh : Same F H) : ∃ a xs, v = .ref a ∧ SqL K H a xs ∧ RepA K F xs ds := by
  rcases h.any with h | ⟨a, rfl, _, o⟩
  · cases h with
    | lst h1 r => exact ⟨_, _, rfl, fh.seq h1, r⟩
  · obtain ⟨vs, e, r⟩ := o
    exact ⟨a, vs, rfl, .of e, r⟩
theorem Res.rep (h : Res K m H0 F H v d) (n : ∀ ds, d ≠ .list ds) : Rep K F v d := by
  rcases h.any with h | ⟨a, rfl, _, o⟩
  · exact h
  · cases d with
    | list ds => exact absurd rfl (n ds)
    | _ => exact o.elim
theorem Res.tup {ds : List D} (h : Res K m H0 F H v (.tuple ds)) (fh : Same F H) : ∃ a xs, v = .ref a ∧ TupAt K H a xs ∧ RepA K F xs ds := by
  cases h.rep (fun _ z => nomatch z) with
  | tup h1 r => exact ⟨_, _, rfl, TupAt.mono fh h1, r⟩
theorem Res.int {i : Int} (h : Res K m H0 F H v (.int i)) : v = .int i := (h.rep (fun _ z => nomatch z)).int_of
theorem Res.bl {i : Bool} (h : Res K m H0 F H v (.bool i)) : v = .bl i := (h.rep (fun _ z => nomatch z)).bl_of
theorem Res.str {i : Str} (h : Res K m H0 F H v (.str i)) : v = .str i := (h.rep (fun _ z => nomatch z)).str_of
theorem Res.non (h : Res K m H0 F H v .none) : v = .non := (h.rep (fun _ z => nomatch z)).non_of
theorem Res.back {F1 H1 : Hp} (h : Res K m H1 F H v d) (s : Same H0 H1) : Res K m H0 F H v d := by
  cases m with
  | pk => exact h
  | fz => exact h
  | fr =>
    obtain ⟨a, e, h0, r⟩ := h
    exact ⟨a, e, s.free h0, r⟩
end
/-- freezing a new tuple, a new list -/
theorem ext_new {F H F' H' : Hp} (x : Ext F H F' H') {a : Addr} {o : HO} (h : H' a = none) : Ext F H (upd F' a o) (upd H' a o) := by
  have hf : F' a = none := by
    cases q : F' a with
    | none => rfl
    | some u => rw [x.s _ _ q] at h; cases h
  refine ⟨x.f.trans (same_upd hf), x.h.trans (same_upd h), fun c q => ?_, fun b u q => ?_⟩
  · by_cases z : c = a
    · subst z; exact .inr (x.h.free h)
    · rw [upd_ne z] at q; exact x.n c q
  · by_cases z : b = a
    · subst z; rw [upd_same] at q ⊢; exact q
    · rw [upd_ne z] at q ⊢; exact x.s _ _ q
theorem ext_own {F H F' H' : Hp} (x : Ext F H F' H') {a : Addr} {o : HO} (h : H' a = none) : Ext F H F' (upd H' a o) :=
  ⟨x.f, x.h.trans (same_upd h), x.n, x.s.trans (same_upd h)⟩
theorem free_of {F H : Hp} (s : Same F H) {a : Addr} (h : H a = none) : F a = none := s.free h

/-! ### operations by values -/
/-- what a two-place operation gives of data -/
def OpS (K : PySem.W.Frag) (m : Md) (r : R2) (g : D → D → Option D) : Prop :=
  ∀ (F H Ha Hb : Hp) (x y : V) (d e z : D) (Q : VK), Same F H → Res K .pk Ha F H x d → Res K .pk Hb F H y e → g d e = some z → (∀ v F' H', Ext F H F' H' → Res K m H F' H' v z → Q v H') → r x y H Q
def f2 (g : D → D → Option D) (fa fb : Rho → Option D) : Rho → Option D := fun ρ => (fa ρ).bind fun x => (fb ρ).bind fun y => g x y
def f1 (g : D → Option D) (fa : Rho → Option D) : Rho → Option D := fun ρ => (fa ρ).bind g
theorem bind_some {α β : Type} {o : Option α} {g : α → Option β} {z : β} (h : o.bind g = some z) : ∃ x, o = some x ∧ g x = some z := by
  cases o with
  | none => cases h
  | some x => exact ⟨x, rfl, h⟩
theorem sem_op {K : PySem.W.Frag} {m m1 m2 : Md} {ta tb : TE} {r : R2} {g : D → D → Option D} {fa fb : Rho → Option D} (hs : OpS K m r g) (ha : SemE K m1 ta fa) (hb : SemE K m2 tb fb) : SemE K m (tOp r ta tb) (f2 g fa fb) := by
  intro B F H σ ρ z Q rel hf q
  obtain ⟨d, h1, h2⟩ := bind_some hf
  obtain ⟨e, h3, h4⟩ := bind_some h2
  refine ha B F H σ ρ d _ rel h1 fun x F1 H1 x1 r1 => ?_
  refine hb B F1 H1 σ ρ e _ (rel.ext x1) h3 fun y F2 H2 x2 r2 => ?_
  refine hs F2 H2 H H1 x y d e z Q x2.s (r1.mono x2).any r2.any h4 fun v F' H' x3 r3 => ?_
  exact q v F' H' ((x1.trans x2).trans x3) (r3.back (F1 := F1) (x1.h.trans x2.h))
section
variable {X : Cx} {a b c : Expr} {ta tb tc : TE} {pos : Pos} {m m1 m2 m3 : Md} {r : R2} {g : D → D → Option D} {fa fb fc : Rho → Option D}
theorem de_op {op : Operator} (ho : OpR X (binaryOp op) r) (hs : OpS X.K m r g) (ha : DE X m1 a ta fa) (hb : DE X m2 b tb fb) : DE X m (.BinOp a op b pos) (tOp r ta tb) (f2 g fa fb) :=
  ⟨pe_op ho ha.p hb.p, sem_op hs ha.s hb.s⟩
theorem de_cmp {op : CmpOp} (ho : OpR X (compareOp op) r) (hs : OpS X.K m r g) (hm : behindInMarks op b = false) (ha : DE X m1 a ta fa) (hb : DE X m2 b tb fb) : DE X m (.Compare a [op] [b] pos) (tOp r ta tb) (f2 g fa fb) :=
  ⟨pe_cmpR ho ha.p hb.p hm, sem_op hs ha.s hb.s⟩
def boolD : D → Option Bool
  | .bool b => some b
  | _ => none
def fT (f : Rho → Option D) : Rho → Option Bool := fun ρ => (f ρ).bind boolD
theorem boolD_some {d : D} {b : Bool} (h : boolD d = some b) : d = .bool b := by
  cases d with
  | bool c => cases h; rfl
  | _ => cases h
theorem sem_test {K : PySem.W.Frag} {t : TE} {f : Rho → Option D} (h : SemE K m t f) : SemT K (tTest t) (fT f) := by
  intro B F H σ ρ b Q rel hf q
  obtain ⟨d, h1, h2⟩ := bind_some hf
  cases boolD_some h2
  refine h B F H σ ρ _ _ rel h1 fun x F1 H1 x1 r1 => ?_
  exact ⟨b, r1.bl, q F1 H1 x1⟩
theorem dt_cmp {op : CmpOp} (ho : OpR X (compareOp op) r) (hs : OpS X.K .fz r g) (hm : behindInMarks op b = false) (ha : DE X m1 a ta fa) (hb : DE X m2 b tb fb) : DT X (.Compare a [op] [b] pos) (tTest (tOp r ta tb)) (fT (f2 g fa fb)) :=
  ⟨pt_cmpR ho ha.p hb.p hm, sem_test (sem_op hs ha.s hb.s)⟩
/-! ints -/
theorem ops_I0 {K : PySem.W.Frag} {f : Int → Int → V} {g : D → D → Option D} {h : Int → Int → D} (hr : ∀ F i j, Rep K F (f i j) (h i j)) (hg : ∀ d e z, g d e = some z → ∃ i j, d = .int i ∧ e = .int j ∧ z = h i j) : OpS K .fz (rI0 f) g := by
  intro F H Ha Hb x y d e z Q fh r1 r2 hz q
  obtain ⟨i, j, rfl, rfl, rfl⟩ := hg d e z hz
  exact ⟨i, j, r1.int, r2.int, q _ F H (.refl fh) (hr F i j)⟩
theorem ops_I {K : PySem.W.Frag} {C : Int → Int → Prop} {f : Int → Int → V} {g : D → D → Option D} {h : Int → Int → D} (hr : ∀ F i j, Rep K F (f i j) (h i j)) (hg : ∀ d e z, g d e = some z → ∃ i j, d = .int i ∧ e = .int j ∧ C i j ∧ z = h i j) : OpS K .fz (rI C f) g := by
  intro F H Ha Hb x y d e z Q fh r1 r2 hz q
  obtain ⟨i, j, rfl, rfl, hc, rfl⟩ := hg d e z hz
  exact ⟨i, j, r1.int, r2.int, hc, q _ F H (.refl fh) (hr F i j)⟩
theorem OpS.or {K : PySem.W.Frag} {r r' : R2} {g g' : D → D → Option D} (h : OpS K m r g) (h' : OpS K m r' g') : OpS K m (fun x y H Q => r x y H Q ∨ r' x y H Q) (fun d e => (g d e).orElse fun _ => g' d e) := by
  intro F H Ha Hb x y d e z Q fh r1 r2 hz q
  have hz' : ((g d e).orElse fun _ => g' d e) = some z := hz
  cases hg : g d e with
  | some w =>
    rw [hg] at hz'
    cases hz'
    exact .inl (h F H Ha Hb x y d e z Q fh r1 r2 hg q)
  | none =>
    rw [hg] at hz'
    have e1 : g' d e = some z := hz'
    exact .inr (h' F H Ha Hb x y d e z Q fh r1 r2 e1 q)
theorem OpS.imp {K : PySem.W.Frag} {r : R2} {g g' : D → D → Option D} (h : OpS K m r g) (e : ∀ d e z, g' d e = some z → g d e = some z) : OpS K m r g' :=
  fun F H Ha Hb x y d e' z Q fh r1 r2 hz q => h F H Ha Hb x y d e' z Q fh r1 r2 (e _ _ _ hz) q
end
def subD : D → D → Option D
  | .int i, .int j => some (.int (i - j))
  | _, _ => none
/-- one factor below 2 ^ 64 -/
def mulI (i j : Int) : Option D := if (-(2 ^ 64) < i ∧ i < 2 ^ 64) ∨ (-(2 ^ 64) < j ∧ j < 2 ^ 64) then some (.int (i * j)) else none
def mulD : D → D → Option D
  | .int i, .int j => mulI i j
  | _, _ => none
def fdivD : D → D → Option D
  | .int i, .int j => if j ≠ 0 ∧ j.natAbs < 1073741824 then some (.int (i.fdiv j)) else none
  | _, _ => none
def modD : D → D → Option D
  | .int i, .int j => if j ≠ 0 then some (.int (i.fmod j)) else none
  | _, _ => none
def powD : D → D → Option D
  | .int i, .int j => if 0 ≤ j ∧ j ≤ 1000000 ∧ i.natAbs < 2 ^ 64 then some (.int (i ^ j.toNat)) else none
  | _, _ => none
section
variable {K : PySem.W.Frag}
theorem two_ints {g : D → D → Option D} {d e z : D} {h : Int → Int → Option D} (hz : g d e = some z) (hg : g = fun d e => match d, e with
  | .int i, .int j => h i j
  | _, _ => none) : ∃ i j, d = .int i ∧ e = .int j ∧ h i j = some z := by
  subst hg
  cases d with
  | int i =>
    cases e with
    | int j => exact ⟨i, j, rfl, rfl, hz⟩
    | _ => cases hz
  | _ => cases hz
theorem if_some {α : Type} {p : Prop} [Decidable p] {x z : α} (h : (if p then some x else none) = some z) : p ∧ x = z := by
  by_cases hp : p
  · rw [if_pos hp] at h; exact ⟨hp, Option.some.inj h⟩
  · rw [if_neg hp] at h; cases h
theorem ops_sub : OpS K .fz (rI0 fun i j => .int (i - j)) subD := ops_I0 (h := fun i j => .int (i - j)) (fun _ _ _ => .int _) fun d e z hz => by
  obtain ⟨i, j, h1, h2, h3⟩ := two_ints (h := fun i j => some (.int (i - j))) hz (by funext d e; cases d <;> cases e <;> rfl)
  exact ⟨i, j, h1, h2, (Option.some.inj h3).symm⟩
theorem ops_mul : OpS K .fz (rI CMul fun i j => .int (i * j)) mulD := ops_I (h := fun i j => .int (i * j)) (fun _ _ _ => .int _) fun d e z hz => by
  obtain ⟨i, j, h1, h2, h3⟩ := two_ints (h := mulI) hz (by funext d e; cases d <;> cases e <;> rfl)
  obtain ⟨h4, h5⟩ := if_some h3
  exact ⟨i, j, h1, h2, h4, h5.symm⟩
theorem ops_fdiv : OpS K .fz (rI CDivN fun i j => .int (i.fdiv j)) fdivD := ops_I (h := fun i j => .int (i.fdiv j)) (fun _ _ _ => .int _) fun d e z hz => by
  obtain ⟨i, j, h1, h2, h3⟩ := two_ints (h := fun i j => if j ≠ 0 ∧ j.natAbs < 1073741824 then some (.int (i.fdiv j)) else none) hz (by funext d e; cases d <;> cases e <;> rfl)
  obtain ⟨h4, h5⟩ := if_some h3
  exact ⟨i, j, h1, h2, h4, h5.symm⟩
theorem ops_mod : OpS K .fz (rI (fun _ j => j ≠ 0) fun i j => .int (i.fmod j)) modD := ops_I (h := fun i j => .int (i.fmod j)) (fun _ _ _ => .int _) fun d e z hz => by
  obtain ⟨i, j, h1, h2, h3⟩ := two_ints (h := fun i j => if j ≠ 0 then some (.int (i.fmod j)) else none) hz (by funext d e; cases d <;> cases e <;> rfl)
  obtain ⟨h4, h5⟩ := if_some h3
  exact ⟨i, j, h1, h2, h4, h5.symm⟩
theorem ops_pow : OpS K .fz (rI CPow fun i j => .int (i ^ j.toNat)) powD := ops_I (h := fun i j => .int (i ^ j.toNat)) (fun _ _ _ => .int _) fun d e z hz => by
  obtain ⟨i, j, h1, h2, h3⟩ := two_ints (h := fun i j => if 0 ≤ j ∧ j ≤ 1000000 ∧ i.natAbs < 2 ^ 64 then some (.int (i ^ j.toNat)) else none) hz (by funext d e; cases d <;> cases e <;> rfl)
  obtain ⟨h4, h5⟩ := if_some h3
  exact ⟨i, j, h1, h2, h4, h5.symm⟩
end

/-! ### a new tuple whose object is known -/
section
variable {X : Cx} {pins : List (Addr × Obj)} {σ : L2.St} {H : Hp} {s : Shared}
abbrev tupObj (its : Array Value) : Obj := { cls := .type "tuple", data := .seq its }
theorem _root_.L2.Inv.laidT {its : List Value} {xs : List V} {t' : Nat} (I : Inv X pins σ H s) (hv : Vals xs its) (hz : xs.length ≤ sizeLine) :
    Inv X pins σ (upd H s.heap.objs.size (.frz (tupObj its.toArray) (.tup xs))) { s with heap := s.heap.push (tupObj its.toArray), toks := t' } :=
  I.laid (fun _ _ q => Heap.get?_push_of_some _ q) (Nat.le_refl _) ⟨Heap.get?_push_size _ rfl, hz, its, hv, IsTup.new _ _⟩
end
/-- what a rule hands on of a new tuple -/
def NewT (xs : List V) (H : Hp) (Q : VK) : Prop := ∀ (p : Addr) (o : Obj), H p = none → o.cls = .type "tuple" → o.dict = none → Q (.ref p) (upd H p (.frz o (.tup xs)))
theorem newT_rep {K : PySem.W.Frag} {F H F' H' : Hp} {xs : List V} {ds : List D} (x : Ext F H F' H') (r : RepA K F' xs ds) {Q : VK} (q : ∀ v F2 H2, Ext F H F2 H2 → Rep K F2 v (.tuple ds) → Q v H2) : NewT xs H' Q := by
  intro p o hp h1 h2
  have x2 := ext_new (o := .frz o (.tup xs)) x hp
  exact q _ _ _ x2 (.tup (.inl ⟨o, upd_same, h1, h2⟩) (r.mono (same_upd (x.s.free hp))))
def NewL (xs : List V) (H : Hp) (Q : VK) : Prop := ∀ (p : Addr), H p = none → Q (.ref p) (upd H p (.lst xs))
theorem newL_res {K : PySem.W.Frag} {F H F' H' : Hp} {xs : List V} {ds : List D} (x : Ext F H F' H') (r : RepA K F' xs ds) {Q : VK} (q : ∀ v F2 H2, Ext F H F2 H2 → Res K .fr H F2 H2 v (.list ds) → Q v H2) : NewL xs H' Q := by
  intro p hp
  exact q _ _ _ (ext_own (o := .lst xs) x hp) ⟨p, rfl, x.h.free hp, x.s.free hp, xs, upd_same, r⟩
/-! ### + -/
def rCatF (K : PySem.W.Frag) : R2 := fun x y H Q => ∃ a b xs ys, x = .ref a ∧ y = .ref b ∧ SqT K H a xs ∧ SqT K H b ys ∧ xs.length + ys.length ≤ sizeLine ∧
  (xs = [] → Q (.ref b) H) ∧ (xs ≠ [] → ys = [] → Q (.ref a) H) ∧ (xs ≠ [] → ys ≠ [] → NewT (xs ++ ys) H Q)
def rCatL (K : PySem.W.Frag) : R2 := fun x y H Q => ∃ a b xs ys, x = .ref a ∧ y = .ref b ∧ SqL K H a xs ∧ SqL K H b ys ∧ xs.length + ys.length ≤ sizeLine ∧ NewL (xs ++ ys) H Q
section
variable {X : Cx}
theorem op_catF : OpR X (binaryOp .Add) (rCatF X.K) := by
  intro pins s σ H x y v u Q I rx ry h
  obtain ⟨a, b, xs, ys, rfl, rfl, ha, hb, hz, q0, q1, q2⟩ := h
  cases rx
  cases ry
  obtain ⟨its, r1, p1, _⟩ := I.tuple ha
  obtain ⟨its2, r2, p2, _⟩ := I.tuple hb
  by_cases hx : xs = []
  · subst hx
    cases r1
    exact cat_tup0 p1 p2 ⟨.ref b, H, I, rfl, q0 rfl⟩
  · refine HT.cat_tup p1 p2 (fun z => hx (r1.nil_iff.mp z)) (fun z => ⟨.ref a, H, I, rfl, q1 hx (r2.nil_iff.mp z)⟩) (fun z => ?_) (by rw [← r1.length, ← r2.length]; exact hz)
    exact ⟨.ref s.heap.objs.size, _, I.laidT (t' := s.toks) (r1.append r2) (by rw [List.length_append]; exact hz), rfl, q2 hx (fun w => z (r2.nil_iff.mpr w)) _ _ (I.hok.fresh (Nat.le_refl _)) rfl rfl⟩
theorem op_catLL : OpR X (binaryOp .Add) (rCatL X.K) := by
  intro pins s σ H x y v u Q I rx ry h
  obtain ⟨a, b, xs, ys, rfl, rfl, ha, hb, hz, q⟩ := h
  cases rx
  cases ry
  obtain ⟨its, r1, ⟨⟨c1, dd1, dt1, sl1⟩, n1, e1, hc1, hd1, hs1⟩, _⟩ := I.list ha
  obtain ⟨its2, r2, ⟨⟨c2, dd2, dt2, sl2⟩, n2, e2, hc2, hd2, hs2⟩, _⟩ := I.list hb
  simp only at hc1 hd1 hs1 hc2 hd2 hs2
  subst hc1 hd1 hs1 hc2 hd2 hs2
  have hz2 : its.toArray.size + its2.toArray.size ≤ sizeLine := by rw [List.size_toArray, List.size_toArray, ← r1.length, ← r2.length]; exact hz
  refine concat_meets ⟨_, e1, rfl⟩ ⟨_, e2, rfl⟩ noFill_list_add seq_list_add PySem.F.slot_list_add PySem.F.entry_list_add (PySem.F.args_list_add_2 _ _) (list_addW a b its.toArray its2.toArray n1 n2 none none sl1 sl2 hz2) ⟨e1, e2, ?_⟩
  have ea : its.toArray ++ its2.toArray = (its ++ its2).toArray := by simp
  rw [ea]
  exact ⟨.ref s.heap.objs.size, _, I.lnew (t' := s.toks) (r1.append r2) (by rw [List.length_append]; exact hz), rfl, q _ I.fresh⟩
theorem op_catLLK (K' : PySem.W.Frag) (hK : X.K = K' := by rfl) : OpR X (binaryOp .Add) (rCatL K') := by
  subst hK
  exact op_catLL 
end
def addD : D → D → Option D
  | .int i, .int j => some (.int (i + j))
  | .str a, .str b => if a.length + b.length ≤ sizeLine then some (.str (a ++ b)) else none
  | .tuple xs, .tuple ys => if xs.length + ys.length ≤ sizeLine then some (.tuple (xs ++ ys)) else none
  | .list xs, .list ys => if xs.length + ys.length ≤ sizeLine then some (.list (xs ++ ys)) else none
  | _, _ => none
def catLD : D → D → Option D
  | .list xs, .list ys => if xs.length + ys.length ≤ sizeLine then some (.list (xs ++ ys)) else none
  | _, _ => none
def addB : D → D → Option D
  | .int i, .int j => some (.int (i + j))
  | .str a, .str b => if a.length + b.length ≤ sizeLine then some (.str (a ++ b)) else none
  | .tuple xs, .tuple ys => if xs.length + ys.length ≤ sizeLine then some (.tuple (xs ++ ys)) else none
  | _, _ => none
def rAddA (K : PySem.W.Frag) : R2 := fun x y H Q => (rI0 (fun i j => .int (i + j)) x y H Q ∨ (∃ i j, x = .str i ∧ y = .str j ∧ i.length + j.length ≤ sizeLine ∧ Q (.str (i ++ j)) H)) ∨ (rCatF K x y H Q ∨ rCatL K x y H Q)
theorem op_addA {X : Cx} : OpR X (binaryOp .Add) (rAddA X.K) := (op_add.or op_add_str).or (op_catF.or op_catLL)
theorem op_addAK {X : Cx} (K' : PySem.W.Frag) (hK : X.K = K' := by rfl) : OpR X (binaryOp .Add) (rAddA K') := by
  subst hK
  exact op_addA 
theorem ops_catL {K : PySem.W.Frag} : OpS K .fr (rCatL K) catLD := by
  intro F H Ha Hb x y d e z Q fh r1 r2 hz q
  cases d with
  | list xs =>
    cases e with
    | list ys =>
      obtain ⟨hl, rfl⟩ := if_some hz
      obtain ⟨a, vs, rfl, s1, p1⟩ := r1.list fh
      obtain ⟨b, ws, rfl, s2, p2⟩ := r2.list fh
      exact ⟨a, b, vs, ws, rfl, rfl, s1, s2, by rw [p1.length, p2.length]; exact hl, newL_res (.refl fh) (p1.append p2) q⟩
    | _ => cases hz
  | _ => cases hz
theorem ops_addA {K : PySem.W.Frag} : OpS K .fz (rAddA K) addD := by
  intro F H Ha Hb x y d e z Q fh r1 r2 hz q
  cases d with
  | int i =>
    cases e with
    | int j => cases hz; exact .inl (.inl ⟨i, j, r1.int, r2.int, q _ F H (.refl fh) (Rep.int _)⟩)
    | _ => cases hz
  | str i =>
    cases e with
    | str j =>
      obtain ⟨hl, rfl⟩ := if_some hz
      exact .inl (.inr ⟨i, j, r1.str, r2.str, hl, q _ F H (.refl fh) (Rep.str _)⟩)
    | _ => cases hz
  | tuple xs =>
    cases e with
    | tuple ys =>
      obtain ⟨hl, rfl⟩ := if_some hz
      obtain ⟨a, vs, rfl, s1, p1⟩ := r1.tup fh
      obtain ⟨b, ws, rfl, s2, p2⟩ := r2.tup fh
      have t1 := (Res.rep r1 (fun _ z => nomatch z))
      have t2 := (Res.rep r2 (fun _ z => nomatch z))
      refine .inr (.inl ⟨a, b, vs, ws, rfl, rfl, s1.sq, s2.sq, by rw [p1.length, p2.length]; exact hl, fun e0 => ?_, fun _ e0 => ?_, fun _ _ => newT_rep (.refl fh) (p1.append p2) q⟩)
      · subst e0; cases p1; exact q _ F H (.refl fh) t2
      · subst e0
        cases p2
        have t1' : Rep K F (.ref a) (.tuple (xs ++ [])) := by rw [List.append_nil]; exact t1
        exact q _ F H (.refl fh) t1'
    | _ => cases hz
  | list xs =>
    cases e with
    | list ys =>
      refine .inr (.inr (ops_catL F H Ha Hb x y _ _ z Q fh r1 r2 hz fun v F' H' x' r' => ?_))
      obtain ⟨F2, x2, r3⟩ := fr_fz x' r'
      -- the new list frozen
      exact (q v F2 H' x2 r3)
    | _ => cases hz
  | _ => cases hz
end Q
end

/-! part: Q3 -/
section
set_option Elab.async false
set_option linter.all false
set_option maxRecDepth 100000
set_option maxHeartbeats 4000000
namespace Q
open PySem PySem.Spec PyProof.Rows L2
/-! ### comparisons of data -/
def eqD (d e : D) : Option D := if SeqAt.shaped d = true ∧ SeqAt.shaped e = true then some (.bool (PyData.eqv d e)) else none
def neD (d e : D) : Option D := if SeqAt.shaped d = true ∧ SeqAt.shaped e = true then some (.bool (!PyData.eqv d e)) else none
theorem ops_eq {K : PySem.W.Frag} : OpS K .fz (rEqD K) eqD := by
  intro F H Ha Hb x y d e z Q fh r1 r2 hz q
  obtain ⟨⟨h1, h2⟩, rfl⟩ := if_some hz
  exact ⟨d, e, r1.dp fh, r2.dp fh, h1, h2, q _ F H (.refl fh) (Rep.bl _)⟩
theorem ops_ne {K : PySem.W.Frag} : OpS K .fz (rNeD K) neD := by
  intro F H Ha Hb x y d e z Q fh r1 r2 hz q
  obtain ⟨⟨h1, h2⟩, rfl⟩ := if_some hz
  exact ⟨d, e, r1.dp fh, r2.dp fh, h1, h2, q _ F H (.refl fh) (Rep.bl _)⟩
/-- may the two be compared by their order -/
def ordOk (d e : D) : Bool := PySem.W.alike d e && (match d with
  | .none => false
  | _ => true) && decide (d.depth ≤ 64)
def ltD (d e : D) : Option D := if ordOk d e = true then some (.bool (PySem.W.dataLt d e)) else none
def gtD (d e : D) : Option D := if ordOk d e = true then some (.bool (PySem.W.dataLt e d)) else none
def leD (d e : D) : Option D := if ordOk d e = true then some (.bool (!PySem.W.dataLt e d)) else none
def geD (d e : D) : Option D := if ordOk d e = true then some (.bool (!PySem.W.dataLt d e)) else none
theorem ordOk_of {d e : D} (h : ordOk d e = true) : PySem.W.alike d e = true ∧ d ≠ .none ∧ d.depth ≤ 64 := by
  unfold ordOk at h
  simp only [Bool.and_eq_true, decide_eq_true_eq] at h
  obtain ⟨⟨h1, h2⟩, h3⟩ := h
  refine ⟨h1, fun z => ?_, h3⟩
  subst z
  cases h2
def rOrd (K : PySem.W.Frag) (k : D → D → Bool) : R2 := fun x y H Q => ∃ d e, Dp K H x d ∧ Dp K H y e ∧ ordOk d e = true ∧ Q (.bl (k d e)) H
section
variable {X : Cx}
theorem min_depth {A : Around} {d e : D} (h : d.depth ≤ 64) (hu : A.units + 64 < cLine) : A.units + min d.depth e.depth < cLine := by
  have : min d.depth e.depth ≤ d.depth := Nat.min_le_left _ _
  omega
theorem op_lt_ (hu : X.A.units + 64 < cLine) : OpR X (compareOp .Lt) (rOrd X.K fun d e => PySem.W.dataLt d e) := by
  intro pins s σ H x y v u Q I rx ry h
  obtain ⟨d, e, hd, he, ok, q⟩ := h
  obtain ⟨as, r1⟩ := Dp.reads I d x v hd rx
  obtain ⟨bs, r2⟩ := Dp.reads I e y u he ry
  obtain ⟨h1, h2, h3⟩ := ordOk_of ok
  exact PySem.W.lt_data r1 r2 h1 h2 (min_depth h3 hu) ⟨.bl _, H, I, rfl, q⟩
theorem op_lt_K (K' : PySem.W.Frag) (hu : X.A.units + 64 < cLine) (hK : X.K = K' := by rfl) : OpR X (compareOp .Lt) (rOrd K' fun d e => PySem.W.dataLt d e) := by
  subst hK
  exact op_lt_ (hu := hu)
theorem op_gt_ (hu : X.A.units + 64 < cLine) : OpR X (compareOp .Gt) (rOrd X.K fun d e => PySem.W.dataLt e d) := by
  intro pins s σ H x y v u Q I rx ry h
  obtain ⟨d, e, hd, he, ok, q⟩ := h
  obtain ⟨as, r1⟩ := Dp.reads I d x v hd rx
  obtain ⟨bs, r2⟩ := Dp.reads I e y u he ry
  obtain ⟨h1, h2, h3⟩ := ordOk_of ok
  exact PySem.W.gt_data r1 r2 h1 h2 (min_depth h3 hu) ⟨.bl _, H, I, rfl, q⟩
theorem op_gt_K (K' : PySem.W.Frag) (hu : X.A.units + 64 < cLine) (hK : X.K = K' := by rfl) : OpR X (compareOp .Gt) (rOrd K' fun d e => PySem.W.dataLt e d) := by
  subst hK
  exact op_gt_ (hu := hu)
theorem op_le_ (hu : X.A.units + 64 < cLine) : OpR X (compareOp .LtE) (rOrd X.K fun d e => !PySem.W.dataLt e d) := by
  intro pins s σ H x y v u Q I rx ry h
  obtain ⟨d, e, hd, he, ok, q⟩ := h
  obtain ⟨as, r1⟩ := Dp.reads I d x v hd rx
  obtain ⟨bs, r2⟩ := Dp.reads I e y u he ry
  obtain ⟨h1, h2, h3⟩ := ordOk_of ok
  exact PySem.W.le_data r1 r2 h1 h2 (min_depth h3 hu) ⟨.bl _, H, I, rfl, q⟩
theorem op_le_K (K' : PySem.W.Frag) (hu : X.A.units + 64 < cLine) (hK : X.K = K' := by rfl) : OpR X (compareOp .LtE) (rOrd K' fun d e => !PySem.W.dataLt e d) := by
  subst hK
  exact op_le_ (hu := hu)
theorem op_ge_ (hu : X.A.units + 64 < cLine) : OpR X (compareOp .GtE) (rOrd X.K fun d e => !PySem.W.dataLt d e) := by
  intro pins s σ H x y v u Q I rx ry h
  obtain ⟨d, e, hd, he, ok, q⟩ := h
  obtain ⟨as, r1⟩ := Dp.reads I d x v hd rx
  obtain ⟨bs, r2⟩ := Dp.reads I e y u he ry
  obtain ⟨h1, h2, h3⟩ := ordOk_of ok
  exact PySem.W.ge_data r1 r2 h1 h2 (min_depth h3 hu) ⟨.bl _, H, I, rfl, q⟩
theorem op_ge_K (K' : PySem.W.Frag) (hu : X.A.units + 64 < cLine) (hK : X.K = K' := by rfl) : OpR X (compareOp .GtE) (rOrd K' fun d e => !PySem.W.dataLt d e) := by
  subst hK
  exact op_ge_ (hu := hu)
end
theorem ops_ord {K : PySem.W.Frag} {k : D → D → Bool} : OpS K .fz (rOrd K k) (fun d e => if ordOk d e = true then some (.bool (k d e)) else none) := by
  intro F H Ha Hb x y d e z Q fh r1 r2 hz q
  obtain ⟨h1, rfl⟩ := if_some hz
  exact ⟨d, e, r1.dp fh, r2.dp fh, h1, q _ F H (.refl fh) (Rep.bl _)⟩
theorem ops_lt {K : PySem.W.Frag} : OpS K .fz (rOrd K fun d e => PySem.W.dataLt d e) ltD := ops_ord
theorem ops_gt {K : PySem.W.Frag} : OpS K .fz (rOrd K fun d e => PySem.W.dataLt e d) gtD := ops_ord
theorem ops_le {K : PySem.W.Frag} : OpS K .fz (rOrd K fun d e => !PySem.W.dataLt e d) leD := ops_ord
theorem ops_ge {K : PySem.W.Frag} : OpS K .fz (rOrd K fun d e => !PySem.W.dataLt d e) geD := ops_ord
/-! ### is -/
def isNoneD (d : D) : Bool := match d with
  | .none => true
  | _ => false
def rIsN : R2 := fun x y H Q => y = .non ∧ Q (.bl (decide (x = .non))) H
def rNotN : R2 := fun x y H Q => y = .non ∧ Q (.bl (!decide (x = .non))) H
def isND (d e : D) : Option D := match e with
  | .none => some (.bool (isNoneD d))
  | _ => none
def notND (d e : D) : Option D := match e with
  | .none => some (.bool (!isNoneD d))
  | _ => none
theorem res_none_iff {K : PySem.W.Frag} {H0 F H : Hp} {x : V} {d : D} (h : Res K .pk H0 F H x d) : decide (x = .non) = isNoneD d := by
  rcases h with h | ⟨a, rfl, _, o⟩
  · cases h <;> simp [isNoneD]
  · cases d with
    | list ds => simp [isNoneD]
    | _ => exact o.elim
theorem ops_isN {K : PySem.W.Frag} : OpS K .fz rIsN isND := by
  intro F H Ha Hb x y d e z Q fh r1 r2 hz q
  cases e with
  | none =>
    cases hz
    refine ⟨r2.non, ?_⟩
    rw [res_none_iff r1]
    exact q _ F H (.refl fh) (Rep.bl _)
  | _ => cases hz
theorem ops_notN {K : PySem.W.Frag} : OpS K .fz rNotN notND := by
  intro F H Ha Hb x y d e z Q fh r1 r2 hz q
  cases e with
  | none =>
    cases hz
    refine ⟨r2.non, ?_⟩
    rw [res_none_iff r1]
    exact q _ F H (.refl fh) (Rep.bl _)
  | _ => cases hz
def isBD (d e : D) : Option D := match d, e with
  | .bool a, .bool b => some (.bool (decide (a = b)))
  | _, _ => none
def notBD (d e : D) : Option D := match d, e with
  | .bool a, .bool b => some (.bool (!decide (a = b)))
  | _, _ => none
theorem ops_isB {K : PySem.W.Frag} : OpS K .fz rIsB isBD := by
  intro F H Ha Hb x y d e z Q fh r1 r2 hz q
  cases d with
  | bool a =>
    cases e with
    | bool b => cases hz; exact ⟨a, b, r1.bl, r2.bl, q _ F H (.refl fh) (Rep.bl _)⟩
    | _ => cases hz
  | _ => cases hz
theorem ops_notB {K : PySem.W.Frag} : OpS K .fz rNotB notBD := by
  intro F H Ha Hb x y d e z Q fh r1 r2 hz q
  cases d with
  | bool a =>
    cases e with
    | bool b => cases hz; exact ⟨a, b, r1.bl, r2.bl, q _ F H (.refl fh) (Rep.bl _)⟩
    | _ => cases hz
  | _ => cases hz
/-! ### in -/
def memD (d : D) (ds : List D) : Bool := ds.any fun z => PyData.eqv z d
def itemsD : D → Option (List D)
  | .list ds => some ds
  | .tuple ds => some ds
  | _ => none
def inD (d e : D) : Option D := (itemsD e).bind fun ds => if SeqAt.shaped d = true ∧ SeqAt.shaped e = true then some (.bool (memD d ds)) else none
def notInD (d e : D) : Option D := (itemsD e).bind fun ds => if SeqAt.shaped d = true ∧ SeqAt.shaped e = true then some (.bool (!memD d ds)) else none
def rIn_ (K : PySem.W.Frag) (k : Bool → Bool) : R2 := fun x y H Q => ∃ d e ds, Dp K H x d ∧ Dp K H y e ∧ itemsD e = some ds ∧ SeqAt.shaped d = true ∧ SeqAt.shaped e = true ∧ Q (.bl (k (memD d ds))) H
section
variable {X : Cx}
theorem room_in {A : Around} {d : D} {ds : List D} (sd : SeqAt.shaped d = true) (hu : A.units + 65 < cLine) : A.units + 1 + min (PyData.depthAll ds) d.depth < cLine := by
  have h1 := SeqAt.depth_of_shaped sd
  have h2 : min (PyData.depthAll ds) d.depth ≤ d.depth := Nat.min_le_right _ _
  omega
theorem op_in_ (hu : X.A.units + 65 < cLine) : OpR X (compareOp .In) (rIn_ X.K id) := by
  intro pins s σ H x y v u Q I rx ry h
  obtain ⟨d, e, ds, hd, he, hi, sd, se, q⟩ := h
  obtain ⟨as, r1⟩ := Dp.reads I d x v hd rx
  obtain ⟨bs, r2⟩ := Dp.reads I e y u he ry
  cases e with
  | list es => cases hi; exact SeqAt.in_list_reads r2 r1 (SeqAt.canLay_of_shaped se) (SeqAt.canLay_of_shaped sd) (room_in sd hu) ⟨.bl _, H, I, rfl, q⟩
  | tuple es => cases hi; exact SeqAt.in_tuple_reads r2 r1 (SeqAt.canLay_of_shaped se) (SeqAt.canLay_of_shaped sd) (room_in sd hu) ⟨.bl _, H, I, rfl, q⟩
  | _ => cases hi
theorem op_in_K (K' : PySem.W.Frag) (hu : X.A.units + 65 < cLine) (hK : X.K = K' := by rfl) : OpR X (compareOp .In) (rIn_ K' id) := by
  subst hK
  exact op_in_ (hu := hu)
theorem op_notIn_ (hu : X.A.units + 65 < cLine) : OpR X (compareOp .NotIn) (rIn_ X.K not) := by
  intro pins s σ H x y v u Q I rx ry h
  obtain ⟨d, e, ds, hd, he, hi, sd, se, q⟩ := h
  obtain ⟨as, r1⟩ := Dp.reads I d x v hd rx
  obtain ⟨bs, r2⟩ := Dp.reads I e y u he ry
  cases e with
  | list es => cases hi; exact SeqAt.notIn_list_reads r2 r1 (SeqAt.canLay_of_shaped se) (SeqAt.canLay_of_shaped sd) (room_in sd hu) ⟨.bl _, H, I, rfl, q⟩
  | tuple es => cases hi; exact SeqAt.notIn_tuple_reads r2 r1 (SeqAt.canLay_of_shaped se) (SeqAt.canLay_of_shaped sd) (room_in sd hu) ⟨.bl _, H, I, rfl, q⟩
  | _ => cases hi
theorem op_notIn_K (K' : PySem.W.Frag) (hu : X.A.units + 65 < cLine) (hK : X.K = K' := by rfl) : OpR X (compareOp .NotIn) (rIn_ K' not) := by
  subst hK
  exact op_notIn_ (hu := hu)
end
theorem ops_in_ {K : PySem.W.Frag} {k : Bool → Bool} : OpS K .fz (rIn_ K k) (fun d e => (itemsD e).bind fun ds => if SeqAt.shaped d = true ∧ SeqAt.shaped e = true then some (.bool (k (memD d ds))) else none) := by
  intro F H Ha Hb x y d e z Q fh r1 r2 hz q
  obtain ⟨ds, h0, hz⟩ := bind_some hz
  obtain ⟨⟨h1, h2⟩, rfl⟩ := if_some hz
  exact ⟨d, e, ds, r1.dp fh, r2.dp fh, h0, h1, h2, q _ F H (.refl fh) (Rep.bl _)⟩
theorem ops_in {K : PySem.W.Frag} : OpS K .fz (rIn_ K id) inD := ops_in_
theorem ops_notIn {K : PySem.W.Frag} : OpS K .fz (rIn_ K not) notInD := ops_in_
/-! ### xs[i] -/
def ixD : D → D → Option D
  | .list ds, .int i => atI ds i
  | .tuple ds, .int i => atI ds i
  | .str z, .int i => if z.length ≤ sizeLine then (atI z.cps.toList i).map fun c => .str ⟨#[c]⟩ else none
  | _, _ => none
theorem repA_atI {K : PySem.W.Frag} {F : Hp} {vs : List V} {ds : List D} {i : Int} {d : D} (r : RepA K F vs ds) (h : atI ds i = some d) : ∃ v, atI vs i = some v ∧ Rep K F v d := by
  unfold atI at h ⊢
  rw [r.length]
  obtain ⟨j, h1, h2⟩ := bind_some h
  rw [h1]
  obtain ⟨v, h3, h4⟩ := r.get h2
  exact ⟨v, h3, h4⟩
theorem ops_ix {K : PySem.W.Frag} : OpS K .fz (rIx K) ixD := by
  intro F H Ha Hb x y d e z Q fh r1 r2 hz q
  cases e with
  | int i =>
    cases d with
    | list ds =>
      obtain ⟨a, xs, rfl, s1, p1⟩ := r1.list fh
      obtain ⟨v, h1, h2⟩ := repA_atI p1 hz
      exact .inl ⟨a, xs, i, v, rfl, r2.int, s1, h1, q _ F H (.refl fh) h2⟩
    | tuple ds =>
      obtain ⟨a, xs, rfl, s1, p1⟩ := r1.tup fh
      obtain ⟨v, h1, h2⟩ := repA_atI p1 hz
      exact .inr (.inl ⟨a, xs, i, v, rfl, r2.int, s1.sq, h1, q _ F H (.refl fh) h2⟩)
    | str s =>
      by_cases hl : s.length ≤ sizeLine
      · have hz' : (if s.length ≤ sizeLine then (atI s.cps.toList i).map fun c => PyData.str ⟨#[c]⟩ else none) = some z := hz
        rw [if_pos hl] at hz'
        obtain ⟨c, h1, h2⟩ := Option.map_eq_some_iff.mp hz'
        subst h2
        exact .inr (.inr ⟨s, i, c, r1.str, r2.int, hl, h1, q _ F H (.refl fh) (Rep.str _)⟩)
      · have hz' : (if s.length ≤ sizeLine then (atI s.cps.toList i).map fun c => PyData.str ⟨#[c]⟩ else none) = some z := hz
        rw [if_neg hl] at hz'
        cases hz'
    | _ => cases hz
  | _ => cases d <;> cases hz
section
variable {X : Cx} {a b c : Expr} {ta tb tc : TE} {pos : Pos} {m m1 m2 m3 : Md} {r r' : R2} {g g' : D → D → Option D} {fa fb fc : Rho → Option D}
theorem de_ix (ha : DE X m1 a ta fa) (hb : DE X m2 b tb fb) (hs : PlainIx b := by exact fun _ _ => rfl) : DE X .fz (.Subscript a b pos) (tOp (rIx X.K) ta tb) (f2 ixD fa fb) :=
  ⟨pe_ix ix_seq ha.p hb.p hs, sem_op ops_ix ha.s hb.s⟩
theorem de_ixK (K' : PySem.W.Frag) (ha : DE X m1 a ta fa) (hb : DE X m2 b tb fb) (hs : PlainIx b := by exact fun _ _ => rfl) (hK : X.K = K' := by rfl) : DE X .fz (.Subscript a b pos) (tOp (rIx K') ta tb) (f2 ixD fa fb) := by
  subst hK
  exact de_ix (ha := ha) (hb := hb) (hs := hs)
/-! ### a op b op' c -/
def f3 (g g' : D → D → Option D) (fa fb fc : Rho → Option D) : Rho → Option D := fun ρ => (fa ρ).bind fun x => (fb ρ).bind fun y => (g x y).bind fun z => match z with
  | .bool true => (fc ρ).bind fun w => g' y w
  | .bool false => some (.bool false)
  | _ => none
theorem sem_chain {K : PySem.W.Frag} (hs : OpS K .fz r g) (hs' : OpS K .fz r' g') (ha : SemE K m1 ta fa) (hb : SemE K m2 tb fb) (hc : SemE K m3 tc fc) : SemE K .fz (tChain r r' ta tb tc) (f3 g g' fa fb fc) := by
  intro B F H σ ρ z Q rel hf q
  obtain ⟨d, h1, h2⟩ := bind_some hf
  obtain ⟨e, h3, h4⟩ := bind_some h2
  obtain ⟨k, h5, h6⟩ := bind_some h4
  refine ha B F H σ ρ d _ rel h1 fun x F1 H1 x1 r1 => ?_
  refine hb B F1 H1 σ ρ e _ (rel.ext x1) h3 fun y F2 H2 x2 r2 => ?_
  refine hs F2 H2 H H1 x y d e k _ x2.s (r1.mono x2).any r2.any h5 fun v F3 H3 x3 r3 => ?_
  have x03 := (x1.trans x2).trans x3
  cases k with
  | bool k =>
    refine ⟨k, Res.bl (m := .fz) (H0 := H) (H := H3) r3, ?_⟩
    cases k with
    | true =>
      obtain ⟨w, h7, h8⟩ := bind_some (show ((fc ρ).bind fun w => g' e w) = some z from h6)
      show tc σ H3 _
      refine hc B F3 H3 σ ρ w _ (rel.ext x03) h7 fun u F4 H4 x4 r4 => ?_
      exact hs' F4 H4 H1 H3 y u e w z _ x4.s ((r2.mono x3).mono x4).any r4.any h8 fun v5 F5 H5 x5 r5 => q v5 F5 H5 ((x03.trans x4).trans x5) r5
    | false =>
      have e1 : z = .bool false := (Option.some.inj (show some (PyData.bool false) = some z from h6)).symm
      subst e1
      show Q (.bl false) H3
      exact q _ F3 H3 x03 (Rep.bl false)
  | _ => exact nomatch (show (none : Option D) = some z from h6)
theorem de_chain {op op' : CmpOp} (ho : OpR X (compareOp op) r) (ho' : OpR X (compareOp op') r') (hs : OpS X.K .fz r g) (hs' : OpS X.K .fz r' g') (ha : DE X m1 a ta fa) (hb : DE X m2 b tb fb) (hc : DE X m3 c tc fc)
    (hm : lastMarks [op, op'] [b, c] = false := by with_unfolding_all rfl) : DE X .fz (.Compare a [op, op'] [b, c] pos) (tChain r r' ta tb tc) (f3 g g' fa fb fc) :=
  ⟨pe_chain ho ho' ha.p hb.p hc.p hm, sem_chain hs hs' ha.s hb.s hc.s⟩
theorem dt_chain {op op' : CmpOp} (ho : OpR X (compareOp op) r) (ho' : OpR X (compareOp op') r') (hs : OpS X.K .fz r g) (hs' : OpS X.K .fz r' g') (ha : DE X m1 a ta fa) (hb : DE X m2 b tb fb) (hc : DE X m3 c tc fc)
    (hm : lastMarks [op, op'] [b, c] = false := by with_unfolding_all rfl) : DT X (.Compare a [op, op'] [b, c] pos) (tTest (tChain r r' ta tb tc)) (fT (f3 g g' fa fb fc)) :=
  ⟨pt_chain ho ho' ha.p hb.p hc.p hm, sem_test (sem_chain hs hs' ha.s hb.s hc.s)⟩
/-! ### truth, and, or, not, if -/
def truD : D → Option Bool
  | .none => some false
  | .bool b => some b
  | .int i => some (i != 0)
  | .str z => if z.length ≤ sizeLine then some ((z.length : Int) != 0) else none
  | .list ds => some (!ds.isEmpty)
  | .tuple ds => some (!ds.isEmpty)
  | .dict _ => none
theorem isEmpty_len {α β : Type} {xs : List α} {ys : List β} (h : xs.length = ys.length) : xs.isEmpty = ys.isEmpty := by
  cases xs <;> cases ys <;> first | rfl | (simp at h)
theorem truV_of {K : PySem.W.Frag} {H0 F H : Hp} {x : V} {d : D} {b : Bool} (r : Res K m H0 F H x d) (fh : Same F H) (h : truD d = some b) : TruV K x H b := by
  cases d with
  | none => rw [r.non]; cases h; rfl
  | bool k => rw [r.bl]; cases h; rfl
  | int i => rw [r.int]; cases h; rfl
  | str z =>
    rw [r.str]
    obtain ⟨h1, h2⟩ := if_some h
    exact ⟨h1, h2.symm⟩
  | list ds =>
    obtain ⟨a, xs, rfl, s1, p1⟩ := r.list fh
    cases h
    exact .inl ⟨xs, s1, by rw [isEmpty_len p1.length]⟩
  | tuple ds =>
    obtain ⟨a, xs, rfl, s1, p1⟩ := r.tup fh
    cases h
    exact .inr (.inl ⟨xs, s1.sq, by rw [isEmpty_len p1.length]⟩)
  | dict _ => cases h
def fTr (f : Rho → Option D) : Rho → Option Bool := fun ρ => (f ρ).bind truD
theorem dt_tru (ha : DE X m a ta fa) (he : ∀ whole, isTrue a X.env whole = (do let v ← whole; standAt a.pos; holding [v] (truthy v)) := by intro _; rfl) : DT X a (fun σ H Q => ta σ H fun x H' => ∃ k, TruV X.K x H' k ∧ Q k H') (fTr fa) :=
  ⟨pt_truth ha.p he, fun B F H σ ρ b Q rel hf q => by
    obtain ⟨d, h1, h2⟩ := bind_some hf
    exact ha.s B F H σ ρ d _ rel h1 fun x F1 H1 x1 r1 => ⟨b, truV_of r1 x1.s h2, q F1 H1 x1⟩⟩
theorem dt_truK (K' : PySem.W.Frag) (ha : DE X m a ta fa) (he : ∀ whole, isTrue a X.env whole = (do let v ← whole; standAt a.pos; holding [v] (truthy v)) := by intro _; rfl) (hK : X.K = K' := by rfl) : DT X a (fun σ H Q => ta σ H fun x H' => ∃ k, TruV K' x H' k ∧ Q k H') (fTr fa) := by
  subst hK
  exact dt_tru (ha := ha) (he := he)
def fNotT (f : Rho → Option Bool) : Rho → Option Bool := fun ρ => (f ρ).map not
def fAndT (f g : Rho → Option Bool) : Rho → Option Bool := fun ρ => (f ρ).bind fun b => if b = true then g ρ else some false
def fOrT (f g : Rho → Option Bool) : Rho → Option Bool := fun ρ => (f ρ).bind fun b => if b = true then some true else g ρ
variable {tt tu : TT} {ft fu : Rho → Option Bool} {rest : List Expr}
theorem dt_not (ha : DT X a tt ft) : DT X (.UnaryOp .Not a pos) (tNot tt) (fNotT ft) := ⟨pt_not ha.p, fun B F H σ ρ b Q rel hf q => by
  obtain ⟨c, h1, rfl⟩ := Option.map_eq_some_iff.mp hf
  exact ha.s B F H σ ρ c _ rel h1 fun F1 H1 x1 => q F1 H1 x1⟩
/-- a row of and, of or -/
structure DW (X : Cx) (e : Expr) (t : TT) (f : Rho → Option Bool) : Prop where
  p : PW X e t
  s : SemT X.K t f
theorem dw_and1 (ha : DT X a tt ft) : DW X (.BoolOp .And [a] pos) tt ft := ⟨pw_and1 ha.p, ha.s⟩
theorem dw_or1 (ha : DT X a tt ft) : DW X (.BoolOp .Or [a] pos) tt ft := ⟨pw_or1 ha.p, ha.s⟩
theorem sem_and {K : PySem.W.Frag} (ha : SemT K tt ft) (hb : SemT K tu fu) : SemT K (tAnd tt tu) (fAndT ft fu) := by
  intro B F H σ ρ b Q rel hf q
  obtain ⟨c, h1, h2⟩ := bind_some hf
  refine ha B F H σ ρ c _ rel h1 fun F1 H1 x1 => ?_
  cases c with
  | true => exact hb B F1 H1 σ ρ b _ (rel.ext x1) h2 fun F2 H2 x2 => q F2 H2 (x1.trans x2)
  | false =>
    cases (show some false = some b from h2)
    exact q F1 H1 x1
theorem sem_or {K : PySem.W.Frag} (ha : SemT K tt ft) (hb : SemT K tu fu) : SemT K (tOr tt tu) (fOrT ft fu) := by
  intro B F H σ ρ b Q rel hf q
  obtain ⟨c, h1, h2⟩ := bind_some hf
  refine ha B F H σ ρ c _ rel h1 fun F1 H1 x1 => ?_
  cases c with
  | false => exact hb B F1 H1 σ ρ b _ (rel.ext x1) h2 fun F2 H2 x2 => q F2 H2 (x1.trans x2)
  | true =>
    cases (show some true = some b from h2)
    exact q F1 H1 x1
theorem dw_and (ha : DT X a tt ft) (hb : DW X (.BoolOp .And (b :: rest) pos) tu fu) : DW X (.BoolOp .And (a :: b :: rest) pos) (tAnd tt tu) (fAndT ft fu) := ⟨pw_and ha.p hb.p, sem_and ha.s hb.s⟩
theorem dw_or (ha : DT X a tt ft) (hb : DW X (.BoolOp .Or (b :: rest) pos) tu fu) : DW X (.BoolOp .Or (a :: b :: rest) pos) (tOr tt tu) (fOrT ft fu) := ⟨pw_or ha.p hb.p, sem_or ha.s hb.s⟩
theorem dt_w {e : Expr} (h : DW X e tt ft) : DT X e tt ft := ⟨h.p.pt, h.s⟩
/-- .. as values -/
def fNot (f : Rho → Option D) : Rho → Option D := fun ρ => ((f ρ).bind truD).map fun b => .bool (!b)
def fAnd (f g : Rho → Option D) : Rho → Option D := fun ρ => (f ρ).bind fun d => (truD d).bind fun b => if b = true then g ρ else some d
def fOr (f g : Rho → Option D) : Rho → Option D := fun ρ => (f ρ).bind fun d => (truD d).bind fun b => if b = true then some d else g ρ
theorem de_not (ha : DE X m a ta fa) : DE X .fz (.UnaryOp .Not a pos) (tNotT X.K ta) (fNot fa) := ⟨pe_notT ha.p, fun B F H σ ρ d Q rel hf q => by
  obtain ⟨c, h1, rfl⟩ := Option.map_eq_some_iff.mp hf
  obtain ⟨d, h2, h3⟩ := bind_some h1
  exact ha.s B F H σ ρ d _ rel h2 fun x F1 H1 x1 r1 => ⟨c, truV_of r1 x1.s h3, q _ F1 H1 x1 (Rep.bl _)⟩⟩
theorem de_notK (K' : PySem.W.Frag) (ha : DE X m a ta fa) (hK : X.K = K' := by rfl) : DE X .fz (.UnaryOp .Not a pos) (tNotT K' ta) (fNot fa) := by
  subst hK
  exact de_not (ha := ha)
theorem de_one {op} (h : DE X m a ta fa) : DE X m (.BoolOp op [a] pos) ta fa := ⟨pe_one h.p, h.s⟩
theorem de_and (ha : DE X .fz a ta fa) (hb : DE X .fz (.BoolOp .And (b :: rest) pos) tb fb) : DE X .fz (.BoolOp .And (a :: b :: rest) pos) (tAndT X.K ta tb) (fAnd fa fb) := ⟨pe_andT ha.p hb.p, fun B F H σ ρ d Q rel hf q => by
  obtain ⟨d1, h1, h2⟩ := bind_some hf
  obtain ⟨c, h3, h4⟩ := bind_some h2
  refine ha.s B F H σ ρ d1 _ rel h1 fun x F1 H1 x1 r1 => ⟨c, truV_of (m := .fz) (H0 := H) r1 x1.s h3, ?_⟩
  cases c with
  | true => exact hb.s B F1 H1 σ ρ d _ (rel.ext x1) h4 fun v F2 H2 x2 r2 => q v F2 H2 (x1.trans x2) r2
  | false =>
    cases (show some d1 = some d from h4)
    exact q x F1 H1 x1 r1⟩
theorem de_andK (K' : PySem.W.Frag) (ha : DE X .fz a ta fa) (hb : DE X .fz (.BoolOp .And (b :: rest) pos) tb fb) (hK : X.K = K' := by rfl) : DE X .fz (.BoolOp .And (a :: b :: rest) pos) (tAndT K' ta tb) (fAnd fa fb) := by
  subst hK
  exact de_and (ha := ha) (hb := hb)
theorem de_or (ha : DE X .fz a ta fa) (hb : DE X .fz (.BoolOp .Or (b :: rest) pos) tb fb) : DE X .fz (.BoolOp .Or (a :: b :: rest) pos) (tOrT X.K ta tb) (fOr fa fb) := ⟨pe_orT ha.p hb.p, fun B F H σ ρ d Q rel hf q => by
  obtain ⟨d1, h1, h2⟩ := bind_some hf
  obtain ⟨c, h3, h4⟩ := bind_some h2
  refine ha.s B F H σ ρ d1 _ rel h1 fun x F1 H1 x1 r1 => ⟨c, truV_of (m := .fz) (H0 := H) r1 x1.s h3, ?_⟩
  cases c with
  | false => exact hb.s B F1 H1 σ ρ d _ (rel.ext x1) h4 fun v F2 H2 x2 r2 => q v F2 H2 (x1.trans x2) r2
  | true =>
    cases (show some d1 = some d from h4)
    exact q x F1 H1 x1 r1⟩
theorem de_orK (K' : PySem.W.Frag) (ha : DE X .fz a ta fa) (hb : DE X .fz (.BoolOp .Or (b :: rest) pos) tb fb) (hK : X.K = K' := by rfl) : DE X .fz (.BoolOp .Or (a :: b :: rest) pos) (tOrT K' ta tb) (fOr fa fb) := by
  subst hK
  exact de_or (ha := ha) (hb := hb)
def fIf (c : Rho → Option Bool) (f g : Rho → Option D) : Rho → Option D := fun ρ => (c ρ).bind fun b => if b = true then f ρ else g ρ
theorem de_if (hc : DT X c tt ft) (ha : DE X m a ta fa) (hb : DE X m b tb fb) : DE X m (.IfExp c a b pos) (tIf tt ta tb) (fIf ft fa fb) := ⟨pe_ifExp hc.p ha.p hb.p, fun B F H σ ρ d Q rel hf q => by
  obtain ⟨k, h1, h2⟩ := bind_some hf
  refine hc.s B F H σ ρ k _ rel h1 fun F1 H1 x1 => ?_
  cases k with
  | true => exact ha.s B F1 H1 σ ρ d _ (rel.ext x1) h2 fun v F2 H2 x2 r2 => q v F2 H2 (x1.trans x2) (r2.back (F1 := F1) x1.h)
  | false => exact hb.s B F1 H1 σ ρ d _ (rel.ext x1) h2 fun v F2 H2 x2 r2 => q v F2 H2 (x1.trans x2) (r2.back (F1 := F1) x1.h)⟩
/-! ### -a -/
def negD : D → Option D
  | .int i => some (.int (-i))
  | _ => none
theorem de_neg (ha : DE X m a ta fa) : DE X .fz (.UnaryOp .USub a pos) (tUn (rU fun i => .int (-i)) ta) (f1 negD fa) := ⟨pe_un un_neg ha.p, fun B F H σ ρ d Q rel hf q => by
  obtain ⟨d1, h1, h2⟩ := bind_some hf
  refine ha.s B F H σ ρ d1 _ rel h1 fun x F1 H1 x1 r1 => ?_
  cases d1 with
  | int i => cases h2; exact ⟨i, r1.int, q _ F1 H1 x1 (Rep.int _)⟩
  | _ => cases h2⟩
/-! ### rows of arguments, displays -/
variable {e : Expr} {es : List Expr} {te : TE} {t : TA} {f : Rho → Option D} {fs : Rho → Option (List D)}
def aNil : Rho → Option (List D) := fun _ => some []
def aCons (f : Rho → Option D) (fs : Rho → Option (List D)) : Rho → Option (List D) := fun ρ => (f ρ).bind fun d => (fs ρ).bind fun ds => some (d :: ds)
theorem ResA.back {K : PySem.W.Frag} {H0 H1 F H : Hp} (s : Same H0 H1) : ∀ {vs : List V} {ds : List D}, ResA K m H1 F H vs ds → ResA K m H0 F H vs ds
  | _, _, .nil => .nil
  | _, _, .cons h r => .cons (h.back (F1 := F) s) (ResA.back s r)
theorem da_nil : DA X m [] tNil aNil := ⟨pa_nil, fun B F H σ ρ ds Q rel hf q => by cases hf; exact q [] F H (.refl rel.fh) .nil, fun ρ ds h => by cases h; rfl⟩
theorem da_cons (ha : DE X m e te f) (hr : DA X m es t fs) (hs : starEach (e :: es) X.env = (false, eval e X.env) :: starEach es X.env := by rfl) : DA X m (e :: es) (tCons te t) (aCons f fs) :=
  ⟨pa_cons ha.p hr.p hs, fun B F H σ ρ ds Q rel hf q => by
    obtain ⟨d, h1, h2⟩ := bind_some hf
    obtain ⟨ds', h3, h4⟩ := bind_some h2
    cases h4
    refine ha.s B F H σ ρ d _ rel h1 fun x F1 H1 x1 r1 => ?_
    exact hr.s B F1 H1 σ ρ ds' _ (rel.ext x1) h3 fun xs F2 H2 x2 r2 => q _ F2 H2 (x1.trans x2) (.cons (r1.mono x2) (r2.back x1.h)), fun ρ ds h => by
    obtain ⟨d, h1, h2⟩ := bind_some h
    obtain ⟨ds', h3, h4⟩ := bind_some h2
    cases h4
    exact congrArg Nat.succ (hr.n ρ ds' h3)⟩
def tTupF (t : TA) : TE := fun σ H Q => t σ H fun xs H1 => xs.length ≤ sizeLine ∧ NewT xs H1 Q
theorem pe_tupF {x1} (h : PA X es t) : PE X (.Tuple es x1 pos) (tTupF t) := by
  refine ⟨fun pins s σ H Q I hq => ?_⟩
  refine wpAny_Tuple_spliced (thn (h.run pos pins s σ H _ I hq) fun us s1 ⟨xs, H1, I1, r, z, q⟩ => ⟨by rw [← r.length]; exact z, ?_⟩)
  exact ⟨.ref s1.heap.objs.size, _, I1.laidT (t' := s1.toks) r z, rfl, q _ _ (I1.hok.fresh (Nat.le_refl _)) rfl rfl⟩
def fTup (fs : Rho → Option (List D)) : Rho → Option D := fun ρ => (fs ρ).map .tuple
def fLst (fs : Rho → Option (List D)) : Rho → Option D := fun ρ => (fs ρ).map .list
theorem small_es {n : Nat} (h : n ≤ 1000) : n ≤ sizeLine := Nat.le_of_lt (small1000 h)
theorem de_tup {k : Nat} (h : DA X .fz es t fs) (hn : es.length ≤ 1000 := by decide) : DE X .fz (.Tuple es k pos) (tTupF t) (fTup fs) := ⟨pe_tupF h.p, fun B F H σ ρ d Q rel hf q => by
  obtain ⟨ds, h1, rfl⟩ := Option.map_eq_some_iff.mp hf
  refine h.s B F H σ ρ ds _ rel h1 fun xs F1 H1 x1 r1 => ⟨small_es (by rw [r1.length, h.n ρ ds h1]; exact hn), newT_rep x1 r1.rep q⟩⟩
theorem de_lst (h : DA X .fz es t fs) (hn : es.length ≤ 1000 := by decide) : DE X .fr (.List es pos) (tLst t) (fLst fs) := ⟨pe_lst h.p, fun B F H σ ρ d Q rel hf q => by
  obtain ⟨ds, h1, rfl⟩ := Option.map_eq_some_iff.mp hf
  refine h.s B F H σ ρ ds _ rel h1 fun xs F1 H1 x1 r1 => ⟨small_es (by rw [r1.length, h.n ρ ds h1]; exact hn), newL_res x1 r1.rep q⟩⟩
/-! ### built-ins called with values -/
def CallS (K : PySem.W.Frag) (m : Md) (r : List V → Hp → VK → Prop) (g : List D → Option D) : Prop :=
  ∀ (F H Ha : Hp) (xs : List V) (ds : List D) (z : D) (Q : VK), Same F H → ResA K .pk Ha F H xs ds → g ds = some z → (∀ v F' H', Ext F H F' H' → Res K m H F' H' v z → Q v H') → r xs H Q
theorem ResA.any {K : PySem.W.Frag} {H0 F H : Hp} : ∀ {vs : List V} {ds : List D}, ResA K m H0 F H vs ds → ResA K .pk H0 F H vs ds
  | _, _, .nil => .nil
  | _, _, .cons h r => .cons h.any (ResA.any r)
def fB (g : List D → Option D) (fs : Rho → Option (List D)) : Rho → Option D := fun ρ => (fs ρ).bind g
variable {x : Str} {p : Pos} {rc : List V → Hp → VK → Prop} {gc : List D → Option D} {id T : String}
theorem sem_cb {K : PySem.W.Frag} (hs : CallS K m rc gc) (ha : SemA K m1 t fs) : SemE K m (tCB rc t) (fB gc fs) := by
  intro B F H σ ρ z Q rel hf q
  obtain ⟨ds, h1, h2⟩ := bind_some hf
  refine ha B F H σ ρ ds _ rel h1 fun xs F1 H1 x1 r1 => ?_
  exact hs F1 H1 H xs ds z Q x1.s r1.any h2 fun v F' H' x2 r2 => q v F' H' (x1.trans x2) (r2.back (F1 := F1) x1.h)
theorem de_cb (hc : CallR X (.builtin id) rc) (hs : CallS X.K m rc gc) (hg : Gl X x) (hm : X.mg x = none) (hv : bootBuiltins x = some (.builtin id)) (ha : DA X m1 (e :: es) t fs) (hn : x ≠ "__name__" := by decide) (hdb : (x == ("__debug__" : Str)) = false := by decide)
    (he : starEach (e :: es) X.env = (false, eval e X.env) :: starEach es X.env := by rfl) (hpl : (backTo pos (starEach es X.env)).any (·.1) = false := by rfl) : DE X m (.Call (.Name x p) (e :: es) [] pos) (tCB rc t) (fB gc fs) :=
  ⟨pe_callB hc hg hm hv ha.p hn hdb he hpl, sem_cb hs ha.s⟩
theorem de_ct (hc : CallR X (.type T) rc) (hs : CallS X.K m rc gc) (hg : Gl X x) (hm : X.mg x = none) (hv : bootBuiltins x = some (.type T)) (ha : DA X m1 (e :: es) t fs) (hn : x ≠ "__name__" := by decide) (hdb : (x == ("__debug__" : Str)) = false := by decide)
    (he : starEach (e :: es) X.env = (false, eval e X.env) :: starEach es X.env := by rfl) (hpl : (backTo pos (starEach es X.env)).any (·.1) = false := by rfl) : DE X m (.Call (.Name x p) (e :: es) [] pos) (tCB rc t) (fB gc fs) :=
  ⟨pe_callTy hc hg hm hv ha.p hn hdb he hpl, sem_cb hs ha.s⟩
end
theorem resA1 {K : PySem.W.Frag} {m : Md} {H0 F H : Hp} {vs : List V} {d : D} (h : ResA K m H0 F H vs [d]) : ∃ v, vs = [v] ∧ Res K m H0 F H v d := by
  cases h with
  | cons h1 r => cases r; exact ⟨_, rfl, h1⟩
theorem resA2 {K : PySem.W.Frag} {m : Md} {H0 F H : Hp} {vs : List V} {d e : D} (h : ResA K m H0 F H vs [d, e]) : ∃ v w, vs = [v, w] ∧ Res K m H0 F H v d ∧ Res K m H0 F H w e := by
  cases h with
  | cons h1 r => cases r with
    | cons h2 r => cases r; exact ⟨_, _, rfl, h1, h2⟩
end Q
end

/-! part: Q4 -/
section
set_option Elab.async false
set_option linter.all false
set_option maxRecDepth 100000
set_option maxHeartbeats 4000000
set_option autoImplicit false
namespace Q
open PySem PySem.Spec PySem.Calls PyProof.Rows L2
/-! ### collect, sorted over a list or a tuple -/
section
variable {prog : Program} {w : World} {A : Around} {E : Value → Shared → Prop} {s : Shared}
theorem collect_sq {T : String} {it : Addr} {o : Obj} {vs : List Value} {n : Nat} {Q : List Value → Shared → Prop} (hT : T = "list" ∨ T = "tuple") (ho : s.heap.get? it = some o) (hc : o.cls = .type T) (hd : o.data = .seq vs.toArray n)
    (hQ : Q vs { s with heap := (s.heap.push (seqObj "list" #[] 0)).update s.heap.objs.size (Obj.mapSeq (· ++ vs.toArray)) }) (hsz : vs.length ≤ sizeLine) :
    wpAny (model prog w) A (collect (.ref it)) Q E s := by
  unfold collect
  refine wpAny_bind (wpAny_runValue (codeAny_builtin PySem.F.entry_proto_collect ?_))
  rw [Around.under_plainId PySem.F.plain_proto_collect _]
  show wpAny _ A.in1 (newList [] >>= fun l => again (.builtin "list.__iadd__" ⟨[l, .ref it], []⟩)) _ _ s
  refine wpAny_bind (wpAny_newObj_type ?_)
  refine wpAny_pure ⟨plainId_quiet PySem.F.plain_list_iadd _, codeAny_builtin PySem.F.entry_list_iadd ?_⟩
  rw [Around.under_plainId PySem.F.plain_list_iadd _]
  show wpAny _ A.in1 (Builtin.List.listExtendWith (.ref s.heap.objs.size) (.ref it) (.ref s.heap.objs.size)) _ _ _
  have hS : (s.heap.push { cls := .type "list", data := .seq ([] : List Value).toArray }).get? s.heap.objs.size = some { cls := .type "list", data := .seq #[] 0 } := Heap.get?_push_size _ rfl
  have hS₂ := Heap.get?_update_self (Obj.mapSeq (· ++ vs.toArray)) hS rfl
  have fin' : wpAny (model prog w) A (match Value.ref s.heap.objs.size with
      | Value.ref a => do
        match (← load a).data with
          | Data.seq xs _ => pure xs.toList
          | _ => unsupported "internal:collect"
      | _ => unsupported "internal:collect") Q E { s with heap := (s.heap.push { cls := .type "list", data := .seq ([] : List Value).toArray }).update s.heap.objs.size (Obj.mapSeq (· ++ vs.toArray)) } := by
    show wpAny _ A (load s.heap.objs.size >>= _) _ _ _
    refine wpAny_bind (wpAny_load hS₂ ?_)
    refine wpAny_pure ?_
    have e : ((#[] : Array Value) ++ vs.toArray).toList = vs := by simp
    show Q ((#[] : Array Value) ++ vs.toArray).toList _
    rw [e]
    exact hQ
  refine wpAny_mono (wpAny_extend_seq (hsz := by rw [List.size_toArray]; exact hsz) (A := A) (R := fun r s' => r = .ok (.ret (.ref s.heap.objs.size)) ∧ s' = { s with heap := (s.heap.push { cls := .type "list", data := .seq ([] : List Value).toArray }).update s.heap.objs.size (Obj.mapSeq (· ++ vs.toArray)) })
    (s := { s with heap := s.heap.push { cls := .type "list", data := .seq ([] : List Value).toArray } }) _ it _ 0 hT hS (Heap.get?_push_of_some _ ho) hc hd ⟨rfl, rfl⟩) (fun fin s' h => ?_) (fun e s' h => ?_)
  · cases fin with
    | done f =>
      obtain ⟨e, rfl⟩ := h
      cases e
      exact fin'
    | again c' => exact ⟨h.1, codeAny_mono h.2 fun r s'' hr => by obtain ⟨rfl, rfl⟩ := hr; exact fin'⟩
  · exact absurd h.1 (by simp)
theorem sorted_sq {T : String} {l : Addr} {o : Obj} {vs : List Value} {n : Nat} {kw : List (Str × Value)} {Q : Value → Shared → Prop} (hT : T = "list" ∨ T = "tuple") (ho : s.heap.get? l = some o) (hc : o.cls = .type T) (hd : o.data = .seq vs.toArray n) (hL : vs.length ≤ sizeLine) (ha1 : argsOk "sorted" ⟨[.ref l], kw⟩) (ha2 : ∀ x, argsOk "list.sort" ⟨[.ref x], kw⟩)
    (body : ∀ E' : Value → Shared → Prop, wpAny (model prog w) A.in1.in1 (Builtin.«list.sort» ⟨[.ref (s.heap.objs.size + 1)], kw⟩) (fun f s' => f = .done (.ret .none) ∧ Q (.ref (s.heap.objs.size + 1)) s') E' { s with heap := PySem.W.copyHeap s.heap vs }) :
    wpAny (model prog w) A (call (.builtin "sorted") [.ref l] kw) Q E s := by
  refine call_function_entry_kw kind_sorted plain_sorted entry_sorted ha1 ?_
  unfold Builtin.«sorted»
  refine wpAny_bind (m := checkCount "sorted" 1 1 _) (wpAny_pure ?_)
  refine wpAny_bind (collect_sq hT ho hc hd ?_ hL)
  refine wpAny_bind (wpAny_newList ?_ hL)
  have hsz : ((s.heap.push (seqObj "list" #[] 0)).update s.heap.objs.size (Obj.mapSeq (· ++ vs.toArray))).objs.size = s.heap.objs.size + 1 := by
    rw [Heap.size_update, size_push']
  show wpAny _ _ _ _ _ { s with heap := PySem.W.copyHeap s.heap vs }
  rw [hsz]
  refine wpAny_bind (wpAny_holding (wpAny_call_entry_kw slot_list_sort ⟨_, PySem.W.copyHeap_at s.heap vs, rfl⟩ entry_list_sort ?body (ha2 _)))
  case body =>
    show wpAny (model prog w) A.in1.in1 (Builtin.«list.sort» ⟨[.ref (s.heap.objs.size + 1)], kw⟩) _ _ _
    refine wpAny_mono (body _) (fun f s' hf => ?_) fun _ _ e => e
    obtain ⟨rfl, hq⟩ := hf
    exact ⟨_, rfl, wpAny_pure ⟨_, rfl, hq⟩⟩
theorem sorted_sq_data {β : Type} {vs : List Value} {bs : List β} {enc : β → PyData} {R : Value → β → Prop} {T : String} {l : Addr} {o : Obj} {n : Nat} {Q : Value → Shared → Prop} (hT : T = "list" ∨ T = "tuple") (ho : s.heap.get? l = some o) (hc : o.cls = .type T) (hd : o.data = .seq vs.toArray n)
    (e : PySem.W.EachIs R vs bs) (er : PySem.W.EachIs (fun v b => ∃ as, Reads s.heap v (enc b) as) vs bs) (hal : PySem.W.AllAlike (bs.map enc)) (hk : PySem.W.Sortable (bs.map enc)) (hL : bs.length ≤ sizeLine)
    (hu : ∀ b, b ∈ bs → A.units + 2 + (enc b).depth < cLine) (h : ∀ out, out.length = bs.length → PySem.W.EachIs R out (bs.mergeSort (PySem.W.dataLe false enc)) → Q (.ref (s.heap.objs.size + 1)) { s with heap := sortedAll s.heap vs (List.toArray out) }) :
    wpAny (model prog w) A (call (.builtin "sorted") [.ref l]) Q E s := by
  have er' : PySem.W.EachIs (fun v b => ∃ as, Reads (PySem.W.sortingHeap (PySem.W.copyHeap s.heap vs) (s.heap.objs.size + 1) vs) v (enc b) as) vs bs := er.mono fun _ _ ⟨as, r⟩ => ⟨as, PyProof.Rows.Reads.keeps (fun _ _ => PySem.W.sorting_copy_old) r⟩
  exact sorted_sq hT ho hc hd (by rw [e.length]; exact hL) (args_sorted1 _) (fun _ => args_list_sort _) fun _ => PySem.W.list_sort_vals (s := { s with heap := PySem.W.copyHeap s.heap vs }) (PySem.W.copyHeap_at s.heap vs)
    (PySem.W.SortsAt.data (s := { s with heap := PySem.W.sortingHeap (PySem.W.copyHeap s.heap vs) (s.heap.objs.size + 1) vs }) (PySem.W.each_map (R := fun v d => ∃ as, Reads (PySem.W.sortingHeap (PySem.W.copyHeap s.heap vs) (s.heap.objs.size + 1) vs) v d as) enc er') hal hk (PySem.W.bound_map hu)) (by rw [e.length]; exact hL)
    ⟨rfl, h _ (by rw [PySem.W.sortVals_length false rfl]; exact e.length) (PySem.W.sortVals_data false e er' hal)⟩
end
/-! ### a list or a tuple read -/
def SqA (K : PySem.W.Frag) (H : Hp) (p : Addr) (xs : List V) : Prop := SqL K H p xs ∨ SqT K H p xs
theorem Res.items {K : PySem.W.Frag} {m : Md} {H0 F H : Hp} {v : V} {d : D} {ds : List D} (h : Res K m H0 F H v d) (fh : Same F H) (e : itemsD d = some ds) : ∃ a xs, v = .ref a ∧ SqA K H a xs ∧ RepA K F xs ds := by
  cases d with
  | list es => cases e; obtain ⟨a, xs, e1, s1, r⟩ := h.list fh; exact ⟨a, xs, e1, .inl s1, r⟩
  | tuple es => cases e; obtain ⟨a, xs, e1, s1, r⟩ := h.tup fh; exact ⟨a, xs, e1, .inr s1.sq, r⟩
  | _ => cases e
section
variable {X : Cx} {pins : List (Addr × Obj)} {σ : L2.St} {H : Hp} {s : Shared}
theorem _root_.L2.Inv.seq (I : Inv X pins σ H s) {p : Addr} {xs : List V} (h : SqA X.K H p xs) : ∃ (T : String) (o : Obj) (its : List Value) (n : Nat), (T = "list" ∨ T = "tuple") ∧ s.heap.get? p = some o ∧ o.cls = .type T ∧ o.data = .seq its.toArray n ∧ Vals xs its ∧ xs.length ≤ sizeLine := by
  rcases h with h | h
  · obtain ⟨its, r, ⟨o, n, e, c, _, d⟩, z⟩ := I.list h
    exact ⟨"list", o, its, n, .inl rfl, e, c, d, r, z⟩
  · obtain ⟨its, r, ⟨o, e, c, n, d⟩, z⟩ := I.tuple h
    exact ⟨"tuple", o, its, n, .inr rfl, e, c, d, r, z⟩
end
theorem each_of_vals {K : PySem.W.Frag} {F : Hp} {R : Value → D → Prop} : ∀ {xs : List V} {its : List Value} {ds : List D}, Vals xs its → RepA K F xs ds → (∀ v u d, RelV v u → Rep K F v d → R u d) → PySem.W.EachIs R its ds
  | _, _, _, .nil, .nil, _ => .nil
  | _, _, _, .cons r t, .cons q u, f => .cons (f _ _ _ r q) (each_of_vals t u f)
theorem vals_of_each {K : PySem.W.Frag} {F : Hp} : ∀ {its : List Value} {ds : List D}, PySem.W.EachIs (fun u d => ∃ v, RelV v u ∧ Rep K F v d) its ds → ∃ xs, Vals xs its ∧ RepA K F xs ds
  | _, _, .nil => ⟨[], .nil, .nil⟩
  | _, _, .cons ⟨v, r, q⟩ t => by
    obtain ⟨xs, h1, h2⟩ := vals_of_each t
    exact ⟨v :: xs, .cons r h1, .cons q h2⟩
/-! ### sorted -/
/-- may they be sorted -/
def srtOk (ds : List D) : Bool := (ds.all fun d => ds.all fun e => PySem.W.alike d e) && ((ds.all fun d => match d with
  | .tuple (_ :: _) => true
  | _ => false) || ds.all fun d => match d with
  | .none => false
  | .tuple _ => false
  | _ => true) && ds.all fun d => decide (d.depth ≤ 64)
theorem srtOk_of {ds : List D} (h : srtOk ds = true) : PySem.W.AllAlike ds ∧ PySem.W.Sortable ds ∧ ∀ d ∈ ds, d.depth ≤ 64 := by
  unfold srtOk at h
  simp only [Bool.and_eq_true, Bool.or_eq_true, List.all_eq_true, decide_eq_true_eq] at h
  obtain ⟨⟨h1, h2⟩, h3⟩ := h
  refine ⟨h1, ?_, h3⟩
  rcases h2 with h2 | h2
  · refine .inl fun d hd => ?_
    have := h2 d hd
    cases d with
    | tuple xs =>
      cases xs with
      | nil => cases this
      | cons a b => exact ⟨a, b, rfl⟩
    | _ => cases this
  · refine .inr fun d hd => ?_
    have := h2 d hd
    refine ⟨fun z => ?_, fun xs z => ?_⟩
    · subst z; cases this
    · subst z; cases this
def srt (ds : List D) : List D := ds.mergeSort (PySem.W.dataLe false id)
def sortedD : List D → Option D
  | [d] => (itemsD d).bind fun ds => if srtOk ds = true then some (.list (srt ds)) else none
  | _ => none
/-- the state hidden in a sort: the items as values, as data -/
def rSrt (K : PySem.W.Frag) : List V → Hp → VK → Prop := fun vs H Q => ∃ a xs F ds, vs = [.ref a] ∧ Same F H ∧ SqA K H a xs ∧ RepA K F xs ds ∧ srtOk ds = true ∧ ∀ ys, RepA K F ys (srt ds) → NewL ys H Q
section
variable {X : Cx}
theorem cr_srt (hu : X.A.units + 70 < cLine) : CallR X (.builtin "sorted") (rSrt X.K) := by
  intro pins s σ H vs us Q I r h
  obtain ⟨a, xs, F, ds, rfl, fh, sq, rp, ok, q⟩ := h
  obtain ⟨u, rfl, ru⟩ := vals1 r
  cases ru
  obtain ⟨T, o, its, n, hT, e, c, d, rv, hz⟩ := I.seq sq
  obtain ⟨h1, h2, h3⟩ := srtOk_of ok
  have em : (ds.map id) = ds := List.map_id _
  refine sorted_sq_data (enc := id) (R := fun u d => ∃ v, RelV v u ∧ Rep X.K F v d) hT e c d (each_of_vals rv rp fun v u d r q => ⟨v, r, q⟩)
    (each_of_vals rv rp fun v u d r q => Dp.reads I d v u (q.mono fh).dp r) (by rw [em]; exact h1) (by rw [em]; exact h2) (by rw [← rp.length]; exact hz) (fun b hb => by have := h3 b hb; show X.A.units + 2 + b.depth < cLine; omega) fun out ho hE => ?_
  obtain ⟨ys, v1, r1⟩ := vals_of_each hE
  obtain ⟨c', hc'⟩ := sortedAll_at s.heap its out.toArray
  have hlen : ys.length ≤ sizeLine := by rw [v1.length, ho, ← rp.length]; exact hz
  refine ⟨.ref (s.heap.objs.size + 1), _, I.laid (t' := s.toks) (o := .lst ys) (fun b u q => sortedAll_old q) (Nat.le_succ _) ⟨hlen, out, c', v1, hc'⟩, rfl, q ys r1 _ (I.hok.fresh (Nat.le_succ _))⟩
theorem cr_srtK (K' : PySem.W.Frag) (hu : X.A.units + 70 < cLine) (hK : X.K = K' := by rfl) : CallR X (.builtin "sorted") (rSrt K') := by
  subst hK
  exact cr_srt (hu := hu)
end
theorem cs_srt {K : PySem.W.Frag} : CallS K .fr (rSrt K) sortedD := by
  intro F H Ha vs ds z Q fh r hz q
  match ds, r, hz with
  | [d], r, hz =>
    obtain ⟨es, h1, h2⟩ := bind_some (show (itemsD d).bind (fun ds => if srtOk ds = true then some (PyData.list (srt ds)) else none) = some z from hz)
    obtain ⟨ok, rfl⟩ := if_some h2
    obtain ⟨v, rfl, r1⟩ := resA1 r
    obtain ⟨a, xs, rfl, s1, p1⟩ := r1.items fh h1
    exact ⟨a, xs, F, es, rfl, fh, s1, p1, ok, fun ys ry => newL_res (.refl fh) ry q⟩
/-! ### len, int, tuple, list, abs, min, max of two -/
def lenD : List D → Option D
  | [.list ds] => some (.int ds.length)
  | [.tuple ds] => some (.int ds.length)
  | [.str z] => if z.length ≤ sizeLine then some (.int z.length) else none
  | _ => none
def rLen (K : PySem.W.Frag) : List V → Hp → VK → Prop := fun xs H Q => ∃ x n, xs = [x] ∧ LenV K x H n ∧ Q (.int n) H
theorem cs_len {K : PySem.W.Frag} : CallS K .fz (rLen K) lenD := by
  intro F H Ha vs ds z Q fh r hz q
  match ds, r, hz with
  | [.list es], r, hz =>
    cases hz
    obtain ⟨v, rfl, r1⟩ := resA1 r
    obtain ⟨a, xs, rfl, s1, p1⟩ := r1.list fh
    refine ⟨_, es.length, rfl, .inl ⟨xs, s1, p1.length.symm⟩, q _ F H (.refl fh) (Rep.int _)⟩
  | [.tuple es], r, hz =>
    cases hz
    obtain ⟨v, rfl, r1⟩ := resA1 r
    obtain ⟨a, xs, rfl, s1, p1⟩ := r1.tup fh
    refine ⟨_, es.length, rfl, .inr ⟨xs, s1.sq, p1.length.symm⟩, q _ F H (.refl fh) (Rep.int _)⟩
  | [.str y], r, hz =>
    obtain ⟨hl, rfl⟩ := if_some (show (if y.length ≤ sizeLine then some (PyData.int y.length) else none) = some z from hz)
    obtain ⟨v, rfl, r1⟩ := resA1 r
    rw [r1.str]
    exact ⟨_, _, rfl, ⟨hl, rfl⟩, q _ F H (.refl fh) (Rep.int _)⟩
def intD : List D → Option D
  | [.int i] => some (.int i)
  | [.bool b] => some (.int (if b then 1 else 0))
  | _ => none
def rInt : List V → Hp → VK → Prop := fun xs H Q => (∃ i, xs = [.int i] ∧ Q (.int i) H) ∨ ∃ k, xs = [.bl k] ∧ Q (.int (if k then 1 else 0)) H
theorem cs_int {K : PySem.W.Frag} : CallS K .fz rInt intD := by
  intro F H Ha vs ds z Q fh r hz q
  match ds, r, hz with
  | [.int i], r, hz =>
    cases hz
    obtain ⟨v, rfl, r1⟩ := resA1 r
    rw [r1.int]
    exact .inl ⟨i, rfl, q _ F H (.refl fh) (Rep.int _)⟩
  | [.bool b], r, hz =>
    cases hz
    obtain ⟨v, rfl, r1⟩ := resA1 r
    rw [r1.bl]
    exact .inr ⟨b, rfl, q _ F H (.refl fh) (Rep.int _)⟩
def absD : List D → Option D
  | [.int i] => some (.int (if i < 0 then -i else i))
  | _ => none
def rAbs : List V → Hp → VK → Prop := fun xs H Q => ∃ i, xs = [.int i] ∧ Q (.int (if i < 0 then -i else i)) H
theorem cs_abs {K : PySem.W.Frag} : CallS K .fz rAbs absD := by
  intro F H Ha vs ds z Q fh r hz q
  match ds, r, hz with
  | [.int i], r, hz =>
    cases hz
    obtain ⟨v, rfl, r1⟩ := resA1 r
    rw [r1.int]
    exact ⟨i, rfl, q _ F H (.refl fh) (Rep.int _)⟩
def max2D : List D → Option D
  | [.int i, .int j] => some (.int (if j > i then j else i))
  | _ => none
def min2D : List D → Option D
  | [.int i, .int j] => some (.int (if j < i then j else i))
  | _ => none
def rMax2 : List V → Hp → VK → Prop := fun xs H Q => ∃ i j, xs = [.int i, .int j] ∧ Q (.int (if j > i then j else i)) H
def rMin2 : List V → Hp → VK → Prop := fun xs H Q => ∃ i j, xs = [.int i, .int j] ∧ Q (.int (if j < i then j else i)) H
theorem cs_max2 {K : PySem.W.Frag} : CallS K .fz rMax2 max2D := by
  intro F H Ha vs ds z Q fh r hz q
  match ds, r, hz with
  | [.int i, .int j], r, hz =>
    cases hz
    obtain ⟨v, w, rfl, r1, r2⟩ := resA2 r
    rw [r1.int, r2.int]
    exact ⟨i, j, rfl, q _ F H (.refl fh) (Rep.int _)⟩
theorem cs_min2 {K : PySem.W.Frag} : CallS K .fz rMin2 min2D := by
  intro F H Ha vs ds z Q fh r hz q
  match ds, r, hz with
  | [.int i, .int j], r, hz =>
    cases hz
    obtain ⟨v, w, rfl, r1, r2⟩ := resA2 r
    rw [r1.int, r2.int]
    exact ⟨i, j, rfl, q _ F H (.refl fh) (Rep.int _)⟩
def tupD : List D → Option D
  | [.list ds] => some (.tuple ds)
  | [.tuple ds] => some (.tuple ds)
  | _ => none
def rTupC (K : PySem.W.Frag) : List V → Hp → VK → Prop := fun xs H Q => ∃ p ys, xs = [.ref p] ∧ ((SqL K H p ys ∧ NewT ys H Q) ∨ (SqT K H p ys ∧ Q (.ref p) H))
theorem cr_tup {X : Cx} : CallR X (.type "tuple") (rTupC X.K) := by
  intro pins s σ H vs us Q I r h
  obtain ⟨p, xs, rfl, h⟩ := h
  obtain ⟨u, rfl, ru⟩ := vals1 r
  cases ru
  rcases h with ⟨hs, q⟩ | ⟨hs, q⟩
  · obtain ⟨its, rv, pl, hz⟩ := I.list hs
    refine call_tuple_list pl.isList (fun h' hk => ?_) (by rw [List.size_toArray, ← rv.length]; exact hz)
    have I1 : Inv X pins σ H { s with heap := h' } := I.kept (t' := s.toks) hk
    exact ⟨.ref h'.objs.size, _, Inv.laidT (s := { s with heap := h' }) (t' := s.toks) I1 rv hz, rfl, q _ _ (I1.hok.fresh (Nat.le_refl _)) rfl rfl⟩
  · obtain ⟨its, rv, pl, hz⟩ := I.tuple hs
    exact call_tuple_tup pl ⟨.ref p, H, I, rfl, q⟩
theorem cr_tupK {X : Cx} (K' : PySem.W.Frag) (hK : X.K = K' := by rfl) : CallR X (.type "tuple") (rTupC K') := by
  subst hK
  exact cr_tup 
theorem cs_tup {K : PySem.W.Frag} : CallS K .fz (rTupC K) tupD := by
  intro F H Ha vs ds z Q fh r hz q
  match ds, r, hz with
  | [.list es], r, hz =>
    cases hz
    obtain ⟨v, rfl, r1⟩ := resA1 r
    obtain ⟨a, xs, rfl, s1, p1⟩ := r1.list fh
    exact ⟨a, xs, rfl, .inl ⟨s1, newT_rep (.refl fh) p1 q⟩⟩
  | [.tuple es], r, hz =>
    cases hz
    obtain ⟨v, rfl, r1⟩ := resA1 r
    have rr := Res.rep r1 (fun _ z => nomatch z)
    obtain ⟨a, xs, rfl, s1, p1⟩ := r1.tup fh
    exact ⟨a, xs, rfl, .inr ⟨s1.sq, q _ F H (.refl fh) rr⟩⟩
def lstD : List D → Option D
  | [d] => (itemsD d).map .list
  | _ => none
def rLstC (K : PySem.W.Frag) : List V → Hp → VK → Prop := fun xs H Q => ∃ p ys, xs = [.ref p] ∧ (SqL K H p ys ∨ SqT K H p ys) ∧ ∀ l, H l = none → Q (.ref l) (upd H l (.lst ys))
theorem cs_lst {K : PySem.W.Frag} : CallS K .fr (rLstC K) lstD := by
  intro F H Ha vs ds z Q fh r hz q
  match ds, r, hz with
  | [d], r, hz =>
    obtain ⟨es, h1, rfl⟩ := Option.map_eq_some_iff.mp (show (itemsD d).map PyData.list = some z from hz)
    obtain ⟨v, rfl, r1⟩ := resA1 r
    obtain ⟨a, xs, rfl, s1, p1⟩ := r1.items fh h1
    exact ⟨a, xs, rfl, s1, newL_res (.refl fh) p1 q⟩
/-! ### sum, all, any, min, max over items -/
def intsOf : List D → Option (List Int)
  | [] => some []
  | .int i :: ds => (intsOf ds).map (i :: ·)
  | _ => none
theorem intsOf_map : ∀ {ds : List D} {ns : List Int}, intsOf ds = some ns → ds = ns.map .int
  | [], _, h => by cases h; rfl
  | .int i :: ds, ns, h => by
    obtain ⟨ms, h1, rfl⟩ := Option.map_eq_some_iff.mp (show (intsOf ds).map (i :: ·) = some ns from h)
    rw [intsOf_map h1]; rfl
theorem intsOf_ints : ∀ (ns : List Int), intsOf (ns.map .int) = some ns
  | [] => rfl
  | n :: ns => by show (intsOf (ns.map .int)).map (n :: ·) = _; rw [intsOf_ints ns]; rfl
def sumD : List D → Option D
  | [d] => (itemsD d).bind fun ds => (intsOf ds).map fun ns => .int ns.sum
  | _ => none
def rSumA (K : PySem.W.Frag) : List V → Hp → VK → Prop := fun vs H Q => ∃ (a : Addr) (ns : List Int), vs = [V.ref a] ∧ SqA K H a (ns.map V.int) ∧ Q (.int ns.sum) H
theorem cr_sumA {X : Cx} (hc : X.calm = true) : CallR X (.builtin "sum") (rSumA X.K) := by
  intro pins s σ H vs us Q I r h
  obtain ⟨a, ns, rfl, sq, q⟩ := h
  rcases sq with sq | sq
  · exact cr_sum hc pins s σ H _ us Q I r ⟨a, ns, rfl, sq, q⟩
  · obtain ⟨u, rfl, ru⟩ := vals1 r
    cases ru
    obtain ⟨its, rv, pl, hz⟩ := I.tuple sq
    have hi : IntsAre its ns := rv.ints
    obtain ⟨xs, hx⟩ := hi.allInts.items
    have hn : numsOf its.toArray.toList = ns := by rw [show its.toArray.toList = its from rfl, hi.numsOf]
    rw [hx] at pl hn
    rw [nums_intItems] at hn
    refine PySem.W.ktm_sumG (I.ok.hd hc) pl fun h' tk t' hk => ?_
    rw [preSum_eq, List.take_of_length_le (by simp), hn]
    exact ⟨.int ns.sum, H, I.kept hk, ⟨t', rfl⟩, q⟩
theorem cr_sumAK {X : Cx} (K' : PySem.W.Frag) (hc : X.calm = true) (hK : X.K = K' := by rfl) : CallR X (.builtin "sum") (rSumA K') := by
  subst hK
  exact cr_sumA (hc := hc)
theorem cs_sum {K : PySem.W.Frag} : CallS K .fz (rSumA K) sumD := by
  intro F H Ha vs ds z Q fh r hz q
  match ds, r, hz with
  | [d], r, hz =>
    obtain ⟨es, h1, h2⟩ := bind_some (show (itemsD d).bind (fun ds => (intsOf ds).map fun ns => PyData.int ns.sum) = some z from hz)
    obtain ⟨ns, h3, rfl⟩ := Option.map_eq_some_iff.mp h2
    obtain ⟨v, rfl, r1⟩ := resA1 r
    obtain ⟨a, xs, rfl, s1, p1⟩ := r1.items fh h1
    have e := intsOf_map h3
    subst e
    have e2 := RepA.ints p1
    subst e2
    exact ⟨a, ns, rfl, s1, q _ F H (.refl fh) (Rep.int _)⟩
def blsOf : List D → Option (List Bool)
  | [] => some []
  | .bool b :: ds => (blsOf ds).map (b :: ·)
  | _ => none
theorem blsOf_map : ∀ {ds : List D} {ns : List Bool}, blsOf ds = some ns → ds = ns.map .bool
  | [], _, h => by cases h; rfl
  | .bool i :: ds, ns, h => by
    obtain ⟨ms, h1, rfl⟩ := Option.map_eq_some_iff.mp (show (blsOf ds).map (i :: ·) = some ns from h)
    rw [blsOf_map h1]; rfl
theorem blsOf_bls : ∀ (ns : List Bool), blsOf (ns.map .bool) = some ns
  | [] => rfl
  | n :: ns => by show (blsOf (ns.map .bool)).map (n :: ·) = _; rw [blsOf_bls ns]; rfl
def allD : List D → Option D
  | [.list ds] => (blsOf ds).map fun bs => .bool (bs.all id)
  | _ => none
def anyD : List D → Option D
  | [.list ds] => (blsOf ds).map fun bs => .bool (bs.any id)
  | _ => none
theorem cs_all {K : PySem.W.Frag} : CallS K .fz (rAll K) allD := by
  intro F H Ha vs ds z Q fh r hz q
  match ds, r, hz with
  | [.list es], r, hz =>
    obtain ⟨bs, h3, rfl⟩ := Option.map_eq_some_iff.mp (show (blsOf es).map (fun bs => PyData.bool (bs.all id)) = some z from hz)
    obtain ⟨v, rfl, r1⟩ := resA1 r
    obtain ⟨a, xs, rfl, s1, p1⟩ := r1.list fh
    have e := blsOf_map h3
    subst e
    have e2 := RepA.bls p1
    subst e2
    exact ⟨a, bs, rfl, s1, q _ F H (.refl fh) (Rep.bl _)⟩
theorem cs_any {K : PySem.W.Frag} : CallS K .fz (rAny K) anyD := by
  intro F H Ha vs ds z Q fh r hz q
  match ds, r, hz with
  | [.list es], r, hz =>
    obtain ⟨bs, h3, rfl⟩ := Option.map_eq_some_iff.mp (show (blsOf es).map (fun bs => PyData.bool (bs.any id)) = some z from hz)
    obtain ⟨v, rfl, r1⟩ := resA1 r
    obtain ⟨a, xs, rfl, s1, p1⟩ := r1.list fh
    have e := blsOf_map h3
    subst e
    have e2 := RepA.bls p1
    subst e2
    exact ⟨a, bs, rfl, s1, q _ F H (.refl fh) (Rep.bl _)⟩
def bestOk (ds : List D) : Bool := (ds.all fun d => ds.all fun e => PySem.W.alike d e) && (ds.all fun d => match d with
  | .none => false
  | _ => true) && decide (PyData.depthAll ds ≤ 64)
theorem bestOk_of {ds : List D} (h : bestOk ds = true) : PySem.W.AlikeAll ds ∧ PyData.depthAll ds ≤ 64 := by
  unfold bestOk at h
  simp only [Bool.and_eq_true, List.all_eq_true, decide_eq_true_eq] at h
  obtain ⟨⟨h1, h2⟩, h3⟩ := h
  refine ⟨⟨h1, fun d hd z => ?_⟩, h3⟩
  subst z
  exact nomatch h2 _ hd
def minOf : List D → Option D
  | [] => none
  | x :: xs => if bestOk (x :: xs) = true then some (PySem.W.minD x xs) else none
def maxOf : List D → Option D
  | [] => none
  | x :: xs => if bestOk (x :: xs) = true then some (PySem.W.maxD x xs) else none
def minA : List D → Option D
  | [d] => (itemsD d).bind minOf
  | _ => none
def maxA : List D → Option D
  | [d] => (itemsD d).bind maxOf
  | _ => none
theorem minD_mem (x : D) : ∀ xs : List D, PySem.W.minD x xs ∈ x :: xs := by
  intro xs
  unfold PySem.W.minD
  induction xs generalizing x with
  | nil => exact List.mem_singleton.mpr rfl
  | cons y ys ih =>
    rw [List.foldl_cons]
    split
    · exact List.mem_cons_of_mem _ (ih y)
    · rcases List.mem_cons.mp (ih x) with e | e
      · rw [e]; exact List.mem_cons_self
      · exact List.mem_cons_of_mem _ (List.mem_cons_of_mem _ e)
theorem maxD_mem (x : D) : ∀ xs : List D, PySem.W.maxD x xs ∈ x :: xs := by
  intro xs
  unfold PySem.W.maxD
  induction xs generalizing x with
  | nil => exact List.mem_singleton.mpr rfl
  | cons y ys ih =>
    rw [List.foldl_cons]
    split
    · exact List.mem_cons_of_mem _ (ih y)
    · rcases List.mem_cons.mp (ih x) with e | e
      · rw [e]; exact List.mem_cons_self
      · exact List.mem_cons_of_mem _ (List.mem_cons_of_mem _ e)
def rBest (K : PySem.W.Frag) (f : D → List D → D) : List V → Hp → VK → Prop := fun vs H Q => ∃ a xs F x ds, vs = [V.ref a] ∧ Same F H ∧ SqA K H a xs ∧ RepA K F xs (x :: ds) ∧ bestOk (x :: ds) = true ∧ ∀ v, Rep K F v (f x ds) → Q v H
theorem best_end {X : Cx} {pins : List (Addr × Obj)} {σ : L2.St} {H F : Hp} {s : Shared} {xs : List V} {its : List Value} {ds : List D} {i : Nat} {u : Value} {h' : Heap} {tk : Nat} {m : D} {bs : List Addr} (I : Inv X pins σ H s) (fh : Same F H) (rv : Vals xs its) (rp : RepA X.K F xs ds) (ok : PySem.W.AlikeAll ds) (hm : m ∈ ds)
    (hu : its.toArray[i]? = some u) (hr : Reads h' u m bs) (hk : ∀ b o, s.heap.get? b = some o → h'.get? b = some o) : ∃ v, RelV v u ∧ Rep X.K F v m := by
  have hu' : its[i]? = some u := by rw [← hu]; simp
  have hi : i < xs.length := by rw [rv.length]; exact (List.getElem?_eq_some_iff.mp hu').1
  obtain ⟨u2, h2, r2⟩ := rv.get (List.getElem?_eq_getElem hi)
  rw [hu'] at h2; cases h2
  obtain ⟨d, h3, r3⟩ := rp.getV (List.getElem?_eq_getElem hi)
  have I2 : Inv X pins σ H { s with heap := h', toks := tk } := I.kept hk
  obtain ⟨as, r4⟩ := Dp.reads I2 d _ u (r3.mono fh).dp r2
  have e := PySem.W.alike_unique _ _ _ _ _ (ok.1 _ (List.mem_of_getElem? h3) _ hm) r4 hr
  subst e
  exact ⟨_, r2, r3⟩
theorem cr_minA {X : Cx} (hc : X.calm = true) (hu : X.A.units + 70 < cLine) : CallR X (.builtin "min") (rBest X.K PySem.W.minD) := by
  intro pins s σ H vs us Q I r h
  obtain ⟨a, xs, F, x, ds, rfl, fh, sq, rp, ok, q⟩ := h
  obtain ⟨u, rfl, ru⟩ := vals1 r
  cases ru
  obtain ⟨h1, h2⟩ := bestOk_of ok
  rcases sq with sq | sq
  · obtain ⟨its, rv, pl, hz⟩ := I.list sq
    obtain ⟨as, hr⟩ := Dp.readsAll I (x :: ds) xs its (rp.mono fh).dp rv
    refine PySem.W.min_list_data (I.ok.hd hc) pl.isList (show ReadsAll s.heap its.toArray.toList _ _ from hr) h1 (by omega) fun i v h' tk bs hi hr' hk => ?_
    obtain ⟨w, r1, r2⟩ := best_end (tk := tk) I fh rv rp h1 (minD_mem x ds) hi hr' hk
    exact ⟨w, H, I.kept hk, r1, q w r2⟩
  · obtain ⟨its, rv, pl, hz⟩ := I.tuple sq
    obtain ⟨as, hr⟩ := Dp.readsAll I (x :: ds) xs its (rp.mono fh).dp rv
    refine PySem.W.min_tuple_data (I.ok.hd hc) pl (show ReadsAll s.heap its.toArray.toList _ _ from hr) h1 (by omega) fun i v h' tk bs hi hr' hk => ?_
    obtain ⟨w, r1, r2⟩ := best_end (tk := tk) I fh rv rp h1 (minD_mem x ds) hi hr' hk
    exact ⟨w, H, I.kept hk, r1, q w r2⟩
theorem cr_minAK {X : Cx} (K' : PySem.W.Frag) (hc : X.calm = true) (hu : X.A.units + 70 < cLine) (hK : X.K = K' := by rfl) : CallR X (.builtin "min") (rBest K' PySem.W.minD) := by
  subst hK
  exact cr_minA (hc := hc) (hu := hu)
theorem cr_maxA {X : Cx} (hc : X.calm = true) (hu : X.A.units + 70 < cLine) : CallR X (.builtin "max") (rBest X.K PySem.W.maxD) := by
  intro pins s σ H vs us Q I r h
  obtain ⟨a, xs, F, x, ds, rfl, fh, sq, rp, ok, q⟩ := h
  obtain ⟨u, rfl, ru⟩ := vals1 r
  cases ru
  obtain ⟨h1, h2⟩ := bestOk_of ok
  rcases sq with sq | sq
  · obtain ⟨its, rv, pl, hz⟩ := I.list sq
    obtain ⟨as, hr⟩ := Dp.readsAll I (x :: ds) xs its (rp.mono fh).dp rv
    refine PySem.W.max_list_data (I.ok.hd hc) pl.isList (show ReadsAll s.heap its.toArray.toList _ _ from hr) h1 (by omega) fun i v h' tk bs hi hr' hk => ?_
    obtain ⟨w, r1, r2⟩ := best_end (tk := tk) I fh rv rp h1 (maxD_mem x ds) hi hr' hk
    exact ⟨w, H, I.kept hk, r1, q w r2⟩
  · obtain ⟨its, rv, pl, hz⟩ := I.tuple sq
    obtain ⟨as, hr⟩ := Dp.readsAll I (x :: ds) xs its (rp.mono fh).dp rv
    refine PySem.W.max_tuple_data (I.ok.hd hc) pl (show ReadsAll s.heap its.toArray.toList _ _ from hr) h1 (by omega) fun i v h' tk bs hi hr' hk => ?_
    obtain ⟨w, r1, r2⟩ := best_end (tk := tk) I fh rv rp h1 (maxD_mem x ds) hi hr' hk
    exact ⟨w, H, I.kept hk, r1, q w r2⟩
theorem cr_maxAK {X : Cx} (K' : PySem.W.Frag) (hc : X.calm = true) (hu : X.A.units + 70 < cLine) (hK : X.K = K' := by rfl) : CallR X (.builtin "max") (rBest K' PySem.W.maxD) := by
  subst hK
  exact cr_maxA (hc := hc) (hu := hu)
theorem cs_minA {K : PySem.W.Frag} : CallS K .fz (rBest K PySem.W.minD) minA := by
  intro F H Ha vs ds z Q fh r hz q
  match ds, r, hz with
  | [d], r, hz =>
    obtain ⟨es, h1, h2⟩ := bind_some (show (itemsD d).bind minOf = some z from hz)
    obtain ⟨v, rfl, r1⟩ := resA1 r
    obtain ⟨a, xs, rfl, s1, p1⟩ := r1.items fh h1
    match es, h2, p1 with
    | x :: es, h2, p1 =>
      obtain ⟨ok, rfl⟩ := if_some h2
      exact ⟨a, xs, F, x, es, rfl, fh, s1, p1, ok, fun v rv => q v F H (.refl fh) rv⟩
theorem cs_maxA {K : PySem.W.Frag} : CallS K .fz (rBest K PySem.W.maxD) maxA := by
  intro F H Ha vs ds z Q fh r hz q
  match ds, r, hz with
  | [d], r, hz =>
    obtain ⟨es, h1, h2⟩ := bind_some (show (itemsD d).bind maxOf = some z from hz)
    obtain ⟨v, rfl, r1⟩ := resA1 r
    obtain ⟨a, xs, rfl, s1, p1⟩ := r1.items fh h1
    match es, h2, p1 with
    | x :: es, h2, p1 =>
      obtain ⟨ok, rfl⟩ := if_some h2
      exact ⟨a, xs, F, x, es, rfl, fh, s1, p1, ok, fun v rv => q v F H (.refl fh) rv⟩
end Q
end

/-! part: Q5 -/
section
set_option Elab.async false
set_option linter.all false
set_option maxRecDepth 100000
set_option maxHeartbeats 4000000
set_option autoImplicit false
namespace Q
open PySem PySem.Spec PySem.Calls PyProof.Rows L2
/-! ### statements -/
inductive Out where
  | nx (ρ : Rho)
  | bk (ρ : Rho)
  | ct (ρ : Rho)
  | rt (d : D)
abbrev Bd := Rho → Option Out
/-- what is known behind a return -/
def RtOk (K : PySem.W.Frag) (m : Md) (B : Bs) (F H : Hp) (v : V) (d : D) : Prop := Same B.F0 F ∧ Same B.G H ∧ Same F H ∧ New B.F0 F B.G ∧ Res K m B.G F H v d
/-- the ends that a statement's denotation reaches -/
def Ends_ (K : PySem.W.Frag) (m : Md) (W : List Nat) (B : Bs) (σ : L2.St) (D : Ends) (o : Out) : Prop := match o with
  | .nx ρ' => ∀ (σ' : L2.St) (F' H' : Hp), Rel K B F' H' σ' ρ' → (∀ j, j ∉ W → σ'[j]? = σ[j]?) → D.nx σ' H'
  | .bk ρ' => ∀ (σ' : L2.St) (F' H' : Hp), Rel K B F' H' σ' ρ' → (∀ j, j ∉ W → σ'[j]? = σ[j]?) → D.bk σ' H'
  | .ct ρ' => ∀ (σ' : L2.St) (F' H' : Hp), Rel K B F' H' σ' ρ' → (∀ j, j ∉ W → σ'[j]? = σ[j]?) → D.ct σ' H'
  | .rt d => ∀ (v : V) (F' H' : Hp), RtOk K m B F' H' v d → D.rt v H'
def SemS (K : PySem.W.Frag) (m : Md) (W : List Nat) (t : TS) (b : Bd) : Prop :=
  ∀ (B : Bs) (F H : Hp) (σ : L2.St) (ρ : Rho) (o : Out) (D : Ends), Rel K B F H σ ρ → b ρ = some o → Ends_ K m W B σ D o → t D σ H
structure DS (X : Cx) (m : Md) (W : List Nat) (st : Stmt) (t : TS) (b : Bd) : Prop where
  p : PS X st t
  s : SemS X.K m W t b
structure DSs (X : Cx) (m : Md) (W : List Nat) (st : List Stmt) (t : TS) (b : Bd) : Prop where
  p : PSs X st t
  s : SemS X.K m W t b
def bNext : Bd := fun ρ => some (.nx ρ)
def bSeq (a b : Bd) : Bd := fun ρ => (a ρ).bind fun o => match o with
  | .nx ρ' => b ρ'
  | o => some o
theorem ends_mono {K : PySem.W.Frag} {m : Md} {W W' : List Nat} {B : Bs} {σ : L2.St} {D : Ends} {o : Out} (h : Ends_ K m W' B σ D o) (hw : ∀ j, j ∈ W → j ∈ W') : Ends_ K m W B σ D o := by
  cases o with
  | nx ρ => exact fun σ' F' H' r k => h σ' F' H' r fun j hj => k j fun z => hj (hw j z)
  | bk ρ => exact fun σ' F' H' r k => h σ' F' H' r fun j hj => k j fun z => hj (hw j z)
  | ct ρ => exact fun σ' F' H' r k => h σ' F' H' r fun j hj => k j fun z => hj (hw j z)
  | rt d => exact h
theorem SemS.mono {K : PySem.W.Frag} {m : Md} {W W' : List Nat} {t : TS} {b : Bd} (h : SemS K m W t b) (hw : ∀ j, j ∈ W → j ∈ W') : SemS K m W' t b :=
  fun B F H σ ρ o D r hb e => h B F H σ ρ o D r hb (ends_mono e hw)
section
variable {X : Cx} {m : Md} {W W1 W2 : List Nat} {st : Stmt} {rest : List Stmt} {t u : TS} {b c : Bd} {pos : Pos}
theorem dss_nil : DSs X m [] [] tNext bNext := ⟨pss_nil, fun B F H σ ρ o D r hb e => by cases hb; exact e σ F H r fun _ _ => rfl⟩
theorem ends_after {K : PySem.W.Frag} {σ σ1 : L2.St} {B : Bs} {D : Ends} {o : Out} (e : Ends_ K m (W1 ++ W2) B σ D o) (k1 : ∀ j, j ∉ W1 → σ1[j]? = σ[j]?) : Ends_ K m W2 B σ1 D o := by
  have kk : ∀ (σ' : L2.St), (∀ j, j ∉ W2 → σ'[j]? = σ1[j]?) → ∀ j, j ∉ W1 ++ W2 → σ'[j]? = σ[j]? := fun σ' k' j hj =>
    (k' j fun z => hj (List.mem_append_right _ z)).trans (k1 j fun z => hj (List.mem_append_left _ z))
  cases o with
  | nx ρ2 => exact fun σ' F' H' r' k' => e σ' F' H' r' (kk σ' k')
  | bk ρ2 => exact fun σ' F' H' r' k' => e σ' F' H' r' (kk σ' k')
  | ct ρ2 => exact fun σ' F' H' r' k' => e σ' F' H' r' (kk σ' k')
  | rt d => exact e
theorem sem_seq {K : PySem.W.Frag} (h1 : SemS K m W1 t b) (h2 : SemS K m W2 u c) : SemS K m (W1 ++ W2) (tSeq t u) (bSeq b c) := by
  intro B F H σ ρ o D r hb e
  obtain ⟨o1, e1, e2⟩ := bind_some hb
  refine h1 B F H σ ρ o1 _ r e1 ?_
  cases o1 with
  | nx ρ1 => exact fun σ1 F1 H1 r1 k1 => h2 B F1 H1 σ1 ρ1 o D r1 e2 (ends_after e k1)
  | bk ρ1 => cases e2; exact fun σ' F' H' r' k' => e σ' F' H' r' fun j hj => k' j fun z => hj (List.mem_append_left _ z)
  | ct ρ1 => cases e2; exact fun σ' F' H' r' k' => e σ' F' H' r' fun j hj => k' j fun z => hj (List.mem_append_left _ z)
  | rt d => cases e2; exact e
theorem dss_cons (h1 : DS X m W1 st t b) (h2 : DSs X m W2 rest u c) : DSs X m (W1 ++ W2) (st :: rest) (tSeq t u) (bSeq b c) := ⟨pss_cons h1.p h2.p, sem_seq h1.s h2.s⟩
theorem dss_one (h1 : DS X m W st t b) : DSs X m W [st] t b := ⟨pss_one h1.p, h1.s⟩
theorem ds_pass : DS X m [] (.Pass pos) tNext bNext := ⟨ps_pass, fun B F H σ ρ o D r hb e => by cases hb; exact e σ F H r fun _ _ => rfl⟩
def bBreak : Bd := fun ρ => some (.bk ρ)
def bCont : Bd := fun ρ => some (.ct ρ)
def bNever : Bd := fun _ => none
theorem ds_break : DS X m [] (.Break pos) tBreak bBreak := ⟨ps_break, fun B F H σ ρ o D r hb e => by cases hb; exact e σ F H r fun _ _ => rfl⟩
theorem ds_cont : DS X m [] (.Continue pos) tCont bCont := ⟨ps_continue, fun B F H σ ρ o D r hb e => by cases hb; exact e σ F H r fun _ _ => rfl⟩
theorem ds_never : DS X m [] st tNever bNever := ⟨ps_never, fun B F H σ ρ o D r hb e => nomatch hb⟩
theorem dss_never {sts : List Stmt} : DSs X m [] sts tNever bNever := ⟨pss_never, fun B F H σ ρ o D r hb e => nomatch hb⟩
def bIf (c : Rho → Option Bool) (a b : Bd) : Bd := fun ρ => (c ρ).bind fun k => if k = true then a ρ else b ρ
theorem ds_if {e : Expr} {p q : List Stmt} {tc : TT} {fc : Rho → Option Bool} (hc : DT X e tc fc) (ha : DSs X m W1 p t b) (hb : DSs X m W2 q u c) : DS X m (W1 ++ W2) (.If e p q pos) (tIfS tc t u) (bIf fc b c) :=
  ⟨ps_if hc.p ha.p hb.p, fun B F H σ ρ o D r hf e => by
    obtain ⟨k, h1, h2⟩ := bind_some hf
    refine hc.s B F H σ ρ k _ r h1 fun F1 H1 x1 => ?_
    cases k with
    | true => exact ha.s B F1 H1 σ ρ o D (r.ext x1) h2 (ends_mono e fun j hj => List.mem_append_left _ hj)
    | false => exact hb.s B F1 H1 σ ρ o D (r.ext x1) h2 (ends_mono e fun j hj => List.mem_append_right _ hj)⟩
end
/-! ### the state changed -/
section
variable {K : PySem.W.Frag} {B : Bs} {F H : Hp} {σ : L2.St} {ρ : Rho}
theorem set_at {α : Type} {l : List α} {i j : Nat} {x y : α} (h : (l.set i x)[j]? = some y) : (j = i ∧ i < l.length ∧ y = x) ∨ (j ≠ i ∧ l[j]? = some y) := by
  by_cases e : j = i
  · subst e
    by_cases hl : j < l.length
    · rw [List.getElem?_set_self hl] at h
      exact .inl ⟨rfl, hl, (Option.some.inj h).symm⟩
    · rw [List.getElem?_eq_none (by simpa using hl)] at h
      cases h
  · rw [List.getElem?_set_ne (Ne.symm e)] at h
    exact .inr ⟨e, h⟩
theorem Rel.setIm (r : Rel K B F H σ ρ) {i : Nat} {v : V} {d : D} (h : Rep K F v d) : Rel K B F H (σ.set i (some v)) (ρ.set i (.im d)) := by
  refine ⟨by simpa using r.len, r.f0, r.g, r.fh, r.nw, fun j o s h1 h2 => ?_, fun j k d1 d2 a hjk h1 h2 h3 h4 => ?_⟩
  · rcases set_at h1 with ⟨rfl, _, rfl⟩ | ⟨n1, h1⟩
    · rcases set_at h2 with ⟨_, _, rfl⟩ | ⟨n2, _⟩
      · exact ⟨v, rfl, h⟩
      · exact absurd rfl n2
    · rcases set_at h2 with ⟨e, _, _⟩ | ⟨_, h2⟩
      · exact absurd e n1
      · exact r.sl j o s h1 h2
  · rcases set_at h1 with ⟨_, _, e⟩ | ⟨n1, h1⟩
    · cases e
    rcases set_at h2 with ⟨_, _, e⟩ | ⟨n2, h2⟩
    · cases e
    rw [List.getElem?_set_ne (Ne.symm n1)] at h3
    rw [List.getElem?_set_ne (Ne.symm n2)] at h4
    exact r.sep j k d1 d2 a hjk h1 h2 h3 h4
/-- a new object gets a name of its own -/
theorem Rel.setOw (r : Rel K B F H σ ρ) {i : Nat} {a : Addr} {d : D} (h0 : F a = none) (h1 : B.G a = none) (ho : Own K F H a d) (hn : ∀ (j : Nat) (e : D), j ≠ i → ρ[j]? = some (.ow e) → σ[j]? ≠ some (some (.ref a))) : Rel K B F H (σ.set i (some (.ref a))) (ρ.set i (.ow d)) := by
  refine ⟨by simpa using r.len, r.f0, r.g, r.fh, r.nw, fun j o s e1 e2 => ?_, fun j k d1 d2 b hjk e1 e2 e3 e4 => ?_⟩
  · rcases set_at e1 with ⟨rfl, _, rfl⟩ | ⟨n1, e1⟩
    · rcases set_at e2 with ⟨_, _, rfl⟩ | ⟨n2, _⟩
      · exact ⟨a, rfl, h0, h1, ho⟩
      · exact absurd rfl n2
    · rcases set_at e2 with ⟨e, _, _⟩ | ⟨_, e2⟩
      · exact absurd e n1
      · exact r.sl j o s e1 e2
  · by_cases hj : j = i
    · subst hj
      rcases set_at e3 with ⟨_, _, e⟩ | ⟨n, _⟩
      · cases e
        have hk : k ≠ j := fun z => hjk z.symm
        rw [List.getElem?_set_ne (Ne.symm hk)] at e2 e4
        exact hn k d2 hk e2 e4
      · exact absurd rfl n
    · by_cases hk : k = i
      · subst hk
        rcases set_at e4 with ⟨_, _, e⟩ | ⟨n, _⟩
        · cases e
          rw [List.getElem?_set_ne (Ne.symm hj)] at e1 e3
          exact hn j d1 hj e1 e3
        · exact absurd rfl n
      · rw [List.getElem?_set_ne (Ne.symm hj)] at e1 e3
        rw [List.getElem?_set_ne (Ne.symm hk)] at e2 e4
        exact r.sep j k d1 d2 b hjk e1 e2 e3 e4
/-- an owned object is written -/
theorem Rel.write (r : Rel K B F H σ ρ) {i : Nat} {a : Addr} {d d' : D} {o' : HO} (h1 : ρ[i]? = some (.ow d)) (h2 : σ[i]? = some (some (.ref a))) (h0 : F a = none) (hg : B.G a = none) (ho : Own K F (upd H a o') a d') : Rel K B F (upd H a o') σ (ρ.set i (.ow d')) := by
  refine ⟨by simpa using r.len, r.f0, fun b u q => ?_, fun b u q => ?_, r.nw, fun j o s e1 e2 => ?_, fun j k d1 d2 b hjk e1 e2 e3 e4 => ?_⟩
  · rw [upd_ne (ne_of_none q hg)]; exact r.g b u q
  · rw [upd_ne (ne_of_none q h0)]; exact r.fh b u q
  · rcases set_at e2 with ⟨rfl, _, rfl⟩ | ⟨n, e2⟩
    · rw [h2] at e1; cases e1
      exact ⟨a, rfl, h0, hg, ho⟩
    · have q := r.sl j o s e1 e2
      cases s with
      | un => trivial
      | im d1 => exact q
      | ow d1 =>
        obtain ⟨c, rfl, f, g, w⟩ := q
        have hca : c ≠ a := fun z => by
          subst z
          exact r.sep j i d1 d c n e2 h1 e1 h2
        refine ⟨c, rfl, f, g, ?_⟩
        cases d1 with
        | list ds =>
          obtain ⟨vs, w1, w2⟩ := w
          exact ⟨vs, by rw [upd_ne hca]; exact w1, w2⟩
        | _ => exact w.elim
  · have old : ∀ {j : Nat} {e : D}, (ρ.set i (.ow d'))[j]? = some (.ow e) → ∃ e', ρ[j]? = some (.ow e') := fun {j e} q => by
      rcases set_at q with ⟨rfl, _, _⟩ | ⟨_, q⟩
      · exact ⟨d, h1⟩
      · exact ⟨e, q⟩
    obtain ⟨d1', e1⟩ := old e1
    obtain ⟨d2', e2⟩ := old e2
    exact r.sep j k d1' d2' b hjk e1 e2 e3 e4
/-- an owned object is frozen -/
theorem Rel.freeze (r : Rel K B F H σ ρ) {i : Nat} {d : D} (h1 : ρ[i]? = some (.ow d)) : ∃ F' v, Same F F' ∧ σ[i]? = some (some v) ∧ Rep K F' v d ∧ Rel K B F' H σ (ρ.set i (.im d)) := by
  obtain ⟨o, e, a, rfl, f, g, w⟩ := r.at h1
  cases d with
  | list ds =>
    obtain ⟨vs, w1, w2⟩ := w
    have s1 : Same F (upd F a (.lst vs)) := same_upd f
    have hrep : Rep K (upd F a (.lst vs)) (.ref a) (.list ds) := .lst (.of upd_same) (w2.mono s1)
    refine ⟨upd F a (.lst vs), .ref a, s1, e, hrep, ⟨by simpa using r.len, r.f0.trans s1, r.g, same_upd2 r.fh w1 f, fun b q => ?_, fun j o s e1 e2 => ?_, fun j k d1 d2 b hjk e1 e2 e3 e4 => ?_⟩⟩
    · by_cases z : b = a
      · subst z; exact .inr g
      · rw [upd_ne z] at q; exact r.nw b q
    · rcases set_at e2 with ⟨rfl, _, rfl⟩ | ⟨n, e2⟩
      · rw [e] at e1; cases e1
        exact ⟨_, rfl, hrep⟩
      · have q := r.sl j o s e1 e2
        cases s with
        | un => trivial
        | im d1 => obtain ⟨v, q1, q2⟩ := q; exact ⟨v, q1, q2.mono s1⟩
        | ow d1 =>
          obtain ⟨c, rfl, f', g', w'⟩ := q
          have hca : c ≠ a := fun z => by
            subst z
            exact r.sep j i d1 _ c n e2 h1 e1 e
          exact ⟨c, rfl, by rw [upd_ne hca]; exact f', g', w'.mono s1 (.refl _)⟩
    · rcases set_at e1 with ⟨_, _, z⟩ | ⟨n1, e1⟩
      · cases z
      rcases set_at e2 with ⟨_, _, z⟩ | ⟨n2, e2⟩
      · cases z
      exact r.sep j k d1 d2 b hjk e1 e2 e3 e4
  | _ => exact w.elim
theorem set_keep {i : Nat} {v : Option V} : ∀ j, j ∉ [i] → (σ.set i v)[j]? = σ[j]? := fun j hj => List.getElem?_set_ne fun z => hj (by rw [z]; exact List.mem_singleton.mpr rfl)
end
/-! ### assignments, return -/
section
variable {X : Cx} {m m1 : Md} {pos pos' : Pos} {e : Expr} {te : TE} {f : Rho → Option D}
def bAsg (i : Nat) (f : Rho → Option D) : Bd := fun ρ => (f ρ).bind fun d => some (.nx (ρ.set i (.im d)))
def bOwn (i : Nat) (f : Rho → Option D) : Bd := fun ρ => (f ρ).bind fun d => some (.nx (ρ.set i (.ow d)))
theorem sem_asg {K : PySem.W.Frag} {i : Nat} (h : SemE K .fz te f) : SemS K m [i] (tAsg te (gName i)) (bAsg i f) := by
  intro B F H σ ρ o D r hb q
  obtain ⟨d, h1, h2⟩ := bind_some hb
  cases h2
  exact h B F H σ ρ d _ r h1 fun v F1 H1 x1 r1 => q _ F1 H1 ((r.ext x1).setIm r1) set_keep
theorem own_ne {K : PySem.W.Frag} {B : Bs} {F H : Hp} {σ : L2.St} {ρ : Rho} (r : Rel K B F H σ ρ) {a : Addr} (h : H a = none) : ∀ (j : Nat) (e : D), ρ[j]? = some (.ow e) → σ[j]? ≠ some (some (.ref a)) := fun j e h1 h2 => by
  have q := r.sl j _ _ h2 h1
  obtain ⟨b, eb, _, _, w⟩ := q
  cases eb
  exact w.there h
theorem sem_own {K : PySem.W.Frag} {i : Nat} (h : SemE K .fr te f) : SemS K m [i] (tAsg te (gName i)) (bOwn i f) := by
  intro B F H σ ρ o D r hb q
  obtain ⟨d, h1, h2⟩ := bind_some hb
  cases h2
  refine h B F H σ ρ d _ r h1 fun v F1 H1 x1 r1 => ?_
  obtain ⟨a, rfl, h0, h3, ho⟩ := r1
  exact q _ F1 H1 ((r.ext x1).setOw h3 (r.g.free h0) ho fun j e _ e1 => own_ne r h0 j e e1) set_keep
theorem ds_asg {i : Nat} {x : Str} (he : DE X .fz e te f) (hN : X.N.Nodup) (hi : X.N[i]? = some x := by rfl) (hx : Loc X.env.scope x := by first | exact Or.inl rfl | exact Or.inr rfl) (hs : swapsWith e (some (.Name x pos')) pos.line X.env = pure false := by rfl)
    (hf : X.fn x = true ∨ X.env.scope.names.lookup x = some .local := by first | exact .inl rfl | exact .inr rfl) : DS X m [i] (.Assign [.Name x pos'] e pos) (tAsg te (gName i)) (bAsg i f) := ⟨ps_set hN hi hx he.p hs hf, sem_asg he.s⟩
theorem ds_own {i : Nat} {x : Str} (he : DE X .fr e te f) (hN : X.N.Nodup) (hi : X.N[i]? = some x := by rfl) (hx : Loc X.env.scope x := by first | exact Or.inl rfl | exact Or.inr rfl) (hs : swapsWith e (some (.Name x pos')) pos.line X.env = pure false := by rfl)
    (hf : X.fn x = true ∨ X.env.scope.names.lookup x = some .local := by first | exact .inl rfl | exact .inr rfl) : DS X m [i] (.Assign [.Name x pos'] e pos) (tAsg te (gName i)) (bOwn i f) := ⟨ps_set hN hi hx he.p hs hf, sem_own he.s⟩
/-- x = y, y an owned object: frozen from then on -/
def bMove (i j : Nat) : Bd := fun ρ => match ρ[j]? with
  | some (.im d) => some (.nx (ρ.set i (.im d)))
  | some (.ow d) => some (.nx ((ρ.set j (.im d)).set i (.im d)))
  | _ => none
theorem sem_move {K : PySem.W.Frag} {i j : Nat} : SemS K m [i] (tAsg (tVar j) (gName i)) (bMove i j) := by
  intro B F H σ ρ o D r hb q
  unfold bMove at hb
  split at hb
  · rename_i d e1
    cases hb
    obtain ⟨o, h1, v, rfl, h2⟩ := r.at e1
    exact ⟨v, h1, q _ F H (r.setIm h2) set_keep⟩
  · rename_i d e1
    cases hb
    obtain ⟨F', v, s1, h1, h2, r2⟩ := r.freeze e1
    exact ⟨v, h1, q _ F' H (r2.setIm h2) set_keep⟩
  · cases hb
theorem ds_move {i j : Nat} {x y : Str} {p : Pos} (hN : X.N.Nodup) (hi : X.N[i]? = some x := by rfl) (hx : Loc X.env.scope x := by first | exact Or.inl rfl | exact Or.inr rfl) (hs : swapsWith (.Name y p) (some (.Name x pos')) pos.line X.env = pure false := by rfl)
    (hf : X.fn x = true ∨ X.env.scope.names.lookup x = some .local := by first | exact .inl rfl | exact .inr rfl) (hj : X.N[j]? = some y := by rfl) (hv : Vis X.env.scope y := by first | exact Or.inl rfl | exact Or.inr (Or.inl rfl) | exact Or.inr (Or.inr rfl))
    (hd : (y == ("__debug__" : Str)) = false := by decide) (hcd : (y == ("__classdict__" : Str)) = false := by decide) : DS X m [i] (.Assign [.Name x pos'] (.Name y p) pos) (tAsg (tVar j) (gName i)) (bMove i j) := ⟨ps_set hN hi hx (pe_var hj hv hd hcd) hs hf, sem_move⟩
def bRet (f : Rho → Option D) : Bd := fun ρ => (f ρ).map .rt
theorem rel_rt {K : PySem.W.Frag} {B : Bs} {F H : Hp} {σ : L2.St} {ρ : Rho} {v : V} {d : D} (r : Rel K B F H σ ρ) (h : Res K m B.G F H v d) : RtOk K m B F H v d := ⟨r.f0, r.g, r.fh, r.nw, h⟩
theorem ds_ret (he : DE X m e te f) : DS X m [] (.Return (some e) pos) (tRet te) (bRet f) := ⟨ps_ret he.p, fun B F H σ ρ o D r hb q => by
  obtain ⟨d, h1, rfl⟩ := Option.map_eq_some_iff.mp hb
  exact he.s B F H σ ρ d _ r h1 fun v F1 H1 x1 r1 => q v F1 H1 (rel_rt (r.ext x1) (r1.back (F1 := F1) r.g))⟩
/-- return of an owned name: the object itself -/
def vO (i : Nat) : Rho → Option D := fun ρ => match ρ[i]? with
  | some (.ow d) => some d
  | _ => none
theorem ds_retOwn {i : Nat} {x : Str} {p : Pos} (hN : X.N[i]? = some x := by rfl) (hv : Vis X.env.scope x := by first | exact Or.inl rfl | exact Or.inr (Or.inl rfl) | exact Or.inr (Or.inr rfl)) (hd : (x == ("__debug__" : Str)) = false := by decide)
    (hcd : (x == ("__classdict__" : Str)) = false := by decide) : DS X .fr [] (.Return (some (.Name x p)) pos) (tRet (tVar i)) (bRet (vO i)) := ⟨ps_ret (pe_var hN hv hd hcd), fun B F H σ ρ o D r hb q => by
  obtain ⟨d, h1, rfl⟩ := Option.map_eq_some_iff.mp hb
  unfold vO at h1
  split at h1
  · rename_i d' e1
    cases h1
    obtain ⟨o, h1, a, rfl, h2, h3, h4⟩ := r.at e1
    exact ⟨_, h1, q _ F H (rel_rt r ⟨a, rfl, h3, h2, h4⟩)⟩
  · cases h1⟩
/-- return of a name whatever it is, frozen -/
theorem ds_retP {i : Nat} {x : Str} {p : Pos} (hN : X.N[i]? = some x := by rfl) (hv : Vis X.env.scope x := by first | exact Or.inl rfl | exact Or.inr (Or.inl rfl) | exact Or.inr (Or.inr rfl)) (hd : (x == ("__debug__" : Str)) = false := by decide)
    (hcd : (x == ("__classdict__" : Str)) = false := by decide) : DS X .fz [] (.Return (some (.Name x p)) pos) (tRet (tVar i)) (bRet (vP i)) := ⟨ps_ret (pe_var hN hv hd hcd), fun B F H σ ρ o D r hb q => by
  obtain ⟨d, h1, rfl⟩ := Option.map_eq_some_iff.mp hb
  unfold vP at h1
  split at h1
  · rename_i d' e1
    cases h1
    obtain ⟨o, h1, v, rfl, h2⟩ := r.at e1
    exact ⟨v, h1, q _ F H (rel_rt r h2)⟩
  · rename_i d' e1
    cases h1
    obtain ⟨F', v, s1, h1, h2, r2⟩ := r.freeze e1
    exact ⟨v, h1, q _ F' H (rel_rt r2 h2)⟩
  · cases h1⟩
theorem ds_retN : DS X .fz [] (.Return none pos) tRetN (fun _ => some (.rt .none)) := ⟨ps_retN, fun B F H σ ρ o D r hb q => by cases hb; exact q _ F H (rel_rt r Rep.non)⟩
end
end Q
end

/-! part: Q6 -/
section
set_option Elab.async false
set_option linter.all false
set_option maxRecDepth 100000
set_option maxHeartbeats 4000000
set_option autoImplicit false
namespace Q
open PySem PySem.Spec PySem.Calls PyProof.Rows L2
/-! ### what is walked -/
/-- a value as a datum; w: a pair made by an iterator will do -/
def RepB (w : Bool) (K : PySem.W.Frag) (F : Hp) (v : V) (d : D) : Prop := Rep K F v d ∨ (w = true ∧ ∃ a xs ds, v = .ref a ∧ d = .tuple ds ∧ SqT K F a xs ∧ RepA K F xs ds)
theorem RepB.strong {K : PySem.W.Frag} {F : Hp} {v : V} {d : D} (h : RepB false K F v d) : Rep K F v d := h.elim id fun z => nomatch z.1
/-- over data: fixed. st: what must stand besides F (none for an iterable that is frozen) -/
structure ItO (w : Bool) (K : PySem.W.Frag) (J : It) (F : Hp) (st : Hp → Prop) (ds : List D) : Prop where
  go : ∀ (i : Nat) (F' H' : Hp), i < ds.length → Same F F' → Same F' H' → st H' → J.go i H'
  yld : ∀ (i : Nat) (d : D) (F' H' : Hp) (x : V) (H3 : Hp), ds[i]? = some d → Same F F' → Same F' H' → st H' → J.yld i H' x H3 → ∃ F3, Ext F' H' F3 H3 ∧ RepB w K F3 x d
  stop : ∀ (i : Nat) (F' H' : Hp), ds.length ≤ i → Same F F' → Same F' H' → st H' → J.stop i H'
theorem ItO.weak {w : Bool} {K : PySem.W.Frag} {J : It} {F : Hp} {st : Hp → Prop} {ds : List D} (h : ItO false K J F st ds) : ItO w K J F st ds :=
  ⟨h.go, fun i d F' H' x H3 h1 h2 h3 h4 h5 => by
    obtain ⟨F3, e, r⟩ := h.yld i d F' H' x H3 h1 h2 h3 h4 h5
    exact ⟨F3, e, .inl r.strong⟩, h.stop⟩
theorem ItO.imp {w : Bool} {K : PySem.W.Frag} {J : It} {F : Hp} {st st' : Hp → Prop} {ds : List D} (h : ItO w K J F st ds) (i : ∀ H, st' H → st H) : ItO w K J F st' ds :=
  ⟨fun a b c h1 h2 h3 h4 => h.go a b c h1 h2 h3 (i _ h4), fun a d b c x y h1 h2 h3 h4 h5 => h.yld a d b c x y h1 h2 h3 (i _ h4) h5, fun a b c h1 h2 h3 h4 => h.stop a b c h1 h2 h3 (i _ h4)⟩
/-- frozen: m = fz: nothing must stand but F; m = pk: the heap as it is must be kept -/
def SemI (w : Bool) (K : PySem.W.Frag) (m : Md) (wi : TI) (f : Rho → Option (List D)) : Prop :=
  ∀ (B : Bs) (F H : Hp) (σ : L2.St) (ρ : Rho) (ds : List D) (R : It → Hp → Prop), Rel K B F H σ ρ → f ρ = some ds →
    (∀ J F' H', Ext F H F' H' → ItO w K J F' (match m with
      | .fz => fun _ => True
      | _ => fun H2 => Same H' H2) ds → R J H') → wi σ H R
structure DI (w : Bool) (X : Cx) (m : Md) (tg iter : Expr) (wi : TI) (f : Rho → Option (List D)) : Prop where
  p : PI X tg iter wi
  s : SemI w X.K m wi f
theorem DI.pk {w : Bool} {X : Cx} {m : Md} {tg iter : Expr} {wi : TI} {f : Rho → Option (List D)} (h : DI w X m tg iter wi f) : DI w X .pk tg iter wi f := ⟨h.p, fun B F H σ ρ ds R r hf q => h.s B F H σ ρ ds R r hf fun J F' H' x it => q J F' H' x (by
  cases m with
  | fz => exact it.imp fun _ _ => trivial
  | pk => exact it
  | fr => exact it)⟩
/-! a list, a tuple, a text -/
def iAny (K : PySem.W.Frag) (te : TE) : TI := fun σ H R => te σ H fun x H1 => (∃ a, x = .ref a ∧ (∃ xs, SqL K H1 a xs) ∧ R (Itl K a) H1) ∨ ((∃ a, x = .ref a ∧ (∃ xs, SqT K H1 a xs) ∧ R (Itt K a) H1) ∨ ∃ z, x = .str z ∧ R (Its z) H1)
theorem pi_any {X : Cx} {tg l : Expr} {tl : TE} (hl : PE X l tl) : PI X tg l (iAny X.K tl) := by
  refine ⟨fun pins s σ H R I h => ?_⟩
  refine thn (hl.run pins s σ H _ I h) fun v s1 ⟨x, H1, I1, r1, q1⟩ => ?_
  rcases q1 with ⟨a, e, ⟨xs, hq⟩, q⟩ | ⟨a, e, ⟨xs, hq⟩, q⟩ | ⟨z, e, q⟩
  · subst e
    cases r1
    obtain ⟨its, rv, p, hz⟩ := I1.list hq
    refine wpAny_pyIter_list p.isList ?_
    refine ⟨s1.heap.objs.size, [s1.heap.objs.size], _, _, H1, rfl, I1.kept (t' := s1.toks) fun b o e => Heap.get?_push_of_some _ e, turn_list a _, ⟨_, Heap.get?_push_size _ rfl, rfl, rfl⟩, fun b hb => ?_, q⟩
    have e : b = s1.heap.objs.size := by simpa using hb
    subst e
    exact I1.fpOk (Nat.le_refl _) (I1.hok.fresh (Nat.le_refl _))
  · subst e
    cases r1
    obtain ⟨its, rv, p, hz⟩ := I1.tuple hq
    refine wpAny_pyIter_tuple (show s1.heap.IsTuple a its.toArray from p) ?_
    refine ⟨s1.heap.objs.size, [s1.heap.objs.size], _, _, H1, rfl, I1.kept (t' := s1.toks) fun b o e => Heap.get?_push_of_some _ e, turn_tuple a _, ⟨_, Heap.get?_push_size _ rfl, rfl, rfl⟩, fun b hb => ?_, q⟩
    have e : b = s1.heap.objs.size := by simpa using hb
    subst e
    exact I1.fpOk (Nat.le_refl _) (I1.hok.fresh (Nat.le_refl _))
  · subst e
    obtain ⟨t, rfl⟩ := r1
    cases ha : z.cps.all (· < 128)
    · exact wpAny_pyIter_wide ha (pi_one (tk := s1.toks) I1 _ (turn_str _ z t "str_iterator" (.inr rfl)) ⟨_, Heap.get?_push_size _ rfl, rfl, rfl⟩ q)
    · exact wpAny_pyIter_ascii ha (pi_one (tk := s1.toks) I1 _ (turn_str _ z t "str_ascii_iterator" (.inl rfl)) ⟨_, Heap.get?_push_size _ rfl, rfl, rfl⟩ q)
def signsD (z : Str) : List D := z.cps.toList.map fun c => .str ⟨#[c]⟩
def walkD : D → Option (List D)
  | .list ds => some ds
  | .tuple ds => some ds
  | .str z => some (signsD z)
  | _ => none
def fI (f : Rho → Option D) : Rho → Option (List D) := fun ρ => (f ρ).bind walkD
theorem SqL.inj {K : PySem.W.Frag} {F H : Hp} {a : Addr} {xs ys : List V} (h : SqL K F a xs) (s : Same F H) (h' : SqL K H a ys) (nk : ∀ o, K.lookup a = some o → F a = none → True) : True := trivial
theorem sq_it {K : PySem.W.Frag} {H : Hp} {a : Addr} {xs : List V} {d : D} {ds : List D} {F : Hp} {i : Nat} (r : RepA K F xs ds) (h : ds[i]? = some d) : ∃ x, xs[i]? = some x ∧ Rep K F x d := r.get h
theorem itl_ok {K : PySem.W.Frag} {F : Hp} {a : Addr} {xs : List V} {ds : List D} {st : Hp → Prop} (hs : ∀ H, Same F H → st H → SqL K H a xs) (r : RepA K F xs ds) : ItO false K (Itl K a) F st ds :=
  ⟨fun i F' H' hi s1 s2 s3 => by
    obtain ⟨x, h1, _⟩ := r.get (List.getElem?_eq_getElem hi)
    exact ⟨xs, x, hs H' (s1.trans s2) s3, h1⟩, fun i d F' H' x H3 hd s1 s2 s3 y => by
    obtain ⟨rfl, y⟩ := y
    obtain ⟨x', h1, h2⟩ := r.get hd
    have e := y xs (hs _ (s1.trans s2) s3)
    rw [h1] at e
    cases e
    exact ⟨F', .refl s2, .inl (h2.mono s1)⟩, fun i F' H' hi s1 s2 s3 => ⟨xs, hs H' (s1.trans s2) s3, by rw [r.length]; exact hi⟩⟩
theorem itt_ok {K : PySem.W.Frag} {F : Hp} {a : Addr} {xs : List V} {ds : List D} {st : Hp → Prop} (hs : ∀ H, Same F H → st H → SqT K H a xs) (r : RepA K F xs ds) : ItO false K (Itt K a) F st ds :=
  ⟨fun i F' H' hi s1 s2 s3 => by
    obtain ⟨x, h1, _⟩ := r.get (List.getElem?_eq_getElem hi)
    exact ⟨xs, x, hs H' (s1.trans s2) s3, h1⟩, fun i d F' H' x H3 hd s1 s2 s3 y => by
    obtain ⟨rfl, y⟩ := y
    obtain ⟨x', h1, h2⟩ := r.get hd
    have e := y xs (hs _ (s1.trans s2) s3)
    rw [h1] at e
    cases e
    exact ⟨F', .refl s2, .inl (h2.mono s1)⟩, fun i F' H' hi s1 s2 s3 => ⟨xs, hs H' (s1.trans s2) s3, by rw [r.length]; exact hi⟩⟩
theorem its_ok {K : PySem.W.Frag} {F : Hp} {z : Str} {st : Hp → Prop} : ItO false K (Its z) F st (signsD z) := by
  have hl : (signsD z).length = z.cps.size := by unfold signsD; rw [List.length_map, Array.length_toList]
  refine ⟨fun i F' H' hi s1 s2 s3 => by rw [hl] at hi; exact hi, fun i d F' H' x H3 hd s1 s2 s3 y => ?_, fun i F' H' hi s1 s2 s3 => by rw [hl] at hi; exact hi⟩
  obtain ⟨rfl, c, h1, rfl⟩ := y
  have e : (signsD z)[i]? = some (.str ⟨#[c]⟩) := by
    unfold signsD
    rw [List.getElem?_map, Array.getElem?_toList, h1]
    rfl
  rw [e] at hd
  cases hd
  exact ⟨F', .refl s2, .inl (Rep.str _)⟩
theorem sem_any {K : PySem.W.Frag} {te : TE} {f : Rho → Option D} (h : SemE K .fz te f) : SemI false K .fz (iAny K te) (fI f) := by
  intro B F H σ ρ ds R rel hf q
  obtain ⟨d, h1, h2⟩ := bind_some hf
  refine h B F H σ ρ d _ rel h1 fun v F1 H1 x1 r1 => ?_
  cases d with
  | list es =>
    cases h2
    cases r1 with
    | lst hs hr => exact .inl ⟨_, rfl, ⟨_, x1.s.seq hs⟩, q _ F1 H1 x1 (itl_ok (fun H s _ => s.seq hs) hr)⟩
  | tuple es =>
    cases h2
    cases r1 with
    | tup hs hr => exact .inr (.inl ⟨_, rfl, ⟨_, (hs.mono x1.s).sq⟩, q _ F1 H1 x1 (itt_ok (fun H s _ => (hs.mono s).sq) hr)⟩)
  | str z =>
    cases h2
    cases r1 with
    | str => exact .inr (.inr ⟨z, rfl, q _ F1 H1 x1 its_ok⟩)
  | _ => cases h2
theorem sem_anyP {K : PySem.W.Frag} {te : TE} {f : Rho → Option D} {m : Md} (h : SemE K m te f) : SemI false K .pk (iAny K te) (fI f) := by
  intro B F H σ ρ ds R rel hf q
  obtain ⟨d, h1, h2⟩ := bind_some hf
  refine h B F H σ ρ d _ rel h1 fun v F1 H1 x1 r1 => ?_
  cases d with
  | list es =>
    cases h2
    obtain ⟨a, xs, rfl, hs, hr⟩ := r1.list x1.s
    exact .inl ⟨a, rfl, ⟨xs, hs⟩, q _ F1 H1 x1 (itl_ok (fun H _ s => s.seq hs) hr)⟩
  | tuple es =>
    cases h2
    obtain ⟨a, xs, rfl, hs, hr⟩ := r1.tup x1.s
    exact .inr (.inl ⟨a, rfl, ⟨xs, hs.sq⟩, q _ F1 H1 x1 (itt_ok (fun H _ s => (hs.mono s).sq) hr)⟩)
  | str z =>
    cases h2
    rw [r1.str]
    exact .inr (.inr ⟨z, rfl, q _ F1 H1 x1 its_ok⟩)
  | _ => cases h2
section
variable {X : Cx} {tg e : Expr} {te : TE} {f : Rho → Option D} {m : Md} {es : List Expr} {ta : TA} {fs : Rho → Option (List D)} {p pos : Pos}
theorem di_any (h : DE X .fz e te f) : DI false X .fz tg e (iAny X.K te) (fI f) := ⟨pi_any h.p, sem_any h.s⟩
theorem di_anyK (K' : PySem.W.Frag) (h : DE X .fz e te f) (hK : X.K = K' := by rfl) : DI false X .fz tg e (iAny K' te) (fI f) := by
  subst hK
  exact di_any (h := h)
theorem di_anyP (h : DE X m e te f) : DI false X .pk tg e (iAny X.K te) (fI f) := ⟨pi_any h.p, sem_anyP h.s⟩
theorem di_anyPK (K' : PySem.W.Frag) (h : DE X m e te f) (hK : X.K = K' := by rfl) : DI false X .pk tg e (iAny K' te) (fI f) := by
  subst hK
  exact di_anyP (h := h)
/-! ranges -/
def rgD (lo : Int) (n : Nat) : List D := (List.range n).map fun i => .int (lo + (i : Nat))
theorem rgD_at {lo : Int} {n i : Nat} {d : D} (h : (rgD lo n)[i]? = some d) : d = .int (lo + (i : Nat)) := by
  unfold rgD at h
  rw [List.getElem?_map] at h
  obtain ⟨j, h1, rfl⟩ := Option.map_eq_some_iff.mp h
  obtain ⟨h2, h3⟩ := List.getElem?_eq_some_iff.mp h1
  rw [List.getElem_range] at h3
  rw [h3]
theorem rgD_length (lo : Int) (n : Nat) : (rgD lo n).length = n := by unfold rgD; rw [List.length_map, List.length_range]
theorem itr_ok {K : PySem.W.Frag} {F : Hp} {lo : Int} {n : Nat} {st : Hp → Prop} : ItO false K (Itr lo n) F st (rgD lo n) :=
  ⟨fun i F' H' hi s1 s2 s3 => by rw [rgD_length] at hi; exact hi, fun i d F' H' x H3 hd s1 s2 s3 y => by
    obtain ⟨rfl, rfl⟩ := y
    rw [rgD_at hd]
    exact ⟨F', .refl s2, .inl (Rep.int _)⟩, fun i F' H' hi s1 s2 s3 => by rw [rgD_length] at hi; exact hi⟩
def rg1D : List D → Option (List D)
  | [.int j] => if -(2 ^ 62) ≤ j ∧ j < 2 ^ 62 then some (rgD 0 j.toNat) else none
  | _ => none
def rg2D : List D → Option (List D)
  | [.int i, .int j] => if -(2 ^ 62) ≤ i ∧ i < 2 ^ 62 ∧ -(2 ^ 62) ≤ j ∧ j < 2 ^ 62 then some (rgD i (j - i).toNat) else none
  | _ => none
def fIs (g : List D → Option (List D)) (fs : Rho → Option (List D)) : Rho → Option (List D) := fun ρ => (fs ρ).bind g
theorem sem_rg1 {K : PySem.W.Frag} (h : SemA K m ta fs) : SemI false K .fz (iRng1 ta) (fIs rg1D fs) := by
  intro B F H σ ρ ds R rel hf q
  obtain ⟨as, h1, h2⟩ := bind_some hf
  refine h B F H σ ρ as _ rel h1 fun vs F1 H1 x1 r1 => ?_
  match as, h2, r1 with
  | [.int j], h2, r1 =>
    obtain ⟨h3, rfl⟩ := if_some h2
    obtain ⟨v, rfl, rv⟩ := resA1 r1
    rw [rv.int]
    exact ⟨j, rfl, h3.1, h3.2, q _ F1 H1 x1 itr_ok⟩
theorem sem_rg2 {K : PySem.W.Frag} (h : SemA K m ta fs) : SemI false K .fz (iRng2 ta) (fIs rg2D fs) := by
  intro B F H σ ρ ds R rel hf q
  obtain ⟨as, h1, h2⟩ := bind_some hf
  refine h B F H σ ρ as _ rel h1 fun vs F1 H1 x1 r1 => ?_
  match as, h2, r1 with
  | [.int i, .int j], h2, r1 =>
    obtain ⟨h3, rfl⟩ := if_some h2
    obtain ⟨v, w, rfl, rv, rw'⟩ := resA2 r1
    rw [rv.int, rw'.int]
    exact ⟨i, j, rfl, h3, q _ F1 H1 x1 itr_ok⟩
theorem di_rg1 {a : Expr} (hg : Gl X "range") (hm : X.mg "range" = none) (ha : DA X m [a] ta fs) (hs : starEach [a] X.env = [(false, eval a X.env)] := by rfl) : DI false X .fz tg (.Call (.Name "range" p) [a] [] pos) (iRng1 ta) (fIs rg1D fs) := ⟨pi_range1 hg hm ha.p hs, sem_rg1 ha.s⟩
theorem di_rg2 {a b : Expr} (hg : Gl X "range") (hm : X.mg "range" = none) (ha : DA X m [a, b] ta fs) (hs : starEach [a, b] X.env = [(false, eval a X.env), (false, eval b X.env)] := by rfl) (hs2 : starEach [b] X.env = [(false, eval b X.env)] := by rfl) :
    DI false X .fz tg (.Call (.Name "range" p) [a, b] [] pos) (iRng2 ta) (fIs rg2D fs) := ⟨pi_range2 hg hm ha.p hs hs2, sem_rg2 ha.s⟩
/-! reversed -/
theorem rev_at {α : Type} {l : List α} {i : Nat} (h : i < l.length) : l.reverse[i]? = l[l.length - 1 - i]? := by
  rw [List.getElem?_reverse h]
theorem itv_ok {K : PySem.W.Frag} {F : Hp} {a : Addr} {xs : List V} {ds : List D} {st : Hp → Prop} (hs : ∀ H, Same F H → st H → SqL K H a xs) (r : RepA K F xs ds) : ItO false K (Itv K a xs.length) F st ds.reverse :=
  ⟨fun i F' H' hi s1 s2 s3 => by
    rw [List.length_reverse] at hi
    have hi' : i < xs.length := by rw [r.length]; exact hi
    exact ⟨hi', xs, xs[xs.length - 1 - i]'(by omega), hs H' (s1.trans s2) s3, List.getElem?_eq_getElem _⟩, fun i d F' H' x H3 hd s1 s2 s3 y => by
    obtain ⟨rfl, y⟩ := y
    have hi : i < ds.length := by have := (List.getElem?_eq_some_iff.mp hd).1; rwa [List.length_reverse] at this
    rw [rev_at hi, ← r.length] at hd
    obtain ⟨x', h1, h2⟩ := r.get hd
    have e := y xs (hs _ (s1.trans s2) s3)
    rw [h1] at e
    cases e
    exact ⟨F', .refl s2, .inl (h2.mono s1)⟩, fun i F' H' hi s1 s2 s3 => by rw [List.length_reverse, ← r.length] at hi; exact hi⟩
theorem itvT_ok {K : PySem.W.Frag} {F : Hp} {a : Addr} {xs : List V} {ds : List D} {st : Hp → Prop} (hs : ∀ H, Same F H → st H → SqT K H a xs) (r : RepA K F xs ds) : ItO false K (RT.ItvT K a xs.length) F st ds.reverse :=
  ⟨fun i F' H' hi s1 s2 s3 => by
    rw [List.length_reverse] at hi
    have hi' : i < xs.length := by rw [r.length]; exact hi
    exact ⟨hi', xs, xs[xs.length - 1 - i]'(by omega), hs H' (s1.trans s2) s3, List.getElem?_eq_getElem _⟩, fun i d F' H' x H3 hd s1 s2 s3 y => by
    obtain ⟨rfl, y⟩ := y
    have hi : i < ds.length := by have := (List.getElem?_eq_some_iff.mp hd).1; rwa [List.length_reverse] at this
    rw [rev_at hi, ← r.length] at hd
    obtain ⟨x', h1, h2⟩ := r.get hd
    have e := y xs (hs _ (s1.trans s2) s3)
    rw [h1] at e
    cases e
    exact ⟨F', .refl s2, .inl (h2.mono s1)⟩, fun i F' H' hi s1 s2 s3 => by rw [List.length_reverse, ← r.length] at hi; exact hi⟩
def revD (d : D) : Option (List D) := (itemsD d).map List.reverse
def fRev (f : Rho → Option D) : Rho → Option (List D) := fun ρ => (f ρ).bind revD
theorem sem_rev {K : PySem.W.Frag} (h : SemE K .fz te f) : SemI false K .fz (RT.iRevA K te) (fRev f) := by
  intro B F H σ ρ ds R rel hf q
  obtain ⟨d, h1, h2⟩ := bind_some hf
  obtain ⟨es, h3, rfl⟩ := Option.map_eq_some_iff.mp h2
  refine h B F H σ ρ d _ rel h1 fun v F1 H1 x1 r1 => ?_
  cases d with
  | list es =>
    cases h3
    cases r1 with
    | lst hs hr => exact ⟨_, _, rfl, .inl ⟨x1.s.seq hs, q _ F1 H1 x1 (itv_ok (fun H s _ => s.seq hs) hr)⟩⟩
  | tuple es =>
    cases h3
    cases r1 with
    | tup hs hr => exact ⟨_, _, rfl, .inr ⟨(hs.mono x1.s).sq, q _ F1 H1 x1 (itvT_ok (fun H s _ => (hs.mono s).sq) hr)⟩⟩
  | _ => cases h3
theorem di_rev (hg : Gl X "reversed") (hm : X.mg "reversed" = none) (he : DE X .fz e te f) (hs : starEach [e] X.env = (false, eval e X.env) :: starEach [] X.env := by rfl) : DI false X .fz tg (.Call (.Name "reversed" p) [e] [] pos) (RT.iRevA X.K te) (fRev f) := ⟨RT.pi_revA hg hm he.p hs, sem_rev he.s⟩
theorem di_revK (K' : PySem.W.Frag) (hg : Gl X "reversed") (hm : X.mg "reversed" = none) (he : DE X .fz e te f) (hs : starEach [e] X.env = (false, eval e X.env) :: starEach [] X.env := by rfl) (hK : X.K = K' := by rfl) : DI false X .fz tg (.Call (.Name "reversed" p) [e] [] pos) (RT.iRevA K' te) (fRev f) := by
  subst hK
  exact di_rev (hg := hg) (hm := hm) (he := he) (hs := hs)
/-! zip -/
theorem pair_ok {K : PySem.W.Frag} {F' H' : Hp} {T : Addr} {x y : V} {dx dy : D} (s2 : Same F' H') (hT : H' T = none) (hx : Rep K F' x dx) (hy : Rep K F' y dy) : ∃ F3, Ext F' H' F3 (upd H' T (.tup [x, y])) ∧ RepB true K F3 (.ref T) (.tuple [dx, dy]) := by
  have e := ext_new (o := .tup [x, y]) (Ext.refl s2) hT
  exact ⟨_, e, .inr ⟨rfl, T, [x, y], _, rfl, rfl, .of upd_same, .cons (hx.mono e.f) (.cons (hy.mono e.f) .nil)⟩⟩
def zipL : List D → List D → List D
  | d :: ds, e :: es => .tuple [d, e] :: zipL ds es
  | _, _ => []
theorem zipL_at : ∀ {ds es : List D} {i : Nat} {d : D}, (zipL ds es)[i]? = some d → ∃ x y, ds[i]? = some x ∧ es[i]? = some y ∧ d = .tuple [x, y]
  | [], _, _, _, h => by simp [zipL] at h
  | _ :: _, [], _, _, h => by simp [zipL] at h
  | x :: ds, y :: es, 0, d, h => by simp [zipL] at h; subst h; exact ⟨x, y, rfl, rfl, rfl⟩
  | x :: ds, y :: es, i + 1, d, h => by
    have h' : (zipL ds es)[i]? = some d := by simpa [zipL] using h
    obtain ⟨a, b, h1, h2, h3⟩ := zipL_at h'
    exact ⟨a, b, by simpa using h1, by simpa using h2, h3⟩
theorem zipL_length : ∀ (ds es : List D), (zipL ds es).length = min ds.length es.length
  | [], _ => by simp [zipL]
  | _ :: _, [] => by simp [zipL]
  | x :: ds, y :: es => by simp only [zipL, List.length_cons, zipL_length ds es]; omega
theorem itz_ok {K : PySem.W.Frag} {F : Hp} {a b : Addr} {xs ys : List V} {ds es : List D} {st : Hp → Prop} (hs : ∀ H, Same F H → st H → SqL K H a xs) (hs2 : ∀ H, Same F H → st H → SqL K H b ys) (r : RepA K F xs ds) (r2 : RepA K F ys es) : ItO true K (Itz K a b) F st (zipL ds es) :=
  ⟨fun i F' H' hi s1 s2 s3 => by
    obtain ⟨d, e, h1, h2, _⟩ := zipL_at (List.getElem?_eq_getElem hi)
    obtain ⟨x, h3, _⟩ := r.get h1
    obtain ⟨y, h4, _⟩ := r2.get h2
    exact ⟨xs, ys, x, y, hs H' (s1.trans s2) s3, hs2 H' (s1.trans s2) s3, h3, h4⟩, fun i d F' H' v H3 hd s1 s2 s3 yy => by
    obtain ⟨T, x, y, rfl, hT, rfl, y1, y2⟩ := yy
    obtain ⟨dx, dy, h1, h2, rfl⟩ := zipL_at hd
    obtain ⟨x', h3, h5⟩ := r.get h1
    obtain ⟨y', h4, h6⟩ := r2.get h2
    have e1 := y1 xs (hs H' (s1.trans s2) s3)
    have e2 := y2 ys (hs2 H' (s1.trans s2) s3)
    rw [h3] at e1
    rw [h4] at e2
    cases e1
    cases e2
    exact pair_ok s2 hT (h5.mono s1) (h6.mono s1), fun i F' H' hi s1 s2 s3 => by
    rw [zipL_length] at hi
    exact ⟨xs, ys, hs H' (s1.trans s2) s3, hs2 H' (s1.trans s2) s3, by rw [r.length, r2.length]; omega⟩⟩
theorem itzT_ok {K : PySem.W.Frag} {F : Hp} {a b : Addr} {xs ys : List V} {ds es : List D} {st : Hp → Prop} (hs : ∀ H, Same F H → st H → SqT K H a xs) (hs2 : ∀ H, Same F H → st H → SqT K H b ys) (r : RepA K F xs ds) (r2 : RepA K F ys es) : ItO true K (RZ.ItzT K a b) F st (zipL ds es) :=
  ⟨fun i F' H' hi s1 s2 s3 => by
    obtain ⟨d, e, h1, h2, _⟩ := zipL_at (List.getElem?_eq_getElem hi)
    obtain ⟨x, h3, _⟩ := r.get h1
    obtain ⟨y, h4, _⟩ := r2.get h2
    exact ⟨xs, ys, x, y, hs H' (s1.trans s2) s3, hs2 H' (s1.trans s2) s3, h3, h4⟩, fun i d F' H' v H3 hd s1 s2 s3 yy => by
    obtain ⟨T, x, y, rfl, hT, rfl, y1, y2⟩ := yy
    obtain ⟨dx, dy, h1, h2, rfl⟩ := zipL_at hd
    obtain ⟨x', h3, h5⟩ := r.get h1
    obtain ⟨y', h4, h6⟩ := r2.get h2
    have e1 := y1 xs (hs H' (s1.trans s2) s3)
    have e2 := y2 ys (hs2 H' (s1.trans s2) s3)
    rw [h3] at e1
    rw [h4] at e2
    cases e1
    cases e2
    exact pair_ok s2 hT (h5.mono s1) (h6.mono s1), fun i F' H' hi s1 s2 s3 => by
    rw [zipL_length] at hi
    exact ⟨xs, ys, hs H' (s1.trans s2) s3, hs2 H' (s1.trans s2) s3, by rw [r.length, r2.length]; omega⟩⟩
def zipD : List D → Option (List D)
  | [.list ds, .list es] => some (zipL ds es)
  | [.tuple ds, .tuple es] => some (zipL ds es)
  | _ => none
theorem sem_zip {K : PySem.W.Frag} (h : SemA K .fz ta fs) : SemI true K .fz (RZ.iZipA K ta) (fIs zipD fs) := by
  intro B F H σ ρ ds R rel hf q
  obtain ⟨as, h1, h2⟩ := bind_some hf
  refine h B F H σ ρ as _ rel h1 fun vs F1 H1 x1 r1 => ?_
  match as, h2, r1 with
  | [.list ds, .list es], h2, r1 =>
    cases h2
    obtain ⟨v, w, rfl, rv, rw'⟩ := resA2 r1
    cases rv with
    | lst hs hr =>
      cases rw' with
      | lst hs2 hr2 => exact ⟨_, _, _, _, rfl, .inl ⟨x1.s.seq hs, x1.s.seq hs2, q _ F1 H1 x1 (itz_ok (fun H s _ => s.seq hs) (fun H s _ => s.seq hs2) hr hr2)⟩⟩
  | [.tuple ds, .tuple es], h2, r1 =>
    cases h2
    obtain ⟨v, w, rfl, rv, rw'⟩ := resA2 r1
    cases rv with
    | tup hs hr =>
      cases rw' with
      | tup hs2 hr2 => exact ⟨_, _, _, _, rfl, .inr ⟨(hs.mono x1.s).sq, (hs2.mono x1.s).sq, q _ F1 H1 x1 (itzT_ok (fun H s _ => (hs.mono s).sq) (fun H s _ => (hs2.mono s).sq) hr hr2)⟩⟩
theorem di_zip {a b : Expr} {elts : List Expr} {kk : Nat} {tpos : Pos} (hg : Gl X "zip") (hm : X.mg "zip" = none) (ha : DA X .fz [a, b] ta fs) (hs : starEach [a, b] X.env = (false, eval a X.env) :: starEach [b] X.env := by rfl) (hpl : (backTo pos (starEach [b] X.env)).any (·.1) = false := by rfl) :
    DI true X .fz (.Tuple elts kk tpos) (.Call (.Name "zip" p) [a, b] [] pos) (RZ.iZipA X.K ta) (fIs zipD fs) := ⟨RZ.pi_zipA hg hm ha.p hs hpl, sem_zip ha.s⟩
theorem di_zipK (K' : PySem.W.Frag) {a b : Expr} {elts : List Expr} {kk : Nat} {tpos : Pos} (hg : Gl X "zip") (hm : X.mg "zip" = none) (ha : DA X .fz [a, b] ta fs) (hs : starEach [a, b] X.env = (false, eval a X.env) :: starEach [b] X.env := by rfl) (hpl : (backTo pos (starEach [b] X.env)).any (·.1) = false := by rfl) (hK : X.K = K' := by rfl) : DI true X .fz (.Tuple elts kk tpos) (.Call (.Name "zip" p) [a, b] [] pos) (RZ.iZipA K' ta) (fIs zipD fs) := by
  subst hK
  exact di_zip (hg := hg) (hm := hm) (ha := ha) (hs := hs) (hpl := hpl)
end
/-! ### targets -/
def SemG (w : Bool) (K : PySem.W.Frag) (W : List Nat) (g : TG) (s : D → Rho → Option Rho) : Prop :=
  ∀ (B : Bs) (F H : Hp) (σ : L2.St) (ρ ρ' : Rho) (v : V) (d : D) (Q : L2.St → Hp → Prop), Rel K B F H σ ρ → RepB w K F v d → s d ρ = some ρ' → (∀ σ', Rel K B F H σ' ρ' → (∀ j, j ∉ W → σ'[j]? = σ[j]?) → σ'.length = σ.length → Q σ' H) → g v σ H Q
structure DG (w : Bool) (X : Cx) (W : List Nat) (tg : Expr) (g : TG) (s : D → Rho → Option Rho) : Prop where
  p : PG X tg g
  s : SemG w X.K W g s
def SemGs (K : PySem.W.Frag) (W : List Nat) (g : TGs) (s : List D → Rho → Option Rho) : Prop :=
  ∀ (B : Bs) (F H : Hp) (σ : L2.St) (ρ ρ' : Rho) (vs : List V) (ds : List D) (Q : L2.St → Hp → Prop), Rel K B F H σ ρ → RepA K F vs ds → s ds ρ = some ρ' → (∀ σ', Rel K B F H σ' ρ' → (∀ j, j ∉ W → σ'[j]? = σ[j]?) → σ'.length = σ.length → Q σ' H) → g vs σ H Q
structure DGs (X : Cx) (W : List Nat) (tgs : List Expr) (g : TGs) (s : List D → Rho → Option Rho) : Prop where
  p : PGs X tgs g
  s : SemGs X.K W g s
def sN (i : Nat) : D → Rho → Option Rho := fun d ρ => some (ρ.set i (.im d))
def sNil : List D → Rho → Option Rho := fun ds ρ => match ds with
  | [] => some ρ
  | _ => none
def sCons (s : D → Rho → Option Rho) (ss : List D → Rho → Option Rho) : List D → Rho → Option Rho := fun ds ρ => match ds with
  | d :: ds => (s d ρ).bind (ss ds)
  | [] => none
def sT (n : Nat) (ss : List D → Rho → Option Rho) : D → Rho → Option Rho := fun d ρ => match d with
  | .tuple ds => if ds.length = n then ss ds ρ else none
  | _ => none
section
variable {X : Cx} {pos : Pos} {W W1 W2 : List Nat}
theorem dg_n {i : Nat} {x : Str} (hN : X.N.Nodup) (hi : X.N[i]? = some x := by rfl) (hx : Loc X.env.scope x := by first | exact Or.inl rfl | exact Or.inr rfl) (hf : X.fn x = true ∨ X.env.scope.names.lookup x = some .local := by first | exact .inl rfl | exact .inr rfl) : DG false X [i] (.Name x pos) (gName i) (sN i) :=
  ⟨pg_name hN hi hx hf, fun B F H σ ρ ρ' v d Q r hv hs q => by cases hs; exact q _ (r.setIm hv.strong) set_keep (by simp)⟩
theorem dgs_nil : DGs X [] [] gNil sNil := ⟨pgs_nil, fun B F H σ ρ ρ' vs ds Q r hv hs q => by
  cases hv with
  | nil => cases hs; exact ⟨rfl, q σ r (fun _ _ => rfl) rfl⟩
  | cons h t => cases hs⟩
theorem dgs_cons {e : Expr} {es : List Expr} {t : TG} {u : TGs} {s : D → Rho → Option Rho} {ss : List D → Rho → Option Rho} (h1 : DG false X W1 e t s) (h2 : DGs X W2 es u ss)
    (hs : (assignEach (e :: es) X.env).map (·.2) = assign e X.env :: (assignEach es X.env).map (·.2) := by rfl) : DGs X (W1 ++ W2) (e :: es) (gCons t u) (sCons s ss) := ⟨pgs_cons h1.p h2.p hs, fun B F H σ ρ ρ' vs ds Q r hv hs q => by
  cases hv with
  | nil => cases hs
  | @cons v vs d ds h t' =>
    obtain ⟨ρ1, e1, e2⟩ := bind_some (show (s d ρ).bind (ss ds) = some ρ' from hs)
    refine ⟨v, vs, rfl, h1.s B F H σ ρ ρ1 v d _ r (.inl h) e1 fun σ1 r1 k1 l1 => ?_⟩
    exact h2.s B F H σ1 ρ1 ρ' vs ds Q r1 t' e2 fun σ2 r2 k2 l2 => q σ2 r2 (fun j hj => (k2 j fun z => hj (List.mem_append_right _ z)).trans (k1 j fun z => hj (List.mem_append_left _ z))) (l2.trans l1)⟩
theorem dg_t {w : Bool} {es : List Expr} {k : Nat} {t : TGs} {n : Nat} {ss : List D → Rho → Option Rho} (h : DGs X W es t ss) (hc : X.calm = true := by rfl) (hn : (assignEach es X.env).length = n := by rfl) (hst : (assignEach es X.env).findIdx? (·.1) = none := by rfl) : DG w X W (.Tuple es k pos) (gTup X.K n t) (sT n ss) :=
  ⟨pg_tup hc h.p hn hst, fun B F H σ ρ ρ' v d Q r hv hs q => by
    have key : ∀ (a : Addr) (xs : List V) (ds : List D), SqT X.K H a xs → RepA X.K F xs ds → sT n ss (.tuple ds) ρ = some ρ' → gTup X.K n t (.ref a) σ H Q := fun a xs ds sq ra hs => by
      have hs' : (if ds.length = n then ss ds ρ else none) = some ρ' := hs
      by_cases hl : ds.length = n
      · rw [if_pos hl] at hs'
        exact ⟨a, xs, rfl, sq, by rw [ra.length]; exact hl, h.s B F H σ ρ ρ' xs ds Q r ra hs' q⟩
      · rw [if_neg hl] at hs'; cases hs'
    rcases hv with hv | ⟨_, a, xs, ds, rfl, rfl, sq, ra⟩
    · cases d with
      | tuple ds =>
        cases hv with
        | tup h1 h2 => exact key _ _ _ (h1.mono r.fh).sq h2 hs
      | _ => cases hs
    · exact key a xs ds (r.fh.sqT sq) ra hs⟩
theorem dg_tK (K' : PySem.W.Frag) {w : Bool} {es : List Expr} {k : Nat} {t : TGs} {n : Nat} {ss : List D → Rho → Option Rho} (h : DGs X W es t ss) (hc : X.calm = true := by rfl) (hn : (assignEach es X.env).length = n := by rfl) (hst : (assignEach es X.env).findIdx? (·.1) = none := by rfl) (hK : X.K = K' := by rfl) : DG w X W (.Tuple es k pos) (gTup K' n t) (sT n ss) := by
  subst hK
  exact dg_t (h := h) (hc := hc) (hn := hn) (hst := hst)
end
theorem Rel.rebase {K : PySem.W.Frag} {B : Bs} {F H : Hp} {σ : L2.St} {ρ : Rho} (r : Rel K B F H σ ρ) : Rel K { F0 := F, G := B.G } F H σ ρ := ⟨r.len, .refl _, r.g, r.fh, .refl, r.sl, r.sep⟩
theorem Rel.unbase {K : PySem.W.Frag} {B : Bs} {F H F' H' : Hp} {σ σ' : L2.St} {ρ ρ' : Rho} (r : Rel K B F H σ ρ) (r' : Rel K { F0 := F, G := B.G } F' H' σ' ρ') : Rel K B F' H' σ' ρ' :=
  ⟨r'.len, r.f0.trans r'.f0, r'.g, r'.fh, fun a q => (r'.nw a q).elim (r.nw a) .inr, r'.sl, r'.sep⟩
theorem Rel.unrt {K : PySem.W.Frag} {m : Md} {B : Bs} {F H F' H' : Hp} {σ : L2.St} {ρ : Rho} {v : V} {d : D} (r : Rel K B F H σ ρ) (r' : RtOk K m { F0 := F, G := B.G } F' H' v d) : RtOk K m B F' H' v d :=
  ⟨r.f0.trans r'.1, r'.2.1, r'.2.2.1, fun a q => (r'.2.2.2.1 a q).elim (r.nw a) .inr, r'.2.2.2.2⟩
/-! ### for -/
/-- the loop over data -/
def forL (step : D → Bd) : List D → Bd
  | [], ρ => some (.nx ρ)
  | d :: ds, ρ => (step d ρ).bind fun o => match o with
    | .nx ρ' => forL step ds ρ'
    | .ct ρ' => forL step ds ρ'
    | .bk ρ' => some (.nx ρ')
    | .rt d => some (.rt d)
def turnD (s : D → Rho → Option Rho) (b : Bd) : D → Bd := fun d ρ => (s d ρ).bind b
def bFor (f : Rho → Option (List D)) (s : D → Rho → Option Rho) (b : Bd) : Bd := fun ρ => (f ρ).bind fun ds => forL (turnD s b) ds ρ
theorem sem_for {w : Bool} {K : PySem.W.Frag} {m : Md} {W1 W2 : List Nat} {wi : TI} {g : TG} {tb : TS} {f : Rho → Option (List D)} {s : D → Rho → Option Rho} {b : Bd} (hi : SemI w K .fz wi f) (hg : SemG w K W1 g s) (hb : SemS K m W2 tb b) : SemS K m (W1 ++ W2) (tFor wi g tb) (bFor f s b) := by
  intro B F H σ ρ o D r hf e
  obtain ⟨ds, h1, h2⟩ := bind_some hf
  refine hi B F H σ ρ ds _ r h1 fun J F1 H1 x1 it => ?_
  refine ⟨fun i m σ' H' => m = ds.length - i ∧ i ≤ ds.length ∧ ∃ F' ρ', Rel K B F' H' σ' ρ' ∧ Same F1 F' ∧ (∀ j, j ∉ W1 ++ W2 → σ'[j]? = σ[j]?) ∧ forL (turnD s b) (ds.drop i) ρ' = some o, ⟨ds.length, by simp, Nat.zero_le _, F1, ρ, r.ext x1, .refl _, fun _ _ => rfl, by simpa using h2⟩, ?_⟩
  rintro i mm σ1 H2 ⟨rfl, hil, F2, ρ2, r2, s2, k2, hf2⟩
  by_cases hlt : i < ds.length
  · rw [List.drop_eq_getElem_cons hlt] at hf2
    obtain ⟨o1, e1, e2⟩ := bind_some (show (turnD s b ds[i] ρ2).bind _ = some o from hf2)
    obtain ⟨ρ3, e3, e4⟩ := bind_some (show (s ds[i] ρ2).bind b = some o1 from e1)
    refine .inr ⟨it.go i F2 H2 hlt s2 r2.fh trivial, fun σ' H' => i + 1 ≤ ds.length ∧ ∃ F' ρ', Rel K B F' H' σ' ρ' ∧ Same F1 F' ∧ (∀ j, j ∉ W1 ++ W2 → σ'[j]? = σ[j]?) ∧ forL (turnD s b) (ds.drop (i + 1)) ρ' = some o, fun σ' H' hn => ⟨ds.length - (i + 1), by omega, rfl, hn⟩, fun x H3 y => ?_⟩
    obtain ⟨F3, x3, rb⟩ := it.yld i ds[i] F2 H2 x H3 (List.getElem?_eq_getElem hlt) s2 r2.fh trivial y
    refine hg B F3 H3 σ1 ρ2 ρ3 x ds[i] _ (r2.ext x3) rb e3 fun σ3 r3 k3 _ => ?_
    have k13 : ∀ j, j ∉ W1 ++ W2 → σ3[j]? = σ[j]? := fun j hj => (k3 j fun z => hj (List.mem_append_left _ z)).trans (k2 j hj)
    have s3 : Same F1 F3 := s2.trans x3.f
    have key : ∀ {σ4 : L2.St}, (∀ j, j ∉ W2 → σ4[j]? = σ3[j]?) → ∀ j, j ∉ W1 ++ W2 → σ4[j]? = σ[j]? := fun k4 j hj => (k4 j fun z => hj (List.mem_append_right _ z)).trans (k13 j hj)
    -- the body, with the frozen part remembered
    refine hb { F0 := F3, G := B.G } F3 H3 σ3 ρ3 o1 _ r3.rebase e4 ?_
    cases o1 with
    | nx ρ4 => exact fun σ4 F4 H4 r4 k4 => ⟨hlt, F4, ρ4, r3.unbase r4, s3.trans r4.f0, key k4, e2⟩
    | ct ρ4 => exact fun σ4 F4 H4 r4 k4 => ⟨hlt, F4, ρ4, r3.unbase r4, s3.trans r4.f0, key k4, e2⟩
    | bk ρ4 => cases e2; exact fun σ4 F4 H4 r4 k4 => e σ4 F4 H4 (r3.unbase r4) (key k4)
    | rt d => cases e2; exact fun v F4 H4 r4 => e v F4 H4 (r3.unrt r4)
  · have ei : i = ds.length := by omega
    subst ei
    rw [List.drop_length] at hf2
    cases hf2
    exact .inl ⟨it.stop _ F2 H2 (Nat.le_refl _) s2 r2.fh trivial, e σ1 F2 H2 r2 k2⟩
section
variable {X : Cx} {m : Md} {W W1 W2 : List Nat} {pos : Pos} {w : Bool}
theorem ds_for {tg iter : Expr} {body : List Stmt} {wi : TI} {g : TG} {tb : TS} {f : Rho → Option (List D)} {s : D → Rho → Option Rho} {b : Bd} (hi : DI w X .fz tg iter wi f) (hg : DG w X W1 tg g s) (hb : DSs X m W2 body tb b)
    (hp : PassesOwn (model X.prog X.w) X.A X.env X.xe := by exact PassesOwn.never) (hc : X.calm = true := by rfl) (hs : ∀ x, foldedSetIterable iter X.env x = pure x := by intro _; rfl) : DS X m (W1 ++ W2) (.For tg iter body [] pos) (tFor wi g tb) (bFor f s b) :=
  ⟨ps_for hp hc hi.p hg.p hb.p hs, sem_for hi.s hg.s hb.s⟩
/-! over an owned list that the body may lengthen but not rebind -/
def forG (j : Nat) (step : D → Bd) : Nat → Nat → Bd
  | 0, _, _ => none
  | n + 1, i, ρ => match ρ[j]? with
    | some (.ow (.list ds)) => match ds[i]? with
      | none => some (.nx ρ)
      | some d => (step d ρ).bind fun o => match o with
        | .nx ρ' => forG j step n (i + 1) ρ'
        | .ct ρ' => forG j step n (i + 1) ρ'
        | .bk ρ' => some (.nx ρ')
        | .rt d => some (.rt d)
    | _ => none
def bForG (N j : Nat) (s : D → Rho → Option Rho) (b : Bd) : Bd := fun ρ => forG j (turnD s b) N 0 ρ
theorem sem_forG {K : PySem.W.Frag} {N j : Nat} {g : TG} {tb : TS} {s : D → Rho → Option Rho} {b : Bd} (hg : SemG false K W1 g s) (hb : SemS K m W2 tb b) (h1 : j ∉ W1) (h2 : j ∉ W2) : SemS K m (W1 ++ W2) (tFor (iList K (tVar j)) g tb) (bForG N j s b) := by
  intro B F H σ ρ o D r hf e
  obtain ⟨a, ha⟩ : ∃ a, ∃ ds, ρ[j]? = some (.ow (.list ds)) ∧ σ[j]? = some (some (.ref a)) := by
    cases N with
    | zero => cases hf
    | succ N =>
      have hf' : (match ρ[j]? with
        | some (.ow (.list ds)) => match ds[0]? with
          | none => some (.nx ρ)
          | some d => (turnD s b d ρ).bind fun o => match o with
            | .nx ρ' => forG j (turnD s b) N (0 + 1) ρ'
            | .ct ρ' => forG j (turnD s b) N (0 + 1) ρ'
            | .bk ρ' => some (.nx ρ')
            | .rt d => some (.rt d)
        | _ => none) = some o := hf
      split at hf'
      · rename_i ds e1
        obtain ⟨oo, e2, c, rfl, _⟩ := r.at e1
        exact ⟨c, ds, e1, e2⟩
      · cases hf'
  obtain ⟨ds0, e0, eσ⟩ := ha
  have lst : ∀ {B' : Bs} {F' H' : Hp} {σ' : L2.St} {ρ' : Rho} {ds : List PyData}, Rel K B' F' H' σ' ρ' → σ'[j]? = some (some (.ref a)) → ρ'[j]? = some (.ow (.list ds)) → ∃ vs, H' a = some (.lst vs) ∧ RepA K F' vs ds := fun r' eσ' e' => by
    obtain ⟨oo, e2, c, rfl, _, _, w⟩ := r'.at e'
    rw [eσ'] at e2
    cases e2
    exact w
  refine ⟨_, eσ, a, rfl, ?_, ?_⟩
  · obtain ⟨vs, h, _⟩ := lst r eσ e0
    exact ⟨vs, .of h⟩
  refine ⟨fun i mm σ' H' => ∃ F' ρ', Rel K B F' H' σ' ρ' ∧ (∀ l, l ∉ W1 ++ W2 → σ'[l]? = σ[l]?) ∧ forG j (turnD s b) mm i ρ' = some o, ⟨N, F, ρ, r, fun _ _ => rfl, hf⟩, ?_⟩
  rintro i mm σ1 H2 ⟨F2, ρ2, r2, k2, hf2⟩
  have jW : j ∉ W1 ++ W2 := fun z => (List.mem_append.mp z).elim h1 h2
  have eσ1 : σ1[j]? = some (some (.ref a)) := (k2 j jW).trans eσ
  cases mm with
  | zero => cases hf2
  | succ mm =>
    have hf' : (match ρ2[j]? with
      | some (.ow (.list ds)) => match ds[i]? with
        | none => some (.nx ρ2)
        | some d => (turnD s b d ρ2).bind fun o => match o with
          | .nx ρ' => forG j (turnD s b) mm (i + 1) ρ'
          | .ct ρ' => forG j (turnD s b) mm (i + 1) ρ'
          | .bk ρ' => some (.nx ρ')
          | .rt d => some (.rt d)
      | _ => none) = some o := hf2
    split at hf'
    · rename_i ds e1
      obtain ⟨vs, hv, rv⟩ := lst r2 eσ1 e1
      cases e3 : ds[i]? with
      | none =>
        rw [e3] at hf'
        cases hf'
        refine .inl ⟨⟨vs, .of hv, ?_⟩, e σ1 F2 H2 r2 k2⟩
        rw [rv.length]
        exact List.getElem?_eq_none_iff.mp e3
      | some d =>
        rw [e3] at hf'
        obtain ⟨o1, e4, e5⟩ := bind_some hf'
        obtain ⟨ρ3, e6, e7⟩ := bind_some (show (s d ρ2).bind b = some o1 from e4)
        obtain ⟨x, hx, rx⟩ := rv.get e3
        refine .inr ⟨⟨vs, x, .of hv, hx⟩, fun σ' H' => ∃ F' ρ', Rel K B F' H' σ' ρ' ∧ (∀ l, l ∉ W1 ++ W2 → σ'[l]? = σ[l]?) ∧ forG j (turnD s b) mm (i + 1) ρ' = some o, fun σ' H' hn => ⟨mm, Nat.lt_succ_self mm, hn⟩, fun y H3 yy => ?_⟩
        obtain ⟨rfl, yy⟩ := yy
        have ey := yy vs (.of hv)
        rw [hx] at ey
        cases ey
        refine hg B F2 _ σ1 ρ2 ρ3 x d _ r2 (.inl rx) e6 fun σ3 r3 k3 _ => ?_
        have k13 : ∀ l, l ∉ W1 ++ W2 → σ3[l]? = σ[l]? := fun l hl => (k3 l fun z => hl (List.mem_append_left _ z)).trans (k2 l hl)
        have key : ∀ {σ4 : L2.St}, (∀ l, l ∉ W2 → σ4[l]? = σ3[l]?) → ∀ l, l ∉ W1 ++ W2 → σ4[l]? = σ[l]? := fun k4 l hl => (k4 l fun z => hl (List.mem_append_right _ z)).trans (k13 l hl)
        refine hb B F2 _ σ3 ρ3 o1 _ r3 e7 ?_
        cases o1 with
        | nx ρ4 => exact fun σ4 F4 H4 r4 k4 => ⟨F4, ρ4, r4, key k4, e5⟩
        | ct ρ4 => exact fun σ4 F4 H4 r4 k4 => ⟨F4, ρ4, r4, key k4, e5⟩
        | bk ρ4 => cases e5; exact fun σ4 F4 H4 r4 k4 => e σ4 F4 H4 r4 (key k4)
        | rt d => cases e5; exact fun v F4 H4 r4 => e v F4 H4 r4
    · cases hf'
theorem ds_forG {N j : Nat} {x : Str} {tg : Expr} {p : Pos} {body : List Stmt} {g : TG} {tb : TS} {s : D → Rho → Option Rho} {b : Bd} (hg : DG false X W1 tg g s) (hb : DSs X m W2 body tb b) (h1 : j ∉ W1) (h2 : j ∉ W2)
    (hj : X.N[j]? = some x := by rfl) (hv : Vis X.env.scope x := by first | exact Or.inl rfl | exact Or.inr (Or.inl rfl) | exact Or.inr (Or.inr rfl)) (hd : (x == ("__debug__" : Str)) = false := by decide) (hcd : (x == ("__classdict__" : Str)) = false := by decide)
    (hp : PassesOwn (model X.prog X.w) X.A X.env X.xe := by exact PassesOwn.never) (hc : X.calm = true := by rfl) (hs : ∀ x', foldedSetIterable (.Name x p) X.env x' = pure x' := by intro _; rfl) : DS X m (W1 ++ W2) (.For tg (.Name x p) body [] pos) (tFor (iList X.K (tVar j)) g tb) (bForG N j s b) :=
  ⟨ps_for hp hc (pi_list (pe_var hj hv hd hcd)) hg.p hb.p hs, sem_forG hg.s hb.s h1 h2⟩
/-! ### while -/
def whileL (c : Rho → Option Bool) (b : Bd) : Nat → Bd
  | 0, _ => none
  | n + 1, ρ => (c ρ).bind fun k => if k = true then (b ρ).bind fun o => match o with
      | .nx ρ' => whileL c b n ρ'
      | .ct ρ' => whileL c b n ρ'
      | .bk ρ' => some (.nx ρ')
      | .rt d => some (.rt d)
    else some (.nx ρ)
theorem sem_while {K : PySem.W.Frag} {N : Nat} {c : TT} {tb : TS} {fc : Rho → Option Bool} {b : Bd} (hc : SemT K c fc) (hb : SemS K m W tb b) : SemS K m W (tWhile c tb) (whileL fc b N) := by
  intro B F H σ ρ o D r hf e
  refine ⟨fun mm σ' H' => ∃ F' ρ', Rel K B F' H' σ' ρ' ∧ (∀ l, l ∉ W → σ'[l]? = σ[l]?) ∧ whileL fc b mm ρ' = some o, ⟨N, F, ρ, r, fun _ _ => rfl, hf⟩, ?_⟩
  rintro mm σ1 H2 ⟨F2, ρ2, r2, k2, hf2⟩
  cases mm with
  | zero => cases hf2
  | succ mm =>
    obtain ⟨k, e1, e2⟩ := bind_some hf2
    refine hc B F2 H2 σ1 ρ2 k _ r2 e1 fun F3 H3 x3 => ?_
    cases k with
    | false =>
      cases e2
      exact e σ1 F3 H3 (r2.ext x3) k2
    | true =>
      obtain ⟨o1, e3, e4⟩ := bind_some e2
      refine ⟨fun σ' H' => ∃ F' ρ', Rel K B F' H' σ' ρ' ∧ (∀ l, l ∉ W → σ'[l]? = σ[l]?) ∧ whileL fc b mm ρ' = some o, fun σ' H' hn => ⟨mm, Nat.lt_succ_self mm, hn⟩, ?_⟩
      have key : ∀ {σ4 : L2.St}, (∀ l, l ∉ W → σ4[l]? = σ1[l]?) → ∀ l, l ∉ W → σ4[l]? = σ[l]? := fun k4 l hl => (k4 l hl).trans (k2 l hl)
      refine hb B F3 H3 σ1 ρ2 o1 _ (r2.ext x3) e3 ?_
      cases o1 with
      | nx ρ4 => exact fun σ4 F4 H4 r4 k4 => ⟨F4, ρ4, r4, key k4, e4⟩
      | ct ρ4 => exact fun σ4 F4 H4 r4 k4 => ⟨F4, ρ4, r4, key k4, e4⟩
      | bk ρ4 => cases e4; exact fun σ4 F4 H4 r4 k4 => e σ4 F4 H4 r4 (key k4)
      | rt d => cases e4; exact fun v F4 H4 r4 => e v F4 H4 r4
theorem ds_while {N : Nat} {c : Expr} {body : List Stmt} {tc : TT} {tb : TS} {fc : Rho → Option Bool} {b : Bd} (hc : DT X c tc fc) (hb : DSs X m W body tb b) (hp : PassesOwn (model X.prog X.w) X.A X.env X.xe := by exact PassesOwn.never) : DS X m W (.While c body [] pos) (tWhile tc tb) (whileL fc b N) :=
  ⟨ps_while hp hc.p hb.p, sem_while hc.s hb.s⟩
end
end Q
end

/-! part: Q7 -/
section
set_option Elab.async false
set_option linter.all false
set_option maxRecDepth 100000
set_option maxHeartbeats 4000000
set_option autoImplicit false
namespace Q
open PySem PySem.Spec PySem.Calls PyProof.Rows L2
/-! ### comprehensions -/
theorem wipe_at (σ : L2.St) (j : Nat) : ∀ vs : List Nat, (wipe σ vs)[j]? = if j ∈ vs then (if j < σ.length then some none else none) else σ[j]?
  | [] => by simp [wipe]
  | v :: vs => by
    unfold wipe
    by_cases e : j = v
    · subst e
      by_cases hl : j < σ.length
      · rw [List.getElem?_set_self (by rw [wipe_length]; exact hl)]
        simp [hl]
      · rw [List.getElem?_eq_none (by simp only [List.length_set, wipe_length]; omega)]
        simp [hl]
    · rw [List.getElem?_set_ne (Ne.symm e), wipe_at σ j vs]
      simp [e]
theorem wipe_back {σ σ2 : L2.St} {vs : List Nat} (hl : σ2.length = σ.length) (h : ∀ j, j ∉ vs → σ2[j]? = (wipe σ vs)[j]?) : wipe σ2 vs = wipe σ vs := by
  apply List.ext_getElem?
  intro j
  rw [wipe_at σ2, wipe_at σ, hl]
  by_cases hj : j ∈ vs
  · simp [hj]
  · simp only [hj, if_false]
    rw [h j hj, wipe_at σ]
    simp [hj]
def wipeR (ρ : Rho) : List Nat → Rho
  | [] => ρ
  | v :: vs => (wipeR ρ vs).set v .un
theorem Rel.setUn {K : PySem.W.Frag} {B : Bs} {F H : Hp} {σ : L2.St} {ρ : Rho} (r : Rel K B F H σ ρ) {i : Nat} {o : Option V} : Rel K B F H (σ.set i o) (ρ.set i .un) := by
  refine ⟨by simpa using r.len, r.f0, r.g, r.fh, r.nw, fun j o s h1 h2 => ?_, fun j k d1 d2 a hjk h1 h2 h3 h4 => ?_⟩
  · rcases set_at h2 with ⟨rfl, _, rfl⟩ | ⟨n2, h2⟩
    · trivial
    · rcases set_at h1 with ⟨e, _, _⟩ | ⟨_, h1⟩
      · exact absurd e n2
      · exact r.sl j o s h1 h2
  · rcases set_at h1 with ⟨_, _, e⟩ | ⟨n1, h1⟩
    · cases e
    rcases set_at h2 with ⟨_, _, e⟩ | ⟨n2, h2⟩
    · cases e
    rw [List.getElem?_set_ne (Ne.symm n1)] at h3
    rw [List.getElem?_set_ne (Ne.symm n2)] at h4
    exact r.sep j k d1 d2 a hjk h1 h2 h3 h4
theorem Rel.wiped {K : PySem.W.Frag} {B : Bs} {F H : Hp} {σ : L2.St} {ρ : Rho} (r : Rel K B F H σ ρ) : ∀ vs : List Nat, Rel K B F H (wipe σ vs) (wipeR ρ vs)
  | [] => r
  | v :: vs => (Rel.wiped r vs).setUn
/-- another object changes -/
theorem Rel.other {K : PySem.W.Frag} {B : Bs} {F H : Hp} {σ : L2.St} {ρ : Rho} (r : Rel K B F H σ ρ) {a : Addr} {o : HO} (hf : F a = none) (hg : B.G a = none) (hn : ∀ (j : Nat) (e : D), ρ[j]? = some (.ow e) → σ[j]? ≠ some (some (.ref a))) : Rel K B F (upd H a o) σ ρ := by
  refine ⟨r.len, r.f0, fun b u q => ?_, fun b u q => ?_, r.nw, fun j oo s h1 h2 => ?_, r.sep⟩
  · rw [upd_ne (ne_of_none q hg)]; exact r.g b u q
  · rw [upd_ne (ne_of_none q hf)]; exact r.fh b u q
  · have q := r.sl j oo s h1 h2
    cases s with
    | un => trivial
    | im d => exact q
    | ow d =>
      obtain ⟨c, rfl, f, g, w⟩ := q
      have hca : c ≠ a := fun z => by subst z; exact hn j d h2 h1
      refine ⟨c, rfl, f, g, ?_⟩
      cases d with
      | list ds =>
        obtain ⟨vs, w1, w2⟩ := w
        exact ⟨vs, by rw [upd_ne hca]; exact w1, w2⟩
      | _ => exact w.elim
def lcL (tt : D → Option Bool) (te : D → Option D) : List D → Option (List D)
  | [] => some []
  | d :: ds => (tt d).bind fun b => if b = true then (te d).bind fun y => (lcL tt te ds).map (y :: ·) else lcL tt te ds
def fLc (f : Rho → Option (List D)) (s : D → Rho → Option Rho) (ft : Rho → Option Bool) (fe : Rho → Option D) (vs : List Nat) : Rho → Option D := fun ρ => (f ρ).bind fun ds =>
  (lcL (fun d => (s d (wipeR ρ vs)).bind ft) (fun d => (s d (wipeR ρ vs)).bind fe) ds).bind fun rs => if rs.length ≤ sizeLine then some (.list rs) else none
theorem sem_lc {w : Bool} {K : PySem.W.Frag} {W1 vs : List Nat} {wi : TI} {g : TG} {tt : TT} {te : TE} {f : Rho → Option (List D)} {s : D → Rho → Option Rho} {ft : Rho → Option Bool} {fe : Rho → Option D} (hi : SemI w K .pk wi f) (hg : SemG w K W1 g s) (ht : SemT K tt ft) (he : SemE K .fz te fe) (hW : ∀ j ∈ W1, j ∈ vs) :
    SemE K .fr (tLc wi g tt te vs) (fLc f s ft fe vs) := by
  intro B F H σ ρ z Q rel hf q
  obtain ⟨ds, h1, h2⟩ := bind_some hf
  obtain ⟨rs, h3, h4⟩ := bind_some h2
  obtain ⟨h5, rfl⟩ := if_some h4
  refine hi B F H σ ρ ds _ rel h1 fun J F1 H1 x1 it => ?_
  intro L hL
  have r1 := (rel.ext x1).wiped vs
  have gL : B.G L = none := (rel.ext x1).g.free hL
  have nL : ∀ (j : Nat) (e : D), (wipeR ρ vs)[j]? = some (.ow e) → (wipe σ vs)[j]? ≠ some (some (.ref L)) := own_ne r1 hL
  refine ⟨fun i m H' => m = ds.length - i ∧ i ≤ ds.length ∧ ∃ F' acc rr r2, Rel K B F' H' (wipe σ vs) (wipeR ρ vs) ∧ Same F1 F' ∧ Same H1 H' ∧ New F1 F' H1 ∧ F' L = none ∧ H' L = some (.lst acc) ∧ RepA K F' acc rr ∧
    lcL (fun d => (s d (wipeR ρ vs)).bind ft) (fun d => (s d (wipeR ρ vs)).bind fe) (ds.drop i) = some r2 ∧ rs = rr ++ r2,
    ⟨ds.length, by simp, Nat.zero_le _, F1, [], [], rs, r1.other (x1.s.free hL) gL nL, .refl _, same_upd hL, .refl, x1.s.free hL, upd_same, .nil, by simpa using h3, rfl⟩, ?_⟩
  rintro i m H2 ⟨rfl, hil, F2, acc, rr, r2, rel2, f2, s2, n2, fL, hH, ra, hl, hrs⟩
  by_cases hlt : i < ds.length
  · rw [List.drop_eq_getElem_cons hlt] at hl
    obtain ⟨b, e1, e2⟩ := bind_some (show ((s ds[i] (wipeR ρ vs)).bind ft).bind _ = some r2 from hl)
    obtain ⟨ρ3, e3, e4⟩ := bind_some e1
    refine .inr ⟨it.go i F2 H2 hlt f2 rel2.fh s2, fun H' => i + 1 ≤ ds.length ∧ ∃ F' acc rr r2, Rel K B F' H' (wipe σ vs) (wipeR ρ vs) ∧ Same F1 F' ∧ Same H1 H' ∧ New F1 F' H1 ∧ F' L = none ∧ H' L = some (.lst acc) ∧ RepA K F' acc rr ∧
      lcL (fun d => (s d (wipeR ρ vs)).bind ft) (fun d => (s d (wipeR ρ vs)).bind fe) (ds.drop (i + 1)) = some r2 ∧ rs = rr ++ r2, fun H' hn => ⟨ds.length - (i + 1), by omega, rfl, hn⟩, fun x H3 y => ?_⟩
    obtain ⟨F3, x3, rb⟩ := it.yld i ds[i] F2 H2 x H3 (List.getElem?_eq_getElem hlt) f2 rel2.fh s2 y
    refine hg B F3 H3 (wipe σ vs) (wipeR ρ vs) ρ3 x ds[i] _ (rel2.ext x3) rb e3 fun σ3 r3 k3 l3 => ?_
    refine ⟨wipe_back (l3.trans (wipe_length σ vs)) fun j hj => k3 j fun z => hj (hW j z), ?_⟩
    refine ht B F3 H3 σ3 ρ3 b _ r3 e4 fun F4 H4 x4 => ?_
    have x34 := x3.trans x4
    -- the state behind the turn
    have back : ∀ {F5 H5 : Hp}, Ext F2 H2 F5 H5 → Rel K B F5 H5 (wipe σ vs) (wipeR ρ vs) ∧ Same F1 F5 ∧ Same H1 H5 ∧ New F1 F5 H1 ∧ F5 L = none ∧ H5 L = some (.lst acc) := fun {F5 H5} x => by
      refine ⟨rel2.ext x, f2.trans x.f, s2.trans x.h, fun a h => ?_, x.keepNone fL (by rw [hH]; exact fun z => nomatch z), x.h _ _ hH⟩
      exact (x.n a h).elim (n2 a) fun z => .inr (s2.free z)
    cases b with
    | false =>
      obtain ⟨a1, a2, a3, a4, a5, a6⟩ := back x34
      exact ⟨hlt, F4, acc, rr, r2, a1, a2, a3, a4, a5, a6, ra.mono x34.f, e2, hrs⟩
    | true =>
      obtain ⟨y0, e5, e6⟩ := bind_some (show ((s ds[i] (wipeR ρ vs)).bind fe).bind _ = some r2 from e2)
      obtain ⟨ρ4, e7, e8⟩ := bind_some e5
      rw [e3] at e7
      cases e7
      obtain ⟨r5, e9, rfl⟩ := Option.map_eq_some_iff.mp e6
      show te σ3 H4 _
      refine he B F4 H4 σ3 ρ3 y0 _ (r3.ext x4) e8 fun v F5 H5 x5 rv => ?_
      have x35 := x34.trans x5
      obtain ⟨a1, a2, a3, a4, a5, a6⟩ := back x35
      have hlen : acc.length < sizeLine := by
        have h6 : rs.length = rr.length + (r5.length + 1) := by rw [hrs]; simp
        have h7 := ra.length
        omega
      refine ⟨acc, a6, hlen, hlt, F5, acc ++ [v], rr ++ [y0], r5, a1.other a5 gL nL, a2, fun c u hc => ?_, a4, a5, upd_same, (ra.mono x35.f).append (.cons rv .nil), e9, by rw [hrs]; simp⟩
      rw [upd_ne (ne_of_none hc hL)]
      exact a3 _ _ hc
  · have ei : i = ds.length := by omega
    subst ei
    rw [List.drop_length] at hl
    cases hl
    rw [List.append_nil] at hrs
    subst hrs
    refine .inl ⟨it.stop _ F2 H2 (Nat.le_refl _) f2 rel2.fh s2, q _ F2 H2 ⟨x1.f.trans f2, x1.h.trans s2, fun a h => ?_, rel2.fh⟩ ⟨L, rfl, x1.h.free hL, fL, acc, hH, ra⟩⟩
    exact (n2 a h).elim (x1.n a) fun z => .inr (x1.h.free z)
section
variable {X : Cx} {m : Md} {W1 : List Nat} {pos : Pos} {w : Bool}
structure DTs (X : Cx) (ifs : List Expr) (t : TT) (f : Rho → Option Bool) : Prop where
  p : PTs X ifs t
  s : SemT X.K t f
def fYes : Rho → Option Bool := fun _ => some true
theorem dts_nil : DTs X [] tYes fYes := ⟨pts_nil, fun B F H σ ρ b Q r hf q => by cases hf; exact q F H (.refl r.fh)⟩
theorem dts_one {c : Expr} {t : TT} {f : Rho → Option Bool} (h : DT X c t f) : DTs X [c] t f := ⟨pts_one h.p, h.s⟩
variable {elt tg iter : Expr} {ifs : List Expr} {scope : Scope} {own : List (Str × Nat)} {wi : TI} {g : TG} {tt : TT} {te : TE} {f : Rho → Option (List D)} {s : D → Rho → Option Rho} {ft : Rho → Option Bool} {fe : Rho → Option D}
theorem de_lc {vs : List Nat} (own : List (Str × Nat)) (hN : X.N.Nodup) (hi : DI w X m tg iter wi f) (ok : blkC X.N X.env.scope scope own = true)
    (hg : ∀ (s' : Shared) (H : Hp) (C : Addr) (cl : List (Str × Addr)) (fp : List Addr), DG w (X.blk s' H scope (compEnvC scope cl C X.env) fp) W1 tg g s) (ht : ∀ (s : Shared) (H : Hp) (C : Addr) (cl : List (Str × Addr)) (fp : List Addr), DTs (X.blk s H scope (compEnvC scope cl C X.env) fp) ifs tt ft)
    (he : ∀ (s : Shared) (H : Hp) (C : Addr) (cl : List (Str × Addr)) (fp : List Addr), DE (X.blk s H scope (compEnvC scope cl C X.env) fp) .fz elt te fe) (hW : ∀ j ∈ W1, j ∈ vs) (hc : X.calm = true := by rfl) (hs : ∀ x, foldedSetIterable iter X.env x = pure x := by intro _; rfl) (hvs : own.map (·.2) = vs := by rfl) :
    DE X .fr (.ListComp elt [⟨tg, iter, ifs, 0⟩] scope pos) (tLc wi g tt te (vs)) (fLc f s ft fe (vs)) := by
  subst hvs
  exact
  ⟨pe_lc hc hN hi.p (blkOk_by ok) (fun s H C cl fp => (hg s H C cl fp).p) (fun s H C cl fp => (ht s H C cl fp).p) (fun s H C cl fp => (he s H C cl fp).p) hs,
    sem_lc hi.pk.s (hg X.s_0 (fun _ => none) 0 [] []).s (ht X.s_0 (fun _ => none) 0 [] []).s (he X.s_0 (fun _ => none) 0 [] []).s hW⟩
/-- name = [..], the name a local on the same line -/
theorem ds_asgLc {m1 : Md} {vs : List Nat} {i : Nat} {y : Str} {py spos : Pos} (own : List (Str × Nat)) (hN : X.N.Nodup) (hi : DI w X m tg iter wi f) (ok : blkC X.N X.env.scope scope own = true)
    (hg : ∀ (s' : Shared) (H : Hp) (C : Addr) (cl : List (Str × Addr)) (fp : List Addr), DG w (X.blk s' H scope (compEnvC scope cl C X.env) fp) W1 tg g s) (ht : ∀ (s : Shared) (H : Hp) (C : Addr) (cl : List (Str × Addr)) (fp : List Addr), DTs (X.blk s H scope (compEnvC scope cl C X.env) fp) ifs tt ft)
    (he : ∀ (s : Shared) (H : Hp) (C : Addr) (cl : List (Str × Addr)) (fp : List Addr), DE (X.blk s H scope (compEnvC scope cl C X.env) fp) .fz elt te fe) (hW : ∀ j ∈ W1, j ∈ vs) (hsw : swapsWith (.ListComp elt [⟨tg, iter, ifs, 0⟩] scope pos) (some (.Name y py)) spos.line X.env = pure true)
    (hy : X.N[i]? = some y := by rfl) (hyl : X.env.scope.names.lookup y = some .local := by rfl) (hc : X.calm = true := by rfl) (hs : ∀ x, foldedSetIterable iter X.env x = pure x := by intro _; rfl) (hvs : own.map (·.2) = vs := by rfl) :
    DS X m1 [i] (.Assign [.Name y py] (.ListComp elt [⟨tg, iter, ifs, 0⟩] scope pos) spos) (tAsg (tLc wi g tt te (vs)) (gName i)) (bAsg i (fLc f s ft fe (vs))) := by
  subst hvs
  have d := de_lc (pos := pos) own hN hi ok hg ht he hW hc hs
  exact ⟨ps_setLc hc hN hy hyl hsw hi.p (blkOk_by ok) (fun s H C cl fp => (hg s H C cl fp).p) (fun s H C cl fp => (ht s H C cl fp).p) (fun s H C cl fp => (he s H C cl fp).p) hs, sem_asg d.frz.s⟩
theorem ds_ownLc {m1 : Md} {vs : List Nat} {i : Nat} {y : Str} {py spos : Pos} (own : List (Str × Nat)) (hN : X.N.Nodup) (hi : DI w X m tg iter wi f) (ok : blkC X.N X.env.scope scope own = true)
    (hg : ∀ (s' : Shared) (H : Hp) (C : Addr) (cl : List (Str × Addr)) (fp : List Addr), DG w (X.blk s' H scope (compEnvC scope cl C X.env) fp) W1 tg g s) (ht : ∀ (s : Shared) (H : Hp) (C : Addr) (cl : List (Str × Addr)) (fp : List Addr), DTs (X.blk s H scope (compEnvC scope cl C X.env) fp) ifs tt ft)
    (he : ∀ (s : Shared) (H : Hp) (C : Addr) (cl : List (Str × Addr)) (fp : List Addr), DE (X.blk s H scope (compEnvC scope cl C X.env) fp) .fz elt te fe) (hW : ∀ j ∈ W1, j ∈ vs) (hsw : swapsWith (.ListComp elt [⟨tg, iter, ifs, 0⟩] scope pos) (some (.Name y py)) spos.line X.env = pure true)
    (hy : X.N[i]? = some y := by rfl) (hyl : X.env.scope.names.lookup y = some .local := by rfl) (hc : X.calm = true := by rfl) (hs : ∀ x, foldedSetIterable iter X.env x = pure x := by intro _; rfl) (hvs : own.map (·.2) = vs := by rfl) :
    DS X m1 [i] (.Assign [.Name y py] (.ListComp elt [⟨tg, iter, ifs, 0⟩] scope pos) spos) (tAsg (tLc wi g tt te (vs)) (gName i)) (bOwn i (fLc f s ft fe (vs))) := by
  subst hvs
  have d := de_lc (pos := pos) own hN hi ok hg ht he hW hc hs
  exact ⟨ps_setLc hc hN hy hyl hsw hi.p (blkOk_by ok) (fun s H C cl fp => (hg s H C cl fp).p) (fun s H C cl fp => (ht s H C cl fp).p) (fun s H C cl fp => (he s H C cl fp).p) hs, sem_own d.s⟩
end
end Q
end

/-! part: Q8 -/
section
set_option Elab.async false
set_option linter.all false
set_option maxRecDepth 100000
set_option maxHeartbeats 4000000
set_option autoImplicit false
namespace Q
open PySem PySem.Spec PySem.Calls PyProof.Rows L2
/-! ### defs of the text -/
def spM (K : PySem.W.Frag) (m : Md) (Φ : List D → Option D) : Sp := fun vs H Q _ => ∃ F ds r, Same F H ∧ RepA K F vs ds ∧ Φ ds = some r ∧ ∀ v F' H', Ext F H F' H' → Res K m H F' H' v r → Q v H'
def runB (n : Nat) (b : Bd) : List D → Option D := fun ds => (b (ds.map .im ++ List.replicate (n - ds.length) .un)).bind fun o => match o with
  | .rt d => some d
  | .nx _ => some .none
  | _ => none
section
variable {P : Program} {w : World} {K : PySem.W.Frag} {mg : Str → Option Value} {base : Heap}
theorem start_rel {N : List Str} {F H : Hp} : ∀ {vs : List V} {ds : List D}, RepA K F vs ds → ds.length ≤ N.length → Same F H → Rel K { F0 := F, G := H } F H (L2.start N vs) (ds.map Sl.im ++ List.replicate (N.length - ds.length) .un) := fun {vs ds} ra hl fh => by
  have el := ra.length
  refine ⟨?_, .refl _, .refl _, fh, .refl, fun i o s h1 h2 => ?_, fun i j d e a hij h1 h2 h3 h4 => ?_⟩
  · unfold L2.start; simp [el]
  · unfold L2.start at h1
    by_cases hi : i < ds.length
    · rw [List.getElem?_append_left (by simpa using hi)] at h2
      rw [List.getElem?_append_left (by simpa [el] using hi)] at h1
      rw [List.getElem?_map] at h1 h2
      obtain ⟨d, e1, rfl⟩ := Option.map_eq_some_iff.mp h2
      obtain ⟨v, e2, e3⟩ := ra.get e1
      rw [e2] at h1
      cases h1
      exact ⟨v, rfl, e3⟩
    · rw [List.getElem?_append_right (by simpa using hi)] at h2
      rw [List.getElem?_replicate] at h2
      split at h2
      · cases h2; trivial
      · cases h2
  · by_cases hi : i < ds.length
    · rw [List.getElem?_append_left (by simpa using hi), List.getElem?_map] at h1
      obtain ⟨d, _, e1⟩ := Option.map_eq_some_iff.mp h1
      cases e1
    · rw [List.getElem?_append_right (by simpa using hi), List.getElem?_replicate] at h1
      split at h1 <;> cases h1
/-- A DEF KEEPS WHAT ITS BODY'S DENOTATION SAYS -/
theorem fn_den {x qual : Str} {params : Arguments} {body : List Stmt} {scope : Scope} {dvs : List V} {kws : List (Str × V)} {f : Addr} {fd : FuncData} {N ps : List Str} {k : Nat} {m : Md} {b : Bd}
    (Fd : FunD K x qual params body scope dvs kws f fd) (S : FnScope N ps scope) (Φ : List D → Option D) (hΦ : ∀ ds r, Φ ds = some r → ds.length = ps.length ∧ runB N.length b ds = some r) (hm : m = .fz ∨ ∀ ds ρ', b ds ≠ some (.nx ρ'))
    (hb : ∀ (cdv : Value) (A : Around) (outer : List Env) (s : Shared) (H : Hp) (E : XK), Room k (A.deeper (envOfC qual scope s.heap.objs.size f cdv)) →
      ∃ W t, DSs (cxOf CX0 P w K mg base N qual scope f cdv A outer s H E).nox m W body t b) : FnOk P w K mg base CX0 (k + 1) f fd ps (spM K m Φ) := by
  have lenOf : ∀ vs H Q E, spM K m Φ vs H Q E → vs.length = ps.length := fun vs H Q E h => by
    obtain ⟨F, ds, r, _, ra, hr, _⟩ := h
    rw [ra.length]
    exact (hΦ ds r hr).1
  refine Fd.ok S lenOf fun cdv A outer s H vs Q E hr h => ?_
  obtain ⟨W, t, D⟩ := hb cdv A outer s H E hr
  refine ⟨t, D.p.nox, ?_⟩
  obtain ⟨F, ds, r, fh, ra, hP, q⟩ := h
  obtain ⟨hl, hrun⟩ := hΦ ds r hP
  obtain ⟨o, e1, e2⟩ := bind_some hrun
  have hlen : ps.length ≤ N.length := by
    have e := congrArg List.length S.pre
    rw [List.length_take] at e
    omega
  refine D.s { F0 := F, G := H } F H _ _ o _ (start_rel ra (by rw [hl]; exact hlen) fh) e1 ?_
  cases o with
  | rt d =>
    cases e2
    intro v F' H' ro
    obtain ⟨a1, a2, a3, a4, a5⟩ := ro
    exact q v F' H' ⟨a1, a2, a4, a3⟩ a5
  | nx ρ' =>
    cases e2
    rcases hm with rfl | hm
    · intro σ' F' H' r' _
      exact q .non F' H' ⟨r'.f0, r'.g, r'.nw, r'.fh⟩ Rep.non
    · exact absurd e1 (hm _ _)
  | bk ρ' => cases e2
  | ct ρ' => cases e2
end
section
variable {X : Cx} {m : Md} {k : Nat} {f : Addr} {fd : FuncData} {ps : List Str} {Φ : List D → Option D} {x : Str} {p pos : Pos} {e : Expr} {es : List Expr} {t : TA} {fs : Rho → Option (List D)}
theorem sem_call {K : PySem.W.Frag} (h : SemA K .fz t fs) : SemE K m (tCall (spM K m Φ) [] E0 t) (fB Φ fs) := by
  intro B F H σ ρ z Q rel hf q
  obtain ⟨ds, h1, h2⟩ := bind_some hf
  refine h B F H σ ρ ds _ rel h1 fun vs F1 H1 x1 r1 => ?_
  rw [List.append_nil]
  exact ⟨F1, ds, z, x1.s, r1.rep, h2, fun v F' H' x2 r2 => q v F' H' (x1.trans x2) (r2.back (F1 := F1) x1.h)⟩
/-- f(e, ..), f a def of the text -/
theorem de_call (F : FnOk X.prog X.w X.K X.mg X.base CX0 k f fd ps (spM X.K m Φ)) (hr : Room k X.A) (hg : Gl X x) (hm : X.mg x = some (.ref f)) (hk : PySem.W.keepIn X.K (.ref f) = true) (hb : Binds X.K fd ps []) (ha : DA X .fz (e :: es) t fs)
    (hdb : (x == ("__debug__" : Str)) = false := by decide) (he : starEach (e :: es) X.env = (false, eval e X.env) :: starEach es X.env := by rfl) (hpl : (backTo pos (starEach es X.env)).any (·.1) = false := by rfl) :
    DE X m (.Call (.Name x p) (e :: es) [] pos) (tCall (spM X.K m Φ) [] E0 t) (fB Φ fs) := ⟨pe_call F hr hg hm hk hb .nil pass0 ha.p hdb he hpl, sem_call ha.s⟩
theorem de_call0 (F : FnOk X.prog X.w X.K X.mg X.base CX0 k f fd ps (spM X.K m Φ)) (hr : Room k X.A) (hg : Gl X x) (hm : X.mg x = some (.ref f)) (hk : PySem.W.keepIn X.K (.ref f) = true) (hb : Binds X.K fd ps [])
    (hdb : (x == ("__debug__" : Str)) = false := by decide) : DE X m (.Call (.Name x p) [] [] pos) (tCall (spM X.K m Φ) [] E0 tNil) (fB Φ aNil) := ⟨pe_call0 F hr hg hm hk hb .nil pass0 hdb, sem_call (fs := aNil) fun B F H σ ρ ds Q rel hf q => by cases hf; exact q [] F H (.refl rel.fh) .nil⟩
end
/-! a result without lists: arguments that are owned stay so -/
mutual
def nm : D → Bool
  | .none => true
  | .bool _ => true
  | .int _ => true
  | .str _ => true
  | .tuple ds => nmA ds
  | .list _ => false
  | .dict _ => false
def nmA : List D → Bool
  | [] => true
  | d :: ds => nm d && nmA ds
end
/-- of a new list: its items -/
def okR (m : Md) (d : D) : Bool := match m, d with
  | .fr, .list ds => nmA ds
  | .fr, _ => false
  | _, d => nm d
section
variable {K : PySem.W.Frag} {F F2 : Hp}
mutual
theorem Rep.less (h : ∀ a o, F a = some o → (∀ xs, o ≠ .lst xs) → F2 a = some o) : ∀ {v : V} {d : D}, Rep K F v d → nm d = true → Rep K F2 v d
  | _, _, .non, _ => .non
  | _, _, .bl b, _ => .bl b
  | _, _, .int i, _ => .int i
  | _, _, .str x, _ => .str x
  | _, _, .lst _ _, e => by simp [nm] at e
  | _, .tuple ds, .tup h1 r, e => .tup (by
      rcases h1 with ⟨o, h1, h2⟩ | h1
      · exact .inl ⟨o, h _ _ h1 (fun _ z => nomatch z), h2⟩
      · exact .inr h1) (RepA.less h r (by simpa [nm] using e))
theorem RepA.less (h : ∀ a o, F a = some o → (∀ xs, o ≠ .lst xs) → F2 a = some o) : ∀ {vs : List V} {ds : List D}, RepA K F vs ds → nmA ds = true → RepA K F2 vs ds
  | _, _, .nil, _ => .nil
  | _, d :: ds, .cons h1 r, e => by
    have e' : nm d = true ∧ nmA ds = true := by simpa [nmA] using e
    exact .cons (Rep.less h h1 e'.1) (RepA.less h r e'.2)
end
end
/-- F with the objects at L added as they stand in H -/
def plus (F H : Hp) (L : List Addr) : Hp := fun a => match F a with
  | some o => some o
  | none => if a ∈ L then H a else none
theorem plus_f {F H : Hp} {L : List Addr} : Same F (plus F H L) := fun a o h => by unfold plus; rw [h]
theorem plus_h {F H : Hp} {L : List Addr} (s : Same F H) : Same (plus F H L) H := fun a o h => by
  unfold plus at h
  split at h
  · rename_i o' e; cases h; exact s _ _ e
  · split at h
    · exact h
    · cases h
theorem plus_mono {F H : Hp} {L L' : List Addr} (h : ∀ a ∈ L, a ∈ L') : Same (plus F H L) (plus F H L') := fun a o q => by
  unfold plus at q ⊢
  cases e : F a with
  | some o' => rw [e] at q; exact q
  | none =>
    rw [e] at q
    have q' : (if a ∈ L then H a else none) = some o := q
    show (if a ∈ L' then H a else none) = some o
    by_cases hm : a ∈ L
    · rw [if_pos hm] at q'; rw [if_pos (h a hm)]; exact q'
    · rw [if_neg hm] at q'; cases q'
theorem args_plus {K : PySem.W.Frag} {H0 F H : Hp} : ∀ {vs : List V} {ds : List D}, ResA K .pk H0 F H vs ds → ∃ L : List Addr, (∀ a ∈ L, F a = none ∧ ∃ xs, H a = some (.lst xs)) ∧ RepA K (plus F H L) vs ds
  | _, _, .nil => ⟨[], by simp, .nil⟩
  | _, _, .cons h r => by
    obtain ⟨L, h1, h2⟩ := args_plus r
    rcases h with h | ⟨a, rfl, hf, o⟩
    · exact ⟨L, h1, .cons (h.mono plus_f) h2⟩
    · rename_i d ds
      cases d with
      | list es =>
        obtain ⟨xs, e, ra⟩ := o
        refine ⟨a :: L, fun b hb => ?_, .cons (.lst (.of ?_) (ra.mono plus_f)) (h2.mono (plus_mono fun b hb => List.mem_cons_of_mem _ hb))⟩
        · rcases List.mem_cons.mp hb with rfl | hb
          · exact ⟨hf, xs, e⟩
          · exact h1 b hb
        · unfold plus; rw [hf]; show (if a ∈ a :: L then H a else none) = _; rw [if_pos List.mem_cons_self]; exact e
      | _ => exact o.elim
def fBP (m : Md) (Φ : List D → Option D) (fs : Rho → Option (List D)) : Rho → Option D := fun ρ => (fs ρ).bind fun ds => (Φ ds).bind fun r => if okR m r = true then some r else none
section
variable {X : Cx} {m m1 : Md} {k : Nat} {f : Addr} {fd : FuncData} {ps : List Str} {Φ : List D → Option D} {x : Str} {p pos : Pos} {e : Expr} {es : List Expr} {t : TA} {fs : Rho → Option (List D)}
theorem sem_callP {K : PySem.W.Frag} (hm : m = .fz ∨ m = .fr) (h : SemA K m1 t fs) : SemE K m (tCall (spM K m Φ) [] E0 t) (fBP m Φ fs) := by
  intro B F H σ ρ z Q rel hf q
  obtain ⟨ds, h1, h2⟩ := bind_some hf
  obtain ⟨r, h3, h4⟩ := bind_some h2
  obtain ⟨hn, rfl⟩ := if_some h4
  refine h B F H σ ρ ds _ rel h1 fun vs F1 H1 x1 r1 => ?_
  rw [List.append_nil]
  obtain ⟨L, hL, ra⟩ := args_plus r1.any
  refine ⟨plus F1 H1 L, ds, r, plus_h x1.s, ra, h3, fun v F' H' x2 r2 => ?_⟩
  -- what the callee froze, without the caller's own
  have hex : ∃ F3 : Hp, Ext F1 H1 F3 H' ∧ (∀ a o, F' a = some o → (∀ xs, o ≠ .lst xs) → F3 a = some o) ∧ ∀ a, F' a = none → F3 a = none := by
    refine ⟨fun a => if a ∈ L then none else F' a, ⟨fun a o h => ?_, x2.h, fun a h => ?_, fun a o h => ?_⟩, fun a o h1 h2 => ?_, fun a h => ?_⟩
    · have : a ∉ L := fun z => by rw [(hL a z).1] at h; cases h
      rw [if_neg this]
      exact x2.f _ _ (plus_f _ _ h)
    · by_cases z : a ∈ L
      · exact absurd (if_pos z) h
      · have h' : F' a ≠ none := by intro e; exact h (by rw [if_neg z]; exact e)
        rcases x2.n a h' with w | w
        · left
          intro e
          apply w
          unfold plus
          rw [e]
          exact if_neg z
        · exact .inr w
    · by_cases z : a ∈ L
      · have h' : (none : Option HO) = some o := by rw [← h]; exact (if_pos z).symm
        cases h'
      · have h' : F' a = some o := by rw [← h]; exact (if_neg z).symm
        exact x2.s _ _ h'
    · have : a ∉ L := fun z => by
        obtain ⟨f1, xs, e⟩ := hL a z
        have : plus F1 H1 L a = some (.lst xs) := by unfold plus; rw [f1]; show (if a ∈ L then H1 a else none) = _; rw [if_pos z]; exact e
        have q := x2.f _ _ this
        rw [h1] at q
        exact h2 xs (Option.some.inj q)
      exact (if_neg this).trans h1
    · by_cases z : a ∈ L
      · exact if_pos z
      · exact (if_neg z).trans h
  obtain ⟨F3, x3, k1, k2⟩ := hex
  refine q v F3 H' (x1.trans x3) ?_
  rcases hm with rfl | rfl
  · exact Rep.less k1 r2 hn
  · obtain ⟨a, rfl, h0, hf0, o⟩ := r2
    refine ⟨a, rfl, x1.h.free h0, k2 a hf0, ?_⟩
    cases r with
    | list es =>
      obtain ⟨ws, e1, e2⟩ := o
      exact ⟨ws, e1, e2.less k1 hn⟩
    | _ => exact o.elim
/-- f(e, ..), owned names among the arguments, no list in what comes back -/
theorem de_callP (hm0 : m = .fz ∨ m = .fr) (F : FnOk X.prog X.w X.K X.mg X.base CX0 k f fd ps (spM X.K m Φ)) (hr : Room k X.A) (hg : Gl X x) (hm : X.mg x = some (.ref f)) (hk : PySem.W.keepIn X.K (.ref f) = true) (hb : Binds X.K fd ps []) (ha : DA X .pk (e :: es) t fs)
    (hdb : (x == ("__debug__" : Str)) = false := by decide) (he : starEach (e :: es) X.env = (false, eval e X.env) :: starEach es X.env := by rfl) (hpl : (backTo pos (starEach es X.env)).any (·.1) = false := by rfl) :
    DE X m (.Call (.Name x p) (e :: es) [] pos) (tCall (spM X.K m Φ) [] E0 t) (fBP m Φ fs) := ⟨pe_call F hr hg hm hk hb .nil pass0 ha.p hdb he hpl, sem_callP hm0 ha.s⟩
end
end Q
end

/-! part: Q9 -/
section
set_option Elab.async false
set_option linter.all false
set_option maxRecDepth 100000
set_option maxHeartbeats 4000000
set_option autoImplicit false
namespace PySem
set_option maxHeartbeats 1000000 in
theorem meets_enumerate_new1 {v : Value} {o : Obj} {H : Heap → Prop} (B : Begins v o H) :
    Meets (Builtin.«enumerate.__new__» ⟨[.type "enumerate", v], []⟩) (fun _ R s => H s.heap ∧
      R (.ok (.ret (.ref (s.heap.push o).objs.size))) { s with heap := (s.heap.push o).push { cls := .type "enumerate", data := .fields #[.none, .bool false, .ref s.heap.objs.size, rawInt 0, .none, .none] } }) :=
  .of_wp fun prog w A R s h => by
    obtain ⟨hp, g, d, tk, os⟩ := s; obtain ⟨h1, h⟩ := h
    have hsub := sub_enumerate
    have q1 : ∀ {A' : Around} {E : Value → Shared → Prop} {Q : Value → Shared → Prop}, Q (.ref hp.objs.size) ⟨hp.push o, g, d, tk, os⟩ → wpAny (model prog w) A' (pyIter v) Q E ⟨hp, g, d, tk, os⟩ :=
      fun q => B.iter prog w _ _ ⟨hp, g, d, tk, os⟩ _ h1 q
    wp_walk using q1
    refine wpAny_stack_any fun st => wpAny_pure ?_
    split
    · rename_i c _ _ _ _ _
      cases (c == Value.type "enumerate")
      · wp_walk using q1
        exact ⟨_, rfl, h⟩
      · wp_walk using q1
        exact ⟨_, rfl, h⟩
    · wp_walk using q1
      exact ⟨_, rfl, h⟩
theorem enum_begins1 {prog : Program} {w : World} {A : Around} {E : Value → Shared → Prop} {s : Shared} {v : Value} {o : Obj} {H : Heap → Prop} {Q : Value → Shared → Prop} (B : Begins v o H) (h1 : H s.heap)
    (h : ∀ h', IsEnum h' (s.heap.objs.size + 1) s.heap.objs.size 0 .none → h'.get? s.heap.objs.size = some o → h'.objs.size = s.heap.objs.size + 2 →
      (∀ b o, s.heap.get? b = some o → h'.get? b = some o) → Q (.ref (s.heap.objs.size + 1)) { s with heap := h' }) :
    wpAny (model prog w) A (call (.type "enumerate") [v]) Q E s := by
  refine callType_new F.called_enumerate (by decide) (F.typeCall_enumerate_1 _) (F.newCall_enumerate_1 _) (fun obj => F.args_object_init_2 obj _) F.entry_enumerate_new
    (meets_enumerate_new1 B) ⟨h1, ?_⟩
  have hz : (s.heap.push o).objs.size = s.heap.objs.size + 1 := Heap.size_push ..
  show _ ∧ _
  rw [hz]
  have he : IsEnum ((s.heap.push o).push { cls := .type "enumerate", data := .fields #[.none, .bool false, .ref s.heap.objs.size, rawInt 0, .none, .none] }) (s.heap.objs.size + 1) s.heap.objs.size 0 .none := by
    have := Heap.get?_push_size (s.heap.push o) (o := { cls := .type "enumerate", data := .fields #[.none, .bool false, .ref s.heap.objs.size, rawInt 0, .none, .none] }) rfl
    rw [hz] at this; exact this
  refine ⟨⟨_, he, rfl⟩, h _ he (Heap.get?_push_of_some _ (Heap.get?_push_size _ B.free)) (by rw [Heap.size_push, hz]) fun b o x => Heap.get?_push_of_some _ (Heap.get?_push_of_some _ x)⟩
end PySem
namespace Q
open PySem PySem.Spec PySem.Calls PyProof.Rows L2
/-! ### enumerate over a tuple -/
def IteT (K : PySem.W.Frag) (a : Addr) (n : Nat) : It :=
  ⟨fun i H => i < n ∧ ∃ (xs : List V) (x : V), SqT K H a xs ∧ xs[i]? = some x, fun i H v H' => ∃ T x, v = .ref T ∧ H T = none ∧ H' = upd H T (.tup [.int (i : Nat), x]) ∧ ∀ xs, SqT K H a xs → xs[i]? = some x, fun i H => n ≤ i ∧ ∃ xs : List V, SqT K H a xs ∧ xs.length = n⟩
theorem turn_enumT {P : Program} {w : World} {K : PySem.W.Frag} {elts : List Expr} {kk : Nat} {tpos : Pos} (a e it : Addr) (n : Nat) :
    Turn P w K (.Tuple elts kk tpos) (IteT K a n) [e, it] e (fun i h => i ≤ n ∧ (∃ old, IsEnum h e it ((i : Nat) : Int) old) ∧ h.IsTupleIter it a i ∧ e ≠ it ∧ a ≠ it ∧ a ≠ e) where
  mem := by simp
  obj := fun i h st b hb => by
    obtain ⟨_, ⟨old, he⟩, ⟨o, ho, hc, hd⟩, _⟩ := st
    have e' : b = e ∨ b = it := by simpa using hb
    rcases e' with z | z
    · rw [z]; exact ⟨_, he, fun v q => nomatch q⟩
    · rw [z]; exact ⟨o, ho, fun v q => by rw [hd] at q; cases q⟩
  keep := fun i h h' st k => let ⟨hn, ⟨old, he⟩, hi, hne⟩ := st; ⟨hn, ⟨old, k e (by simp) _ he⟩, hi.at fun o q => k it (by simp) o q, hne⟩
  item := by
    intro X hP hw hK hc i pins s σ H E I hf st hg
    subst hP hw hK
    obtain ⟨_, ⟨old, he⟩, hit, hne, hai, hae⟩ := st
    obtain ⟨hin, xs, x, hq, hx⟩ := hg
    obtain ⟨its, rv, p, hz⟩ := I.tuple hq
    obtain ⟨u, hu, ru⟩ := rv.get hx
    have hel : e < s.heap.objs.size := Heap.lt_size he
    have hil : it < s.heap.objs.size := by obtain ⟨_, q, _⟩ := hit; exact Heap.lt_size q
    have Dr := Draws.tuple (prog := X.prog) (w := X.w) (A := X.A.in1) (I.ok.hd hc) it a hai its.toArray
    have hlt : i < its.toArray.size := by rw [List.size_toArray, ← rv.length]; exact (List.getElem?_eq_some_iff.mp hx).1
    refine wpAny_pyNext_enum_itemD Dr he ⟨hit, p⟩ hlt hne (by simp [hne, Ne.symm hae]) fun u' h' tk hP' ho hit' hT hsz hk => ?_
    have eu : u' = u := by
      have h1 : its.toArray[i]? = some u := by simpa using hu
      rw [h1] at hP'
      exact (Option.some.inj hP').symm
    subst eu
    refine ⟨_, rfl, wpAny_letOwnedTupleGo_enum (s := { s with heap := h', toks := tk + 1 }) ho fun h'' he' sb => ?_⟩
    have hT2 : h''.get? s.heap.objs.size = some { cls := .type "tuple", data := .seq #[.int i tk, u'] } := (sb.2 _ (Nat.ne_of_gt hel)).trans hT
    have new : ObjOk X.prog X.w (upd H s.heap.objs.size (.tup [.int (i : Nat), x])) h'' s.heap.objs.size (.tup [.int (i : Nat), x]) :=
      ⟨by show 2 ≤ sizeLine; decide, [.int i tk, u'], .cons ⟨_, rfl⟩ (.cons ru .nil), ⟨_, hT2, rfl, _, rfl⟩⟩
    have I1 : Inv X pins σ (upd H s.heap.objs.size (.tup [.int (i : Nat), x])) { s with heap := h'', toks := tk + 1 } :=
      I.turnedNew (ch := [e, it]) (fun b ob hb q => (sb.2 b (fun z => hb (by simp [z]))).trans (hk b ob (fun z => hb (by simp [z])) (fun z => hb (by simp [z])) q)) hf (Nat.le_refl _) new
    refine ⟨.ref s.heap.objs.size, _, I1, rfl, ⟨_, x, rfl, I.hok.fresh (Nat.le_refl _), rfl, fun ys hy => by rw [I.tuple_inj hy hq]; exact hx⟩, ⟨hin, ⟨u', ?_⟩, hit'.1.at fun o q => (sb.2 it (Ne.symm hne)).trans q, hne, hai, hae⟩, fun b hb => ?_⟩
    · have e1 : ((i + 1 : Nat) : Int) = (i : Int) + 1 := by omega
      rw [e1]; exact he'
    · have hb' : b < s.heap.objs.size := by
        have e' : b = e ∨ b = it := by simpa using hb
        rcases e' with z | z
        · rw [z]; exact hel
        · rw [z]; exact hil
      rw [upd_ne (Nat.ne_of_lt hb')]
      exact (hf b hb).1
  done := by
    intro X hP hw hK hc i pins s σ H E I hf st hg
    subst hP hw hK
    obtain ⟨hin, ⟨old, he⟩, hit, hne, hai, hae⟩ := st
    obtain ⟨hge, xs, hq, hx⟩ := hg
    obtain ⟨its, rv, p, hz⟩ := I.tuple hq
    obtain ⟨f0, f1, f2, f3, f4, f5⟩ := hf it (by simp)
    have Dr := Draws.tuple (prog := X.prog) (w := X.w) (A := X.A.in1) (I.ok.hd hc) it a hai its.toArray
    have ei : i = its.toArray.size := by rw [List.size_toArray, ← rv.length]; omega
    subst ei
    exact wpAny_pyNext_enum_endD Dr he ⟨hit, p⟩ fun h' eb => ⟨rfl, I.turned (t' := s.toks) (fun b o hb q => eb b o hb q) f0 f1 f3 f4 f5⟩
  self := fun A i s Q E st h => let ⟨_, ⟨_, he⟩, _⟩ := st; wpAny_pyIter_enum he h
/-- enumerate(x), x a list or a tuple -/
def iEnumA (K : PySem.W.Frag) (te : TE) : TI := fun σ H R => te σ H fun v H1 => ∃ a xs, v = .ref a ∧ ((SqL K H1 a xs ∧ R (Ite K a) H1) ∨ (SqT K H1 a xs ∧ R (IteT K a xs.length) H1))
theorem pi_enumA {X : Cx} {e : Expr} {te : TE} {p pos tpos : Pos} {elts : List Expr} {kk : Nat} (hg : Gl X "enumerate") (hm : X.mg "enumerate" = none) (he : PE X e te) (hs : starEach [e] X.env = (false, eval e X.env) :: starEach [] X.env := by rfl) :
    PI X (.Tuple elts kk tpos) (.Call (.Name "enumerate" p) [e] [] pos) (iEnumA X.K te) := by
  refine ⟨fun pins s σ H R I h => ?_⟩
  refine Call_ (ld_blt I hg hm boot_enumerate (PyProof.Rows.callWith_type1 (args_cons (thn (he.run pins s σ H _ I h) fun u s1 ⟨v, H1, I1, r1, q1⟩ => args_nil ?_) hs) hs rfl))
  obtain ⟨a, xs, ev, q⟩ := q1
  subst ev
  obtain rfl : u = Value.ref a := r1
  have fresh2 : ∀ b, b ∈ [s1.heap.objs.size + 1, s1.heap.objs.size] → FpOk X pins H1 b := fun b hb => by
    have e' : b = s1.heap.objs.size + 1 ∨ b = s1.heap.objs.size := by simpa using hb
    have hle : s1.heap.objs.size ≤ b := by
      rcases e' with z | z
      · rw [z]; exact Nat.le_add_right _ _
      · rw [z]; exact Nat.le_refl _
    exact I1.fpOk hle (I1.hok.fresh hle)
  rcases q with ⟨hq, q⟩ | ⟨hq, q⟩
  · obtain ⟨its, rv, p', hz⟩ := I1.list hq
    refine call_enumerate_list p'.isList fun h' he hit hsz hk => wpAny_pyIter_enum he ?_
    have I2 : Inv X pins σ H1 { s1 with heap := h' } := I1.kept (t' := s1.toks) hk
    exact ⟨s1.heap.objs.size + 1, [s1.heap.objs.size + 1, s1.heap.objs.size], _, _, H1, rfl, I2, turn_enum a (s1.heap.objs.size + 1) s1.heap.objs.size, ⟨⟨.none, he⟩, hit, Nat.succ_ne_self _⟩, fresh2, q⟩
  · obtain ⟨its, rv, p', hz⟩ := I1.tuple hq
    have hal : a < s1.heap.objs.size := by obtain ⟨o, e, _⟩ := p'; exact Heap.lt_size e
    refine enum_begins1 (begins_tuple a its.toArray) p' fun h' he hit hsz hk => wpAny_pyIter_enum he ?_
    have I2 : Inv X pins σ H1 { s1 with heap := h' } := I1.kept (t' := s1.toks) hk
    exact ⟨s1.heap.objs.size + 1, [s1.heap.objs.size + 1, s1.heap.objs.size], _, _, H1, rfl, I2, turn_enumT a (s1.heap.objs.size + 1) s1.heap.objs.size xs.length, ⟨Nat.zero_le _, ⟨.none, he⟩, ⟨_, hit, rfl, rfl⟩, Nat.succ_ne_self _, Nat.ne_of_lt hal, Nat.ne_of_lt (Nat.lt_succ_of_lt hal)⟩, fresh2, q⟩
def numL : Nat → List D → List D
  | _, [] => []
  | i, d :: ds => .tuple [.int (i : Nat), d] :: numL (i + 1) ds
theorem numL_at : ∀ {ds : List D} {k i : Nat} {d : D}, (numL k ds)[i]? = some d → ∃ x, ds[i]? = some x ∧ d = .tuple [.int ((k + i : Nat) : Int), x]
  | [], _, _, _, h => by simp [numL] at h
  | x :: ds, k, 0, d, h => by simp [numL] at h; subst h; exact ⟨x, rfl, rfl⟩
  | x :: ds, k, i + 1, d, h => by
    have h' : (numL (k + 1) ds)[i]? = some d := by simpa [numL] using h
    obtain ⟨y, h1, h2⟩ := numL_at h'
    refine ⟨y, by simpa using h1, ?_⟩
    rw [h2, show k + 1 + i = k + (i + 1) by omega]
theorem numL_length : ∀ (ds : List D) (k : Nat), (numL k ds).length = ds.length
  | [], _ => rfl
  | x :: ds, k => by simp [numL, numL_length ds]
theorem ite_ok {K : PySem.W.Frag} {F : Hp} {a : Addr} {xs : List V} {ds : List D} {st : Hp → Prop} (hs : ∀ H, Same F H → st H → SqL K H a xs) (r : RepA K F xs ds) : ItO true K (Ite K a) F st (numL 0 ds) :=
  ⟨fun i F' H' hi s1 s2 s3 => by
    obtain ⟨x, h1, _⟩ := numL_at (List.getElem?_eq_getElem hi)
    obtain ⟨y, h3, _⟩ := r.get h1
    exact ⟨xs, y, hs H' (s1.trans s2) s3, h3⟩, fun i d F' H' v H3 hd s1 s2 s3 yy => by
    obtain ⟨T, x, rfl, hT, rfl, y1⟩ := yy
    obtain ⟨dx, h1, rfl⟩ := numL_at hd
    obtain ⟨x', h3, h5⟩ := r.get h1
    have e1 := y1 xs (hs H' (s1.trans s2) s3)
    rw [h3] at e1
    cases e1
    rw [Nat.zero_add]
    exact pair_ok s2 hT (Rep.int _) (h5.mono s1), fun i F' H' hi s1 s2 s3 => by
    rw [numL_length] at hi
    exact ⟨xs, hs H' (s1.trans s2) s3, by rw [r.length]; exact hi⟩⟩
theorem iteT_ok {K : PySem.W.Frag} {F : Hp} {a : Addr} {xs : List V} {ds : List D} {st : Hp → Prop} (hs : ∀ H, Same F H → st H → SqT K H a xs) (r : RepA K F xs ds) : ItO true K (IteT K a xs.length) F st (numL 0 ds) :=
  ⟨fun i F' H' hi s1 s2 s3 => by
    obtain ⟨x, h1, _⟩ := numL_at (List.getElem?_eq_getElem hi)
    obtain ⟨y, h3, _⟩ := r.get h1
    rw [numL_length, ← r.length] at hi
    exact ⟨hi, xs, y, hs H' (s1.trans s2) s3, h3⟩, fun i d F' H' v H3 hd s1 s2 s3 yy => by
    obtain ⟨T, x, rfl, hT, rfl, y1⟩ := yy
    obtain ⟨dx, h1, rfl⟩ := numL_at hd
    obtain ⟨x', h3, h5⟩ := r.get h1
    have e1 := y1 xs (hs H' (s1.trans s2) s3)
    rw [h3] at e1
    cases e1
    rw [Nat.zero_add]
    exact pair_ok s2 hT (Rep.int _) (h5.mono s1), fun i F' H' hi s1 s2 s3 => by
    rw [numL_length] at hi
    exact ⟨by rw [r.length]; exact hi, xs, hs H' (s1.trans s2) s3, rfl⟩⟩
def enumD (d : D) : Option (List D) := (itemsD d).map (numL 0)
def fEnum (f : Rho → Option D) : Rho → Option (List D) := fun ρ => (f ρ).bind enumD
section
variable {X : Cx} {m : Md} {e : Expr} {te : TE} {f : Rho → Option D} {p pos tpos : Pos} {elts : List Expr} {kk : Nat}
theorem sem_enum {K : PySem.W.Frag} (h : SemE K .fz te f) : SemI true K .fz (iEnumA K te) (fEnum f) := by
  intro B F H σ ρ ds R rel hf q
  obtain ⟨d, h1, h2⟩ := bind_some hf
  obtain ⟨es, h3, rfl⟩ := Option.map_eq_some_iff.mp h2
  refine h B F H σ ρ d _ rel h1 fun v F1 H1 x1 r1 => ?_
  cases d with
  | list es =>
    cases h3
    cases r1 with
    | lst hs hr => exact ⟨_, _, rfl, .inl ⟨x1.s.seq hs, q _ F1 H1 x1 (ite_ok (fun H s _ => s.seq hs) hr)⟩⟩
  | tuple es =>
    cases h3
    cases r1 with
    | tup hs hr => exact ⟨_, _, rfl, .inr ⟨(hs.mono x1.s).sq, q _ F1 H1 x1 (iteT_ok (fun H s _ => (hs.mono s).sq) hr)⟩⟩
  | _ => cases h3
theorem sem_enumP {K : PySem.W.Frag} (h : SemE K m te f) : SemI true K .pk (iEnumA K te) (fEnum f) := by
  intro B F H σ ρ ds R rel hf q
  obtain ⟨d, h1, h2⟩ := bind_some hf
  obtain ⟨es, h3, rfl⟩ := Option.map_eq_some_iff.mp h2
  refine h B F H σ ρ d _ rel h1 fun v F1 H1 x1 r1 => ?_
  cases d with
  | list es =>
    cases h3
    obtain ⟨a, xs, rfl, hs, hr⟩ := r1.list x1.s
    exact ⟨_, _, rfl, .inl ⟨hs, q _ F1 H1 x1 (ite_ok (fun H _ s => s.seq hs) hr)⟩⟩
  | tuple es =>
    cases h3
    obtain ⟨a, xs, rfl, hs, hr⟩ := r1.tup x1.s
    exact ⟨_, _, rfl, .inr ⟨hs.sq, q _ F1 H1 x1 (iteT_ok (fun H _ s => (hs.mono s).sq) hr)⟩⟩
  | _ => cases h3
theorem di_enum (hg : Gl X "enumerate") (hm : X.mg "enumerate" = none) (he : DE X .fz e te f) (hs : starEach [e] X.env = (false, eval e X.env) :: starEach [] X.env := by rfl) :
    DI true X .fz (.Tuple elts kk tpos) (.Call (.Name "enumerate" p) [e] [] pos) (iEnumA X.K te) (fEnum f) := ⟨pi_enumA hg hm he.p hs, sem_enum he.s⟩
theorem di_enumK (K' : PySem.W.Frag) (hg : Gl X "enumerate") (hm : X.mg "enumerate" = none) (he : DE X .fz e te f) (hs : starEach [e] X.env = (false, eval e X.env) :: starEach [] X.env := by rfl) (hK : X.K = K' := by rfl) : DI true X .fz (.Tuple elts kk tpos) (.Call (.Name "enumerate" p) [e] [] pos) (iEnumA K' te) (fEnum f) := by
  subst hK
  exact di_enum (hg := hg) (hm := hm) (he := he) (hs := hs)
theorem di_enumP (hg : Gl X "enumerate") (hm : X.mg "enumerate" = none) (he : DE X m e te f) (hs : starEach [e] X.env = (false, eval e X.env) :: starEach [] X.env := by rfl) :
    DI true X .pk (.Tuple elts kk tpos) (.Call (.Name "enumerate" p) [e] [] pos) (iEnumA X.K te) (fEnum f) := ⟨pi_enumA hg hm he.p hs, sem_enumP he.s⟩
theorem di_enumPK (K' : PySem.W.Frag) (hg : Gl X "enumerate") (hm : X.mg "enumerate" = none) (he : DE X m e te f) (hs : starEach [e] X.env = (false, eval e X.env) :: starEach [] X.env := by rfl) (hK : X.K = K' := by rfl) : DI true X .pk (.Tuple elts kk tpos) (.Call (.Name "enumerate" p) [e] [] pos) (iEnumA K' te) (fEnum f) := by
  subst hK
  exact di_enumP (hg := hg) (hm := hm) (he := he) (hs := hs)
end
end Q
end

/-! part: Q10 -/
section
set_option Elab.async false
set_option linter.all false
set_option maxRecDepth 100000
set_option maxHeartbeats 4000000
set_option autoImplicit false
namespace Q
open PySem PySem.Spec PySem.Calls PyProof.Rows L2
theorem DE.pk {X : Cx} {m : Md} {e : Expr} {t : TE} {f : Rho → Option D} (h : DE X m e t f) : DE X .pk e t f := ⟨h.p, fun B F H σ ρ d Q r hf q => h.s B F H σ ρ d Q r hf fun v F' H' x rs => q v F' H' x rs.any⟩
/-! ### slices -/
def SemO (K : PySem.W.Frag) (t : TO) (f : Rho → Option (Option Int)) : Prop :=
  ∀ (B : Bs) (F H : Hp) (σ : L2.St) (ρ : Rho) (o : Option Int) (Q : Option Int → Hp → Prop), Rel K B F H σ ρ → f ρ = some o → (∀ F' H', Ext F H F' H' → Q o H') → t σ H Q
structure DO (X : Cx) (e : Option Expr) (t : TO) (f : Rho → Option (Option Int)) : Prop where
  p : PO X e t
  s : SemO X.K t f
def oNo : Rho → Option (Option Int) := fun _ => some none
def oIs (f : Rho → Option D) : Rho → Option (Option Int) := fun ρ => (f ρ).bind fun d => match d with
  | .int i => some (some i)
  | _ => none
section
variable {X : Cx} {m m1 : Md} {e : Expr} {te : TE} {f : Rho → Option D} {p p2 pos : Pos} {lo hi : Option Expr} {tl th : TO} {fl fh : Rho → Option (Option Int)}
theorem do_no : DO X none tNoPart oNo := ⟨po_none, fun B F H σ ρ o Q r hf q => by cases hf; exact q F H (.refl r.fh)⟩
theorem do_is (h : DE X m e te f) : DO X (some e) (tPart te) (oIs f) := ⟨po_some h.p, fun B F H σ ρ o Q r hf q => by
  obtain ⟨d, h1, h2⟩ := bind_some hf
  refine h.s B F H σ ρ d _ r h1 fun v F1 H1 x1 r1 => ?_
  cases d with
  | int i => cases h2; exact ⟨i, r1.int, q F1 H1 x1⟩
  | _ => cases h2⟩
def cutL (ds : List D) (lo hi : Option Int) : List D := (ds.drop (HT.sIx ds.length 0 lo)).take (HT.sIx ds.length ds.length hi - HT.sIx ds.length 0 lo)
theorem repA_cut {K : PySem.W.Frag} {F : Hp} {xs : List V} {ds : List D} (r : RepA K F xs ds) (lo hi : Option Int) : RepA K F (cutV xs lo hi) (cutL ds lo hi) := by
  unfold cutV cutL
  rw [r.length]
  exact (r.drop _).take _
/-- t[lo:hi]: the whole of it is t itself -/
def rSlF (K : PySem.W.Frag) : V → Option Int → Option Int → Hp → VK → Prop := fun x lo hi H Q => ∃ a xs, x = .ref a ∧ SqT K H a xs ∧
  (HT.sIx xs.length 0 lo = 0 ∧ HT.sIx xs.length xs.length hi = xs.length → Q (.ref a) H) ∧ (¬ (HT.sIx xs.length 0 lo = 0 ∧ HT.sIx xs.length xs.length hi = xs.length) → NewT (cutV xs lo hi) H Q)
theorem sl_tupF : SlR X (rSlF X.K) := by
  intro pins s σ H x v vl vu lo hi sl Q I rx hs pl pu h
  obtain ⟨a, xs, rfl, hx, q1, q2⟩ := h
  cases rx
  obtain ⟨its, r, ht, hz⟩ := I.tuple hx
  have hlen : its.toArray.size = xs.length := by rw [List.size_toArray]; exact r.length.symm
  refine ⟨"tuple", _, PyProof.Rows.slot_tuple_getitem.lookup, ht.typeIs, ?_⟩
  by_cases hw : HT.sIx xs.length 0 lo = 0 ∧ HT.sIx xs.length xs.length hi = xs.length
  · exact getItem_tuple_whole ht hs pl pu (by rw [hlen]; exact hw) ⟨.ref a, H, I, rfl, q1 hw⟩
  · refine HT.getItem_tuple_cut ht hs pl pu (by rw [hlen]; exact hw) ?_ (by rw [hlen]; exact hz)
    rw [hlen]
    exact ⟨.ref s.heap.objs.size, _, I.laidT (t' := s.toks) ((r.drop (HT.sIx xs.length 0 lo)).take (HT.sIx xs.length xs.length hi - HT.sIx xs.length 0 lo)) (Nat.le_trans (cutV_length xs lo hi) hz), rfl, q2 hw _ _ (I.hok.fresh (Nat.le_refl _)) rfl rfl⟩
def rSlC (K : PySem.W.Frag) : V → Option Int → Option Int → Hp → VK → Prop := fun x lo hi H Q => rSlF K x lo hi H Q ∨ (rSlL K x lo hi H Q ∨ rSlS x lo hi H Q)
theorem sl_all : SlR X (rSlC X.K) := sl_tupF.or (sl_list.or sl_str)
def cutD (d : D) (lo hi : Option Int) : Option D := match d with
  | .tuple ds => some (.tuple (cutL ds lo hi))
  | .list ds => some (.list (cutL ds lo hi))
  | .str z => if z.length ≤ sizeLine then some (.str (cutS z lo hi)) else none
  | _ => none
def fSl (f : Rho → Option D) (fl fh : Rho → Option (Option Int)) : Rho → Option D := fun ρ => (f ρ).bind fun d => (fl ρ).bind fun l => (fh ρ).bind fun h => cutD d l h
theorem cut_whole {ds : List D} {lo hi : Option Int} (h : HT.sIx ds.length 0 lo = 0 ∧ HT.sIx ds.length ds.length hi = ds.length) : cutL ds lo hi = ds := by
  unfold cutL
  rw [h.1, h.2]
  simp
theorem de_sl (he : DE X m e te f) (hl : DO X lo tl fl) (hh : DO X hi th fh) : DE X .fz (.Subscript e (.Slice lo hi none p2) pos) (tSl (rSlC X.K) te tl th) (fSl f fl fh) := ⟨pe_slice sl_all he.p hl.p hh.p, fun B F H σ ρ z Q r hf q => by
  obtain ⟨d, h1, h2⟩ := bind_some hf
  obtain ⟨l, h3, h4⟩ := bind_some h2
  obtain ⟨h, h5, h6⟩ := bind_some h4
  refine he.s B F H σ ρ d _ r h1 fun v F1 H1 x1 r1 => ?_
  refine hl.s B F1 H1 σ ρ l _ (r.ext x1) h3 fun F2 H2 x2 => ?_
  refine hh.s B F2 H2 σ ρ h _ ((r.ext x1).ext x2) h5 fun F3 H3 x3 => ?_
  have r3 := (r1.mono x2).mono x3
  have x13 := (x1.trans x2).trans x3
  cases d with
  | tuple ds =>
    cases h6
    have rt := Res.rep r3 (fun _ z => nomatch z)
    obtain ⟨a, xs, rfl, s1, p1⟩ := r3.tup x3.s
    refine .inl ⟨a, xs, rfl, s1.sq, fun hw => ?_, fun _ => newT_rep x13 (repA_cut p1 l h) q⟩
    rw [p1.length] at hw
    rw [cut_whole hw] at q
    exact q _ F3 H3 x13 rt
  | list ds =>
    cases h6
    obtain ⟨a, xs, rfl, s1, p1⟩ := r3.list x3.s
    refine .inr (.inl ⟨a, xs, rfl, s1, ?_⟩)
    refine newL_res x13 (repA_cut p1 l h) fun v F' H' x' r' => ?_
    obtain ⟨F5, x5, r5⟩ := fr_fz x' r'
    exact q v F5 H' x5 r5
  | str z =>
    obtain ⟨hz, rfl⟩ := if_some h6
    exact .inr (.inr ⟨z, r3.str, hz, q _ F3 H3 x13 (Rep.str _)⟩)
  | _ => cases h6⟩
theorem de_slK (K' : PySem.W.Frag) (he : DE X m e te f) (hl : DO X lo tl fl) (hh : DO X hi th fh) (hK : X.K = K' := by rfl) : DE X .fz (.Subscript e (.Slice lo hi none p2) pos) (tSl (rSlC K') te tl th) (fSl f fl fh) := by
  subst hK
  exact de_sl (he := he) (hl := hl) (hh := hh)
/-! ### list(range(..)) -/
theorem repA_rg {K : PySem.W.Frag} {F : Hp} (a b : Int) : RepA K F (rgV a b) (rgD a (b - a).toNat) := by
  unfold rgV rgD
  have e1 : (List.range (b - a).toNat).map (fun i => V.int (a + (i : Nat))) = ((List.range (b - a).toNat).map fun i => (a + (i : Nat))).map V.int := by rw [List.map_map]; rfl
  have e2 : (List.range (b - a).toNat).map (fun i => (.int (a + (i : Nat)) : D)) = ((List.range (b - a).toNat).map fun i => (a + (i : Nat))).map .int := by rw [List.map_map]; rfl
  rw [e1, e2]
  exact RepA.of_ints _
def fLr1 (f : Rho → Option D) : Rho → Option D := fun ρ => (f ρ).bind fun d => match d with
  | .int n => if -(2 ^ 62) ≤ n ∧ n ≤ 16777216 then some (.list (rgD 0 n.toNat)) else none
  | _ => none
theorem de_lr1 {q : Pos} (hg : Gl X "list") (hm : X.mg "list" = none) (hg2 : Gl X "range") (hm2 : X.mg "range" = none) (he : DE X m e te f) (hc : X.calm = true := by rfl) (na : starEach [.Call (.Name "range" p2) [e] [] q] X.env = (false, eval (.Call (.Name "range" p2) [e] [] q) X.env) :: starEach [] X.env := by rfl)
    (na2 : starEach [e] X.env = (false, eval e X.env) :: starEach [] X.env := by rfl) : DE X .fr (.Call (.Name "list" p) [.Call (.Name "range" p2) [e] [] q] [] pos) (tLstRg (tRg1 te)) (fLr1 f) := ⟨pe_listRg hc hg hm (prg_1 hg2 hm2 he.p na2) na, fun B F H σ ρ z Q r hf q => by
  obtain ⟨d, h1, h2⟩ := bind_some hf
  refine he.s B F H σ ρ d _ r h1 fun v F1 H1 x1 r1 => ?_
  cases d with
  | int n =>
    obtain ⟨hn, rfl⟩ := if_some h2
    refine ⟨n, r1.int, ⟨by omega, by omega, by omega, by omega, by omega⟩, ?_⟩
    have ra : RepA X.K F1 (rgV 0 n) (rgD 0 n.toNat) := by have := repA_rg (K := X.K) (F := F1) 0 n; rwa [Int.sub_zero] at this
    exact newL_res x1 ra q
  | _ => cases h2⟩
/-! ### isinstance -/
def tyName : D → String
  | .none => "NoneType"
  | .bool _ => "bool"
  | .int _ => "int"
  | .str _ => "str"
  | .list _ => "list"
  | .tuple _ => "tuple"
  | .dict _ => "dict"
def isiN (a b : String) : Bool := a == b || (a == "bool" && b == "int")
def tyB (b : String) : Bool := ["int", "bool", "str", "list", "tuple", "dict"].contains b
theorem kit_all : (["NoneType", "bool", "int", "str", "list", "tuple"].all fun a => ["int", "bool", "str", "list", "tuple", "dict"].all fun b => decide (kitB a b = some (isiN a b))) = true := by decide +kernel
theorem kit_of2 {K : PySem.W.Frag} {d : D} {b : String} (hd : tyName d ≠ "dict") (hb : tyB b = true) : PySem.W.kitOne K (.type (tyName d)) (.type b) = some (isiN (tyName d) b) := by
  refine kit_ty ?_
  have h := List.all_eq_true.mp kit_all (tyName d) (by cases d <;> first | (simp [tyName]; done) | exact absurd rfl hd)
  exact of_decide_eq_true (List.all_eq_true.mp h b (by simpa [tyB, List.contains_iff_mem] using hb))
theorem tyX_of {K : PySem.W.Frag} {m : Md} {H0 F H : Hp} {x : V} {d : D} (r : Res K m H0 F H x d) (fh : Same F H) (hd : tyName d ≠ "dict") : TyX K H x (.type (tyName d)) := by
  rcases r.any with r | ⟨a, rfl, _, o⟩
  · cases r with
    | non => exact .base .non
    | bl b => exact .base (.bl b)
    | int i => exact .base (.int i)
    | str x => exact .base (.str x)
    | lst h _ =>
      rcases h with (h | ⟨o, h⟩) | ⟨o, its, n, h1, h2, _⟩
      · exact .base (.lst (fh _ _ h))
      · exact .base (.frz (fh _ _ h))
      · exact .kList h1 h2
    | tup h _ =>
      rcases h with ⟨o, h, _⟩ | ⟨o, its, n, h1, h2, _⟩
      · exact .fTuple (fh _ _ h)
      · exact .kTuple h1 h2
  · cases d with
    | list ds => obtain ⟨vs, e, _⟩ := o; exact .base (.lst e)
    | _ => exact o.elim
/-- isinstance(x, T) -/
def fIsi (b : String) (f : Rho → Option D) : Rho → Option D := fun ρ => (f ρ).bind fun d => match d with
  | .dict _ => none
  | d => some (.bool (isiN (tyName d) b))
theorem isi_some {b : String} {d z : D} (h : (match d with
  | .dict _ => none
  | d => some (.bool (isiN (tyName d) b))) = some z) : tyName d ≠ "dict" ∧ z = .bool (isiN (tyName d) b) := by
  cases d <;> first | (cases h; done) | (cases h; exact ⟨by simp [tyName], rfl⟩)
theorem ld_ty {b : String} {x : Str} {pos : Pos} (hg : Gl X x) (hm : X.mg x = none) (hv : bootBuiltins x = some (.type b)) (hn : x ≠ "__name__") (hdb : (x == ("__debug__" : Str)) = false) : PE X (.Name x pos) (tC (.ty b)) := pe_bltn hg hm hv (show RelV (.ty b) (.type b) from rfl) hn hdb
theorem de_isi {x y : Str} {b : String} {p3 : Pos} (hx : x = "isinstance") (hgi : Gl X x) (hmi : X.mg x = none) (hv0 : bootBuiltins x = some (.builtin "isinstance")) (hg : Gl X y) (hm : X.mg y = none) (hv : bootBuiltins y = some (.type b)) (he : DE X m e te f) (hb : tyB b = true := by decide) (hn0 : x ≠ "__name__" := by decide) (hdb0 : (x == ("__debug__" : Str)) = false := by decide) (hn : y ≠ "__name__" := by decide) (hdb : (y == ("__debug__" : Str)) = false := by decide)
    (s1 : starEach [e, .Name y p3] X.env = (false, eval e X.env) :: starEach [.Name y p3] X.env := by rfl) (s2 : starEach [.Name y p3] X.env = (false, eval (.Name y p3) X.env) :: starEach [] X.env := by rfl) (hpl : (backTo pos (starEach [.Name y p3] X.env)).any (·.1) = false := by rfl) :
    DE X .fz (.Call (.Name x p) [e, .Name y p3] [] pos) (tCB (rIsi X.K) (tCons te (tCons (tC (.ty b)) tNil))) (fIsi b f) :=
  ⟨pe_callB call_isi hgi hmi hv0 (pa_cons he.p (pa_cons (ld_ty hg hm hv hn hdb) pa_nil s2) s1) hn0 hdb0 s1 hpl, fun B F H σ ρ z Q r hf q => by
    obtain ⟨d, h1, h2⟩ := bind_some hf
    obtain ⟨hd, rfl⟩ := isi_some h2
    refine he.s B F H σ ρ d _ r h1 fun v F1 H1 x1 r1 => ?_
    exact ⟨v, .ty b, _, _, _, rfl, .ty b, tyX_of r1 x1.s hd, kit_of2 hd hb, q _ F1 H1 x1 (Rep.bl _)⟩⟩
theorem de_isiK (K' : PySem.W.Frag) {x y : Str} {b : String} {p3 : Pos} (hx : x = "isinstance") (hgi : Gl X x) (hmi : X.mg x = none) (hv0 : bootBuiltins x = some (.builtin "isinstance")) (hg : Gl X y) (hm : X.mg y = none) (hv : bootBuiltins y = some (.type b)) (he : DE X m e te f) (hb : tyB b = true := by decide) (hn0 : x ≠ "__name__" := by decide) (hdb0 : (x == ("__debug__" : Str)) = false := by decide) (hn : y ≠ "__name__" := by decide) (hdb : (y == ("__debug__" : Str)) = false := by decide) (s1 : starEach [e, .Name y p3] X.env = (false, eval e X.env) :: starEach [.Name y p3] X.env := by rfl) (s2 : starEach [.Name y p3] X.env = (false, eval (.Name y p3) X.env) :: starEach [] X.env := by rfl) (hpl : (backTo pos (starEach [.Name y p3] X.env)).any (·.1) = false := by rfl) (hK : X.K = K' := by rfl) : DE X .fz (.Call (.Name x p) [e, .Name y p3] [] pos) (tCB (rIsi K') (tCons te (tCons (tC (.ty b)) tNil))) (fIsi b f) := by
  subst hK
  exact de_isi (hx := hx) (hgi := hgi) (hmi := hmi) (hv0 := hv0) (hg := hg) (hm := hm) (hv := hv) (he := he) (hb := hb) (hn0 := hn0) (hdb0 := hdb0) (hn := hn) (hdb := hdb) (s1 := s1) (s2 := s2) (hpl := hpl)
/-- isinstance(x, (T, U)) -/
def fIsi2 (b c : String) (f : Rho → Option D) : Rho → Option D := fun ρ => (f ρ).bind fun d => match d with
  | .dict _ => none
  | d => some (.bool (isiN (tyName d) b || isiN (tyName d) c))
theorem de_isi2 {x y z : Str} {b c : String} {p3 p4 p5 : Pos} {k : Nat} (hx : x = "isinstance") (hgi : Gl X x) (hmi : X.mg x = none) (hv0 : bootBuiltins x = some (.builtin "isinstance")) (hg : Gl X y) (hm : X.mg y = none) (hv : bootBuiltins y = some (.type b)) (hg' : Gl X z) (hm' : X.mg z = none) (hv' : bootBuiltins z = some (.type c)) (he : DE X m e te f) (hb : tyB b = true := by decide) (hc : tyB c = true := by decide)
    (hn0 : x ≠ "__name__" := by decide) (hdb0 : (x == ("__debug__" : Str)) = false := by decide) (hn : y ≠ "__name__" := by decide) (hdb : (y == ("__debug__" : Str)) = false := by decide) (hn' : z ≠ "__name__" := by decide) (hdb' : (z == ("__debug__" : Str)) = false := by decide)
    (s1 : starEach [e, .Tuple [.Name y p3, .Name z p4] k p5] X.env = (false, eval e X.env) :: starEach [.Tuple [.Name y p3, .Name z p4] k p5] X.env := by rfl) (s2 : starEach [.Tuple [.Name y p3, .Name z p4] k p5] X.env = (false, eval (.Tuple [.Name y p3, .Name z p4] k p5) X.env) :: starEach [] X.env := by rfl) (hpl : (backTo pos (starEach [.Tuple [.Name y p3, .Name z p4] k p5] X.env)).any (·.1) = false := by rfl)
    (s3 : starEach [.Name y p3, .Name z p4] X.env = (false, eval (.Name y p3) X.env) :: starEach [.Name z p4] X.env := by rfl) (s4 : starEach [.Name z p4] X.env = (false, eval (.Name z p4) X.env) :: starEach [] X.env := by rfl) :
    DE X .fz (.Call (.Name x p) [e, .Tuple [.Name y p3, .Name z p4] k p5] [] pos) (tCB (rIsiT X.K) (tCons te (tCons (tTup (tCons (tC (.ty b)) (tCons (tC (.ty c)) tNil))) tNil))) (fIsi2 b c f) :=
  ⟨pe_callB call_isiT hgi hmi hv0 (pa_cons he.p (pa_cons (pe_tup (pa_cons (ld_ty hg hm hv hn hdb) (pa_cons (ld_ty hg' hm' hv' hn' hdb') pa_nil s4) s3)) pa_nil s2) s1) hn0 hdb0 s1 hpl, fun B F H σ ρ zz Q r hf q => by
    obtain ⟨d, h1, h2⟩ := bind_some hf
    have hd : tyName d ≠ "dict" ∧ zz = .bool (isiN (tyName d) b || isiN (tyName d) c) := by
      cases d <;> first | (cases h2; done) | (cases h2; exact ⟨by simp [tyName], rfl⟩)
    obtain ⟨hd, rfl⟩ := hd
    refine he.s B F H σ ρ d _ r h1 fun v F1 H1 x1 r1 => ⟨by show 2 ≤ sizeLine; decide, fun tp htp => ?_⟩
    have x2 := ext_own (o := .tup [.ty b, .ty c]) x1 htp
    have ty : TyX X.K (upd H1 tp (.tup [.ty b, .ty c])) v (.type (tyName d)) := tyX_of (r1.mono (ext_own (o := .tup [.ty b, .ty c]) (.refl x1.s) htp)) x2.s hd
    refine ⟨v, tp, _, _, [.type b, .type c], isiN (tyName d) b || isiN (tyName d) c, rfl, upd_same, .cons (.ty b) (.cons (.ty c) .nil), ty, ?_, q _ F1 _ x2 (Rep.bl _)⟩
    refine kitAny_cons (kit_of2 hd hb) (fun e1 => ?_) (fun e1 => by rw [e1]; rfl)
    rw [e1, Bool.false_or]
    refine kitAny_cons (kit_of2 hd hc) (fun e2 => ?_) (fun e2 => e2)
    rw [e2]
    rfl⟩
theorem de_isi2K (K' : PySem.W.Frag) {x y z : Str} {b c : String} {p3 p4 p5 : Pos} {k : Nat} (hx : x = "isinstance") (hgi : Gl X x) (hmi : X.mg x = none) (hv0 : bootBuiltins x = some (.builtin "isinstance")) (hg : Gl X y) (hm : X.mg y = none) (hv : bootBuiltins y = some (.type b)) (hg' : Gl X z) (hm' : X.mg z = none) (hv' : bootBuiltins z = some (.type c)) (he : DE X m e te f) (hb : tyB b = true := by decide) (hc : tyB c = true := by decide) (hn0 : x ≠ "__name__" := by decide) (hdb0 : (x == ("__debug__" : Str)) = false := by decide) (hn : y ≠ "__name__" := by decide) (hdb : (y == ("__debug__" : Str)) = false := by decide) (hn' : z ≠ "__name__" := by decide) (hdb' : (z == ("__debug__" : Str)) = false := by decide) (s1 : starEach [e, .Tuple [.Name y p3, .Name z p4] k p5] X.env = (false, eval e X.env) :: starEach [.Tuple [.Name y p3, .Name z p4] k p5] X.env := by rfl) (s2 : starEach [.Tuple [.Name y p3, .Name z p4] k p5] X.env = (false, eval (.Tuple [.Name y p3, .Name z p4] k p5) X.env) :: starEach [] X.env := by rfl) (hpl : (backTo pos (starEach [.Tuple [.Name y p3, .Name z p4] k p5] X.env)).any (·.1) = false := by rfl) (s3 : starEach [.Name y p3, .Name z p4] X.env = (false, eval (.Name y p3) X.env) :: starEach [.Name z p4] X.env := by rfl) (s4 : starEach [.Name z p4] X.env = (false, eval (.Name z p4) X.env) :: starEach [] X.env := by rfl) (hK : X.K = K' := by rfl) : DE X .fz (.Call (.Name x p) [e, .Tuple [.Name y p3, .Name z p4] k p5] [] pos) (tCB (rIsiT K') (tCons te (tCons (tTup (tCons (tC (.ty b)) (tCons (tC (.ty c)) tNil))) tNil))) (fIsi2 b c f) := by
  subst hK
  exact de_isi2 (hx := hx) (hgi := hgi) (hmi := hmi) (hv0 := hv0) (hg := hg) (hm := hm) (hv := hv) (hg' := hg') (hm' := hm') (hv' := hv') (he := he) (hb := hb) (hc := hc) (hn0 := hn0) (hdb0 := hdb0) (hn := hn) (hdb := hdb) (hn' := hn') (hdb' := hdb') (s1 := s1) (s2 := s2) (hpl := hpl) (s3 := s3) (s4 := s4)
end
/-! ### methods that change a list -/
section
variable {X : Cx} {m m1 : Md} {e : Expr} {te : TE} {f : Rho → Option D} {p p2 pos apos : Pos} {j : Nat} {x : Str}
theorem tyL {K : PySem.W.Frag} {H : Hp} {a : Addr} {xs : List V} (h : H a = some (.lst xs)) : tyV K "list" (.ref a) H := .inl ⟨rfl, xs, .of h⟩
/-- the owned list of a name -/
theorem Rel.own {K : PySem.W.Frag} {B : Bs} {F H : Hp} {σ : L2.St} {ρ : Rho} (r : Rel K B F H σ ρ) {ds : List D} (h : ρ[j]? = some (.ow (.list ds))) : ∃ a vs, σ[j]? = some (some (.ref a)) ∧ F a = none ∧ B.G a = none ∧ H a = some (.lst vs) ∧ RepA K F vs ds := by
  obtain ⟨o, e, a, rfl, h1, h2, vs, h3, h4⟩ := r.at h
  exact ⟨a, vs, e, h1, h2, h3, h4⟩
def bApp (j : Nat) (f : Rho → Option D) : Bd := fun ρ => match ρ[j]? with
  | some (.ow (.list ds)) => (f ρ).bind fun d => if ds.length < sizeLine then some (.nx (ρ.set j (.ow (.list (ds ++ [d]))))) else none
  | _ => none
theorem app_some {j : Nat} {f : Rho → Option D} {ρ : Rho} {o : Out} (h : bApp j f ρ = some o) : ∃ ds d, ρ[j]? = some (.ow (.list ds)) ∧ f ρ = some d ∧ ds.length < sizeLine ∧ o = .nx (ρ.set j (.ow (.list (ds ++ [d])))) := by
  unfold bApp at h
  split at h
  · rename_i ds e
    obtain ⟨d, h1, h2⟩ := bind_some h
    obtain ⟨h3, rfl⟩ := if_some h2
    exact ⟨ds, d, e, h1, h3, rfl⟩
  · cases h
theorem sem_app {K : PySem.W.Frag} (h : SemE K .fz te f) : SemS K m [] (tDrop (tBM K "list" rAppend (tVar j) (tCons te tNil))) (bApp j f) := by
  intro B F H σ ρ o D r hb q
  obtain ⟨ds, d, e1, e2, hl, rfl⟩ := app_some hb
  obtain ⟨a, vs, h1, h2, h3, h4, h5⟩ := r.own e1
  refine ⟨_, h1, tyL h4, ?_⟩
  refine h B F H σ ρ d _ r e2 fun v F1 H1 x1 r1 => ?_
  have h6 := x1.h _ _ h4
  refine ⟨a, vs, v, rfl, rfl, h6, by rw [h5.length]; exact hl, ?_⟩
  have hF1 : F1 a = none := x1.keepNone h2 (by rw [h4]; exact fun z => nomatch z)
  exact q σ F1 _ ((r.ext x1).write e1 h1 hF1 h3 ⟨vs ++ [v], upd_same, (h5.mono x1.f).append (.cons r1 .nil)⟩) fun _ _ => rfl
theorem pe_app {a : Expr} {r : V → List V → Hp → VK → Prop} {id : String} {name : Str} {ta : TE} {t : TA} {e : Expr} {es : List Expr} (slot : Slot "list" name id) (hty : typeOf (.builtin id) = pure (.type "method_descriptor")) (hm : MtR X id r) (ho : PE X a ta) (ha : PA X (e :: es) t)
    (hbase : attributeBase a name X.env (eval a X.env) = eval a X.env := by rfl)
    (hfew : ((backTo p (starEach (e :: es) X.env)).all (fun x => !x.1) && (backToKw p (keywordEach [] X.env)).all (fun x => x.1.isSome)
      && decide ((e :: es).length + ([] : List Keyword).length + (if ([] : List Keyword).isEmpty then 0 else 1) < 30)) = true := by rfl)
    (hline : (apos.endLine == p.line) = true := by rfl) (hs : starEach (e :: es) X.env = (false, eval e X.env) :: starEach es X.env := by rfl) (hplain : (backTo p (starEach es X.env)).any (·.1) = false := by rfl) :
    PE X (.Call (.Attribute a name apos) (e :: es) [] p) (tBM X.K "list" r ta t) := pe_bm PySem.F.plainAttrs_list slot hty hm ho ha hbase hfew hline hs hplain
/-- x.append(e) -/
theorem ds_app {pn : Pos} (he : DE X .fz e te f) (hN : X.N[j]? = some x := by rfl) (hv : Vis X.env.scope x := by first | exact Or.inl rfl | exact Or.inr (Or.inl rfl) | exact Or.inr (Or.inr rfl)) (hd : (x == ("__debug__" : Str)) = false := by decide) (hcd : (x == ("__classdict__" : Str)) = false := by decide)
    (hbase : attributeBase (.Name x pn) "append" X.env (eval (.Name x pn) X.env) = eval (.Name x pn) X.env := by rfl)
    (hfew : ((backTo p (starEach [e] X.env)).all (fun x => !x.1) && (backToKw p (keywordEach [] X.env)).all (fun x => x.1.isSome)
      && decide ([e].length + ([] : List Keyword).length + (if ([] : List Keyword).isEmpty then 0 else 1) < 30)) = true := by rfl)
    (hline : (apos.endLine == p.line) = true := by rfl) (hs : starEach [e] X.env = (false, eval e X.env) :: starEach [] X.env := by rfl) (hsw : swapsWith (.Call (.Attribute (.Name x pn) "append" apos) [e] [] p) none pos.line X.env = pure false := by rfl) :
    DS X m [] (.Expr (.Call (.Attribute (.Name x pn) "append" apos) [e] [] p) pos) (tDrop (tBM X.K "list" rAppend (tVar j) (tCons te tNil))) (bApp j f) :=
  ⟨ps_expr (pe_bm PySem.F.plainAttrs_list PySem.F.slot_list_append PySem.F.type_list_append mt_append (pe_var hN hv hd hcd) (pa_cons he.p pa_nil hs) hbase hfew hline hs rfl) hsw, sem_app he.s⟩
/-! effects within expressions -/
def SemX (K : PySem.W.Frag) (t : TE) (f : Rho → Option (D × Rho)) : Prop :=
  ∀ (B : Bs) (F H : Hp) (σ : L2.St) (ρ ρ' : Rho) (d : D) (Q : VK), Rel K B F H σ ρ → f ρ = some (d, ρ') → (∀ v F' H', Rel K B F' H' σ ρ' → Same F F' → Rep K F' v d → Q v H') → t σ H Q
structure DX (X : Cx) (e : Expr) (t : TE) (f : Rho → Option (D × Rho)) : Prop where
  p : PE X e t
  s : SemX X.K t f
def xPop (j : Nat) : Rho → Option (D × Rho) := fun ρ => match ρ[j]? with
  | some (.ow (.list ds)) => (ds[ds.length - 1]?).map fun d => (d, ρ.set j (.ow (.list ds.dropLast)))
  | _ => none
theorem dx_pop {pn : Pos} (hN : X.N[j]? = some x := by rfl) (hv : Vis X.env.scope x := by first | exact Or.inl rfl | exact Or.inr (Or.inl rfl) | exact Or.inr (Or.inr rfl)) (hd : (x == ("__debug__" : Str)) = false := by decide) (hcd : (x == ("__classdict__" : Str)) = false := by decide)
    (hbase : attributeBase (.Name x pn) "pop" X.env (eval (.Name x pn) X.env) = eval (.Name x pn) X.env := by rfl) (hline : (apos.endLine == p.line) = true := by rfl) :
    DX X (.Call (.Attribute (.Name x pn) "pop" apos) [] [] p) (tBM0 X.K "list" rPop (tVar j)) (xPop j) :=
  ⟨pe_bm0 PySem.F.plainAttrs_list PySem.F.slot_list_pop PySem.F.type_list_pop mt_pop (pe_var hN hv hd hcd) hbase hline, fun B F H σ ρ ρ' d Q r hf q => by
    unfold xPop at hf
    split at hf
    · rename_i ds e1
      obtain ⟨d', e2, e3⟩ := Option.map_eq_some_iff.mp hf
      cases e3
      obtain ⟨a, vs, h1, h2, h3, h4, h5⟩ := r.own e1
      obtain ⟨v, h6, h7⟩ := h5.get e2
      refine ⟨_, h1, tyL h4, a, vs, v, rfl, rfl, h4, by rw [h5.length]; exact h6, ?_⟩
      exact q v F _ (r.write e1 h1 h2 h3 ⟨vs.dropLast, upd_same, h5.dropLast⟩) (.refl _) h7
    · cases hf⟩
def xPopAt (j : Nat) (f : Rho → Option D) : Rho → Option (D × Rho) := fun ρ => match ρ[j]? with
  | some (.ow (.list ds)) => (f ρ).bind fun i => match i with
    | .int i => if -(2 ^ 63) ≤ i ∧ i < 2 ^ 63 then (seqIndex? i ds.length).bind fun k => (ds[k]?).map fun d => (d, ρ.set j (.ow (.list (ds.eraseIdx k)))) else none
    | _ => none
  | _ => none
theorem dx_popAt {pn : Pos} (he : DE X m e te f) (hN : X.N[j]? = some x := by rfl) (hv : Vis X.env.scope x := by first | exact Or.inl rfl | exact Or.inr (Or.inl rfl) | exact Or.inr (Or.inr rfl)) (hd : (x == ("__debug__" : Str)) = false := by decide) (hcd : (x == ("__classdict__" : Str)) = false := by decide)
    (hbase : attributeBase (.Name x pn) "pop" X.env (eval (.Name x pn) X.env) = eval (.Name x pn) X.env := by rfl)
    (hfew : ((backTo p (starEach [e] X.env)).all (fun x => !x.1) && (backToKw p (keywordEach [] X.env)).all (fun x => x.1.isSome)
      && decide ([e].length + ([] : List Keyword).length + (if ([] : List Keyword).isEmpty then 0 else 1) < 30)) = true := by rfl)
    (hline : (apos.endLine == p.line) = true := by rfl) (hs : starEach [e] X.env = (false, eval e X.env) :: starEach [] X.env := by rfl) :
    DX X (.Call (.Attribute (.Name x pn) "pop" apos) [e] [] p) (tBM X.K "list" rPopAt (tVar j) (tCons te tNil)) (xPopAt j f) :=
  ⟨pe_bm PySem.F.plainAttrs_list PySem.F.slot_list_pop PySem.F.type_list_pop mt_popAt (pe_var hN hv hd hcd) (pa_cons he.p pa_nil hs) hbase hfew hline hs rfl, fun B F H σ ρ ρ' d Q r hf q => by
    unfold xPopAt at hf
    split at hf
    · rename_i ds e1
      obtain ⟨i, e2, e3⟩ := bind_some hf
      obtain ⟨a, vs, h1, h2, h3, h4, h5⟩ := r.own e1
      refine ⟨_, h1, tyL h4, ?_⟩
      refine he.s B F H σ ρ i _ r e2 fun v F1 H1 x1 r1 => ?_
      cases i with
      | int i =>
        have e3' : (if -(2 ^ 63) ≤ i ∧ i < 2 ^ 63 then (seqIndex? i ds.length).bind fun k => (ds[k]?).map fun d => (d, ρ.set j (.ow (.list (ds.eraseIdx k)))) else none) = some (d, ρ') := e3
        by_cases hb : -(2 ^ 63) ≤ i ∧ i < 2 ^ 63
        · rw [if_pos hb] at e3'
          obtain ⟨k, e4, e5⟩ := bind_some e3'
          obtain ⟨d', e6, e7⟩ := Option.map_eq_some_iff.mp e5
          cases e7
          obtain ⟨w, h6, h7⟩ := h5.get e6
          have h8 := x1.h _ _ h4
          have hF1 : F1 a = none := x1.keepNone h2 (by rw [h4]; exact fun z => nomatch z)
          refine ⟨a, vs, i, k, w, rfl, by rw [r1.int], h8, hb.1, hb.2, by rw [h5.length]; exact e4, h6, ?_⟩
          exact q w F1 _ ((r.ext x1).write e1 h1 hF1 h3 ⟨vs.eraseIdx k, upd_same, (h5.mono x1.f).eraseIdx k⟩) x1.f (h7.mono x1.f)
        · rw [if_neg hb] at e3'; cases e3'
      | _ => cases e3
    · cases hf⟩
variable {fx : Rho → Option (D × Rho)}
/-- x = (an expression with an effect) -/
def bAsgX (i : Nat) (f : Rho → Option (D × Rho)) : Bd := fun ρ => (f ρ).bind fun z => some (.nx (z.2.set i (.im z.1)))
theorem sem_asgX {K : PySem.W.Frag} {i : Nat} (h : SemX K te fx) : SemS K m [i] (tAsg te (gName i)) (bAsgX i fx) := by
  intro B F H σ ρ o D r hb q
  obtain ⟨⟨d, ρ'⟩, h1, h2⟩ := bind_some hb
  cases h2
  exact h B F H σ ρ ρ' d _ r h1 fun v F1 H1 r1 _ rv => q _ F1 H1 (r1.setIm rv) set_keep
theorem ds_asgX {i : Nat} {x : Str} {pos' : Pos} (he : DX X e te fx) (hN : X.N.Nodup) (hi : X.N[i]? = some x := by rfl) (hx : Loc X.env.scope x := by first | exact Or.inl rfl | exact Or.inr rfl) (hs : swapsWith e (some (.Name x pos')) pos.line X.env = pure false := by rfl)
    (hf : X.fn x = true ∨ X.env.scope.names.lookup x = some .local := by first | exact .inl rfl | exact .inr rfl) : DS X m [i] (.Assign [.Name x pos'] e pos) (tAsg te (gName i)) (bAsgX i fx) := ⟨ps_set hN hi hx he.p hs hf, sem_asgX he.s⟩
/-- y.append(an expression with an effect) -/
def bAppX (j : Nat) (f : Rho → Option (D × Rho)) : Bd := fun ρ => (f ρ).bind fun z => match ρ[j]?, z.2[j]? with
  | some (.ow (.list _)), some (.ow (.list ds)) => if ds.length < sizeLine then some (.nx (z.2.set j (.ow (.list (ds ++ [z.1]))))) else none
  | _, _ => none
theorem sem_appX {K : PySem.W.Frag} (h : SemX K te fx) : SemS K m [] (tDrop (tBM K "list" rAppend (tVar j) (tCons te tNil))) (bAppX j fx) := by
  intro B F H σ ρ o D r hb q
  obtain ⟨⟨d, ρ'⟩, h1, h2⟩ := bind_some hb
  simp only at h2
  split at h2
  · rename_i ds0 ds e0 e1
    obtain ⟨hl, rfl⟩ := if_some h2
    obtain ⟨a, vs0, g1, g2, g3, g4, g5⟩ := r.own e0
    refine ⟨_, g1, tyL g4, ?_⟩
    refine h B F H σ ρ ρ' d _ r h1 fun v F1 H1 r1 s1 rv => ?_
    obtain ⟨a', vs, k1, k2, k3, k4, k5⟩ := r1.own e1
    rw [g1] at k1
    cases k1
    refine ⟨a, vs, v, rfl, rfl, k4, by rw [k5.length]; exact hl, ?_⟩
    exact q σ F1 _ (r1.write e1 g1 k2 k3 ⟨vs ++ [v], upd_same, k5.append (.cons rv .nil)⟩) fun _ _ => rfl
  · cases h2
theorem ds_appX {pn : Pos} (he : DX X e te fx) (hN : X.N[j]? = some x := by rfl) (hv : Vis X.env.scope x := by first | exact Or.inl rfl | exact Or.inr (Or.inl rfl) | exact Or.inr (Or.inr rfl)) (hd : (x == ("__debug__" : Str)) = false := by decide) (hcd : (x == ("__classdict__" : Str)) = false := by decide)
    (hbase : attributeBase (.Name x pn) "append" X.env (eval (.Name x pn) X.env) = eval (.Name x pn) X.env := by rfl)
    (hfew : ((backTo p (starEach [e] X.env)).all (fun x => !x.1) && (backToKw p (keywordEach [] X.env)).all (fun x => x.1.isSome)
      && decide ([e].length + ([] : List Keyword).length + (if ([] : List Keyword).isEmpty then 0 else 1) < 30)) = true := by rfl)
    (hline : (apos.endLine == p.line) = true := by rfl) (hs : starEach [e] X.env = (false, eval e X.env) :: starEach [] X.env := by rfl) (hsw : swapsWith (.Call (.Attribute (.Name x pn) "append" apos) [e] [] p) none pos.line X.env = pure false := by rfl) :
    DS X m [] (.Expr (.Call (.Attribute (.Name x pn) "append" apos) [e] [] p) pos) (tDrop (tBM X.K "list" rAppend (tVar j) (tCons te tNil))) (bAppX j fx) :=
  ⟨ps_expr (pe_bm PySem.F.plainAttrs_list PySem.F.slot_list_append PySem.F.type_list_append mt_append (pe_var hN hv hd hcd) (pa_cons he.p pa_nil hs) hbase hfew hline hs rfl) hsw, sem_appX he.s⟩
/-- y.append(x), x owned: frozen first -/
def bAppMv (j i : Nat) : Bd := fun ρ => match ρ[j]?, ρ[i]? with
  | some (.ow (.list ds)), some (.ow d) => if i ≠ j ∧ ds.length < sizeLine then some (.nx ((ρ.set i (.im d)).set j (.ow (.list (ds ++ [d]))))) else none
  | some (.ow (.list ds)), some (.im d) => if ds.length < sizeLine then some (.nx (ρ.set j (.ow (.list (ds ++ [d]))))) else none
  | _, _ => none
theorem sem_appMv {K : PySem.W.Frag} {i : Nat} : SemS K m [] (tDrop (tBM K "list" rAppend (tVar j) (tCons (tVar i) tNil))) (bAppMv j i) := by
  intro B F H σ ρ o D r hb q
  unfold bAppMv at hb
  split at hb
  · rename_i ds d e0 e1
    obtain ⟨⟨hij, hl⟩, rfl⟩ := if_some hb
    obtain ⟨a, vs, h1, h2, h3, h4, h5⟩ := r.own e0
    obtain ⟨F', v, s1, g1, g2, r2⟩ := r.freeze e1
    have e0' : (ρ.set i (.im d))[j]? = some (.ow (.list ds)) := by rw [List.getElem?_set_ne hij]; exact e0
    obtain ⟨a', vs', k1, k2, k3, k4, k5⟩ := r2.own e0'
    rw [h1] at k1
    cases k1
    refine ⟨_, h1, tyL h4, v, g1, a, vs', v, rfl, rfl, k4, by rw [k5.length]; exact hl, ?_⟩
    exact q σ F' _ (r2.write e0' h1 k2 k3 ⟨vs' ++ [v], upd_same, k5.append (.cons g2 .nil)⟩) fun _ _ => rfl
  · rename_i ds d e0 e1
    obtain ⟨hl, rfl⟩ := if_some hb
    obtain ⟨a, vs, h1, h2, h3, h4, h5⟩ := r.own e0
    obtain ⟨oo, g1, v, rfl, g2⟩ := r.at e1
    refine ⟨_, h1, tyL h4, v, g1, a, vs, v, rfl, rfl, h4, by rw [h5.length]; exact hl, ?_⟩
    exact q σ F _ (r.write e0 h1 h2 h3 ⟨vs ++ [v], upd_same, h5.append (.cons g2 .nil)⟩) fun _ _ => rfl
  · cases hb
theorem ds_appMv {i : Nat} {y : Str} {pn pm : Pos} (hN : X.N[j]? = some x := by rfl) (hv : Vis X.env.scope x := by first | exact Or.inl rfl | exact Or.inr (Or.inl rfl) | exact Or.inr (Or.inr rfl)) (hd : (x == ("__debug__" : Str)) = false := by decide) (hcd : (x == ("__classdict__" : Str)) = false := by decide)
    (hNi : X.N[i]? = some y := by rfl) (hvi : Vis X.env.scope y := by first | exact Or.inl rfl | exact Or.inr (Or.inl rfl) | exact Or.inr (Or.inr rfl)) (hdi : (y == ("__debug__" : Str)) = false := by decide) (hcdi : (y == ("__classdict__" : Str)) = false := by decide)
    (hbase : attributeBase (.Name x pn) "append" X.env (eval (.Name x pn) X.env) = eval (.Name x pn) X.env := by rfl)
    (hfew : ((backTo p (starEach [.Name y pm] X.env)).all (fun x => !x.1) && (backToKw p (keywordEach [] X.env)).all (fun x => x.1.isSome)
      && decide ([Expr.Name y pm].length + ([] : List Keyword).length + (if ([] : List Keyword).isEmpty then 0 else 1) < 30)) = true := by rfl)
    (hline : (apos.endLine == p.line) = true := by rfl) (hs : starEach [.Name y pm] X.env = (false, eval (.Name y pm) X.env) :: starEach [] X.env := by rfl) (hsw : swapsWith (.Call (.Attribute (.Name x pn) "append" apos) [.Name y pm] [] p) none pos.line X.env = pure false := by rfl) :
    DS X m [] (.Expr (.Call (.Attribute (.Name x pn) "append" apos) [.Name y pm] [] p) pos) (tDrop (tBM X.K "list" rAppend (tVar j) (tCons (tVar i) tNil))) (bAppMv j i) :=
  ⟨ps_expr (pe_bm PySem.F.plainAttrs_list PySem.F.slot_list_append PySem.F.type_list_append mt_append (pe_var hN hv hd hcd) (pa_cons (pe_var hNi hvi hdi hcdi) pa_nil hs) hbase hfew hline hs rfl) hsw, sem_appMv⟩
/-! x[i] = e -/
def bSet (j : Nat) (fi f : Rho → Option D) : Bd := fun ρ => (f ρ).bind fun d => match ρ[j]? with
  | some (.ow (.list ds)) => (fi ρ).bind fun i => match i with
    | .int i => (ixN ds.length i).bind fun k => some (.nx (ρ.set j (.ow (.list (ds.set k d)))))
    | _ => none
  | _ => none
theorem sem_set {K : PySem.W.Frag} {ti : TE} {fi : Rho → Option D} (h : SemE K .fz te f) (hi : SemE K m1 ti fi) : SemS K m [] (tAsg te (gSub (tVar j) ti rSetL)) (bSet j fi f) := by
  intro B F H σ ρ o D r hb q
  obtain ⟨d, h1, h2⟩ := bind_some hb
  split at h2
  · rename_i ds e1
    obtain ⟨i, h3, h4⟩ := bind_some h2
    refine h B F H σ ρ d _ r h1 fun v F1 H1 x1 r1 => ?_
    obtain ⟨a, vs, g1, g2, g3, g4, g5⟩ := (r.ext x1).own e1
    refine ⟨_, g1, ?_⟩
    refine hi B F1 H1 σ ρ i _ (r.ext x1) h3 fun w F2 H2 x2 r2 => ?_
    cases i with
    | int i =>
      obtain ⟨k, h5, h6⟩ := bind_some h4
      cases h6
      have hF2 : F2 a = none := x2.keepNone g2 (by rw [g4]; exact fun z => nomatch z)
      refine ⟨a, vs, i, k, rfl, r2.int, x2.h _ _ g4, by rw [g5.length]; exact h5, ?_⟩
      exact q σ F2 _ (((r.ext x1).ext x2).write e1 g1 hF2 g3 ⟨vs.set k v, upd_same, (g5.mono x2.f).set k (Rep.mono x2.f r1)⟩) fun _ _ => rfl
    | _ => cases h4
  · cases h2
theorem ds_set {i : Expr} {ti : TE} {fi : Rho → Option D} {pn : Pos} (he : DE X .fz e te f) (hi : DE X m1 i ti fi) (hN : X.N[j]? = some x := by rfl) (hv : Vis X.env.scope x := by first | exact Or.inl rfl | exact Or.inr (Or.inl rfl) | exact Or.inr (Or.inr rfl)) (hd : (x == ("__debug__" : Str)) = false := by decide) (hcd : (x == ("__classdict__" : Str)) = false := by decide)
    (ha : ∀ v, assign (.Subscript (.Name x pn) i p) X.env v = (do
      let ov ← holding [v] (eval (.Name x pn) X.env)
      let iv ← holding [v, ov] (eval i X.env)
      standAt p
      holding [v, ov, iv] (setItem ov iv v)
      release [v, ov, iv] []) := by intro _; rfl) (hs : swapsWithSole [.Subscript (.Name x pn) i p] e pos.line X.env = pure false := by rfl) (hw : swappedStores [.Subscript (.Name x pn) i p] e X.env = pure none := by rfl)
    (h1 : (assignEach [.Subscript (.Name x pn) i p] X.env).map (·.2) = [assign (.Subscript (.Name x pn) i p) X.env] := by rfl) : DS X m [] (.Assign [.Subscript (.Name x pn) i p] e pos) (tAsg te (gSub (tVar j) ti rSetL)) (bSet j fi f) :=
  ⟨ps_asg he.p (pg_sub (pe_var hN hv hd hcd) hi.p set_list ha) hs hw h1, sem_set he.s hi.s⟩
/-! x += e, x a number or a text -/
def augD (op : D → D → Option D) (i : Nat) (f : Rho → Option D) : Bd := fun ρ => match ρ[i]? with
  | some (.im d) => (f ρ).bind fun e => (op d e).bind fun z => some (.nx (ρ.set i (.im z)))
  | _ => none
theorem sem_aug {K : PySem.W.Frag} {i : Nat} {r2 : R2} {g : D → D → Option D} (hs : OpS K .fz r2 g) (h : SemE K m1 te f) : SemS K m [i] (tAug i te r2) (augD g i f) := by
  intro B F H σ ρ o D r hb q
  unfold augD at hb
  split at hb
  · rename_i d e1
    obtain ⟨e, h1, h2⟩ := bind_some hb
    obtain ⟨z, h3, h4⟩ := bind_some h2
    cases h4
    obtain ⟨oo, g1, v, rfl, g2⟩ := r.at e1
    refine ⟨v, g1, ?_⟩
    refine h B F H σ ρ e _ r h1 fun w F1 H1 x1 r1 => ?_
    exact hs F1 H1 H H v w d e z _ x1.s (Or.inl (g2.mono x1.f)) r1.any h3 fun u F2 H2 x2 r3 => q _ F2 H2 (((r.ext x1).ext x2).setIm r3) set_keep
  · cases hb
def addS : D → D → Option D
  | .int i, .int j => some (.int (i + j))
  | .str a, .str b => if a.length + b.length ≤ sizeLine then some (.str (a ++ b)) else none
  | _, _ => none
def rAddS : R2 := fun x y H Q => rI0 (fun i j => .int (i + j)) x y H Q ∨ (∃ i j, x = .str i ∧ y = .str j ∧ i.length + j.length ≤ sizeLine ∧ Q (.str (i ++ j)) H)
theorem iop_addS : OpR X (inplaceOp .Add) rAddS := iop_add.or iop_add_str
theorem ops_addS {K : PySem.W.Frag} : OpS K .fz rAddS addS := by
  intro F H Ha Hb x y d e z Q fh r1 r2 hz q
  cases d with
  | int i =>
    cases e with
    | int j => cases hz; exact .inl ⟨i, j, r1.int, r2.int, q _ F H (.refl fh) (Rep.int _)⟩
    | _ => cases hz
  | str i =>
    cases e with
    | str j =>
      obtain ⟨hl, rfl⟩ := if_some hz
      exact .inr ⟨i, j, r1.str, r2.str, hl, q _ F H (.refl fh) (Rep.str _)⟩
    | _ => cases hz
  | _ => cases hz
theorem ds_augAdd {i : Nat} {pos' : Pos} (he : DE X m1 e te f) (hN : X.N.Nodup) (hi : X.N[i]? = some x := by rfl) (hx : Loc X.env.scope x := by first | exact Or.inl rfl | exact Or.inr rfl)
    (hf : X.fn x = true ∨ X.env.scope.names.lookup x = some .local := by first | exact .inl rfl | exact .inr rfl) : DS X m [i] (.AugAssign (.Name x pos') .Add e pos) (tAug i te rAddS) (augD addS i f) := ⟨ps_aug hN hi hx he.p iop_addS hf, sem_aug ops_addS he.s⟩
theorem ds_augSub {i : Nat} {pos' : Pos} (he : DE X m1 e te f) (hN : X.N.Nodup) (hi : X.N[i]? = some x := by rfl) (hx : Loc X.env.scope x := by first | exact Or.inl rfl | exact Or.inr rfl)
    (hf : X.fn x = true ∨ X.env.scope.names.lookup x = some .local := by first | exact .inl rfl | exact .inr rfl) : DS X m [i] (.AugAssign (.Name x pos') .Sub e pos) (tAug i te (rI0 fun i j => .int (i - j))) (augD subD i f) := ⟨ps_aug hN hi hx he.p iop_sub hf, sem_aug ops_sub he.s⟩
/-- an expression for nothing -/
def bDrop (f : Rho → Option D) : Bd := fun ρ => (f ρ).bind fun _ => some (.nx ρ)
theorem ds_drop (he : DE X m1 e te f) (hs : swapsWith e none pos.line X.env = pure false := by rfl) : DS X m [] (.Expr e pos) (tDrop te) (bDrop f) := ⟨ps_expr he.p hs, fun B F H σ ρ o D r hb q => by
  obtain ⟨d, h1, h2⟩ := bind_some hb
  cases h2
  exact he.s B F H σ ρ d _ r h1 fun v F1 H1 x1 r1 => q σ F1 H1 (r.ext x1) fun _ _ => rfl⟩
theorem ds_doc {z : Str} {k : Nat} {p' : Pos} : DS X m [] (.Expr (.Constant (.str z) k p') pos) tNext bNext := ⟨ps_doc, fun B F H σ ρ o D r hb e => by cases hb; exact e σ F H r fun _ _ => rfl⟩
/-! (*xs, e) -/
def aStar (f : Rho → Option D) (fs : Rho → Option (List D)) : Rho → Option (List D) := fun ρ => (f ρ).bind fun d => (itemsD d).bind fun ds => (fs ρ).bind fun es => some (ds ++ es)
/-- a row with stars: no length known -/
structure DAs (X : Cx) (m : Md) (es : List Expr) (t : TA) (f : Rho → Option (List D)) : Prop where
  p : PA X es t
  s : SemA X.K m t f
variable {es : List Expr} {t : TA} {fs : Rho → Option (List D)}
theorem das_nil : DAs X m [] tNil aNil := ⟨pa_nil, (da_nil (X := X)).s⟩
theorem sem_cons {K : PySem.W.Frag} (ha : SemE K m te f) (hr : SemA K m t fs) : SemA K m (tCons te t) (aCons f fs) := fun B F H σ ρ ds Q rel hf q => by
  obtain ⟨d, h1, h2⟩ := bind_some hf
  obtain ⟨ds', h3, h4⟩ := bind_some h2
  cases h4
  refine ha B F H σ ρ d _ rel h1 fun x F1 H1 x1 r1 => ?_
  exact hr B F1 H1 σ ρ ds' _ (rel.ext x1) h3 fun xs F2 H2 x2 r2 => q _ F2 H2 (x1.trans x2) (.cons (r1.mono x2) (r2.back x1.h))
theorem das_cons (ha : DE X m e te f) (hr : DAs X m es t fs) (hs : starEach (e :: es) X.env = (false, eval e X.env) :: starEach es X.env := by rfl) : DAs X m (e :: es) (tCons te t) (aCons f fs) := ⟨pa_cons ha.p hr.p hs, sem_cons ha.s hr.s⟩
theorem resA_app {K : PySem.W.Frag} {H0 F H : Hp} : ∀ {vs ws : List V} {ds es : List D}, RepA K F vs ds → ResA K .fz H0 F H ws es → ResA K .fz H0 F H (vs ++ ws) (ds ++ es)
  | _, _, _, _, .nil, s => s
  | _, _, _, _, .cons h r, s => .cons (show Res K .fz H0 F H _ _ from h) (resA_app r s)
theorem das_star {p : Pos} (ha : DE X m1 e te f) (hr : DAs X .fz es t fs) (hs : starEach (.Starred e p :: es) X.env = (true, eval e X.env) :: starEach es X.env := by rfl) : DAs X .fz (.Starred e p :: es) (StX.tStar X.K te t) (aStar f fs) :=
  ⟨StX.pa_star ha.p hr.p hs, fun B F H σ ρ ds Q rel hf q => by
    obtain ⟨d, h1, h2⟩ := bind_some hf
    obtain ⟨es', h3, h4⟩ := bind_some h2
    obtain ⟨ds', h5, h6⟩ := bind_some h4
    cases h6
    refine ha.s B F H σ ρ d _ rel h1 fun x F1 H1 x1 r1 => ?_
    obtain ⟨a, xs, rfl, s1, p1⟩ := r1.items x1.s h3
    refine ⟨a, xs, rfl, s1.symm, ?_⟩
    exact hr.s B F1 H1 σ ρ ds' _ (rel.ext x1) h5 fun ys F2 H2 x2 r2 => q _ F2 H2 (x1.trans x2) (resA_app (p1.mono x2.f) (r2.back x1.h))⟩
theorem das_starK (K' : PySem.W.Frag) {p : Pos} (ha : DE X m1 e te f) (hr : DAs X .fz es t fs) (hs : starEach (.Starred e p :: es) X.env = (true, eval e X.env) :: starEach es X.env := by rfl) (hK : X.K = K' := by rfl) : DAs X .fz (.Starred e p :: es) (StX.tStar K' te t) (aStar f fs) := by
  subst hK
  exact das_star (ha := ha) (hr := hr) (hs := hs)
def fTupS (fs : Rho → Option (List D)) : Rho → Option D := fun ρ => (fs ρ).bind fun ds => if ds.length ≤ sizeLine then some (.tuple ds) else none
def fLstS (fs : Rho → Option (List D)) : Rho → Option D := fun ρ => (fs ρ).bind fun ds => if ds.length ≤ sizeLine then some (.list ds) else none
theorem de_tupS {k : Nat} (h : DAs X .fz es t fs) : DE X .fz (.Tuple es k pos) (tTupF t) (fTupS fs) := ⟨pe_tupF h.p, fun B F H σ ρ d Q rel hf q => by
  obtain ⟨ds, h1, h2⟩ := bind_some hf
  obtain ⟨hl, rfl⟩ := if_some h2
  exact h.s B F H σ ρ ds _ rel h1 fun xs F1 H1 x1 r1 => ⟨by rw [r1.length]; exact hl, newT_rep x1 r1.rep q⟩⟩
theorem de_lstS (h : DAs X .fz es t fs) : DE X .fr (.List es pos) (tLst t) (fLstS fs) := ⟨pe_lst h.p, fun B F H σ ρ d Q rel hf q => by
  obtain ⟨ds, h1, h2⟩ := bind_some hf
  obtain ⟨hl, rfl⟩ := if_some h2
  exact h.s B F H σ ρ ds _ rel h1 fun xs F1 H1 x1 r1 => ⟨by rw [r1.length]; exact hl, newL_res x1 r1.rep q⟩⟩
end
end Q
end

/-! part: Q11 -/
section
set_option Elab.async false
set_option linter.all false
set_option maxRecDepth 100000
set_option maxHeartbeats 4000000
set_option autoImplicit false
namespace Q
open PySem PySem.Spec PySem.Calls PyProof.Rows L2
/-! ### x, y = a, b -/
section
variable {X : Cx} {m m1 : Md} {a b c e : Expr} {te : TE} {f : Rho → Option D} {ta : TA} {fs : Rho → Option (List D)} {p p2 pos px py pz pt : Pos} {kt k2 : Nat} {pt2 : Pos} {x y z : Str}
def bPar (i j : Nat) (fs : Rho → Option (List D)) : Bd := fun ρ => (fs ρ).bind fun ds => match ds with
  | [d, e] => some (.nx ((ρ.set i (.im d)).set j (.im e)))
  | _ => none
def bPar3 (i j l : Nat) (fs : Rho → Option (List D)) : Bd := fun ρ => (fs ρ).bind fun ds => match ds with
  | [d, e, g] => some (.nx (((ρ.set i (.im d)).set j (.im e)).set l (.im g)))
  | _ => none
theorem sem_par {K : PySem.W.Frag} {i j : Nat} (h : SemA K .fz ta fs) : SemS K m [i, j] (tPar i j ta) (bPar i j fs) := by
  intro B F H σ ρ o D r hb q
  obtain ⟨ds, h1, h2⟩ := bind_some hb
  match ds, h1, h2 with
  | [d, e], h1, h2 =>
    cases h2
    refine h B F H σ ρ _ _ r h1 fun vs F1 H1 x1 r1 => ?_
    obtain ⟨v, w, rfl, r2, r3⟩ := resA2 r1
    refine ⟨v, w, rfl, q _ F1 H1 (((r.ext x1).setIm r2).setIm r3) fun k hk => ?_⟩
    have h4 : k ≠ i ∧ k ≠ j := by simpa using hk
    rw [List.getElem?_set_ne (Ne.symm h4.2), List.getElem?_set_ne (Ne.symm h4.1)]
theorem resA3 {K : PySem.W.Frag} {m : Md} {H0 F H : Hp} {vs : List V} {d e g : D} (h : ResA K m H0 F H vs [d, e, g]) : ∃ u v w, vs = [u, v, w] ∧ Res K m H0 F H u d ∧ Res K m H0 F H v e ∧ Res K m H0 F H w g := by
  cases h with
  | cons h1 r => cases r with
    | cons h2 r => cases r with
      | cons h3 r => cases r; exact ⟨_, _, _, rfl, h1, h2, h3⟩
theorem sem_par3 {K : PySem.W.Frag} {i j l : Nat} (h : SemA K .fz ta fs) : SemS K m [i, j, l] (tPar3 i j l ta) (bPar3 i j l fs) := by
  intro B F H σ ρ o D r hb q
  obtain ⟨ds, h1, h2⟩ := bind_some hb
  match ds, h1, h2 with
  | [d, e, g], h1, h2 =>
    cases h2
    refine h B F H σ ρ _ _ r h1 fun vs F1 H1 x1 r1 => ?_
    obtain ⟨u, v, w, rfl, r2, r3, r4⟩ := resA3 r1
    refine ⟨u, v, w, rfl, q _ F1 H1 ((((r.ext x1).setIm r2).setIm r3).setIm r4) fun k hk => ?_⟩
    have h4 : k ≠ i ∧ k ≠ j ∧ k ≠ l := by simpa using hk
    rw [List.getElem?_set_ne (Ne.symm h4.2.2), List.getElem?_set_ne (Ne.symm h4.2.1), List.getElem?_set_ne (Ne.symm h4.1)]
theorem ds_par {i j : Nat} (ha : DA X .fz [a, b] ta fs) (hN : X.N.Nodup) (hi : X.N[i]? = some x := by rfl) (hj : X.N[j]? = some y := by rfl) (hij : i ≠ j := by decide)
    (hx : X.env.scope.names.lookup x = some .local := by rfl) (hy : X.env.scope.names.lookup y = some .local := by rfl)
    (hw : swappedStores [.Tuple [.Name x px, .Name y py] kt pt] (.Tuple [a, b] k2 pt2) X.env = pure (some [x, y]) := by rfl)
    (hs : swapsWithSole [.Tuple [.Name x px, .Name y py] kt pt] (.Tuple [a, b] k2 pt2) pos.line X.env = pure false := by rfl) (hc : X.calm = true := by rfl) :
    DS X m [i, j] (.Assign [.Tuple [.Name x px, .Name y py] kt pt] (.Tuple [a, b] k2 pt2) pos) (tPar i j ta) (bPar i j fs) := ⟨ps_par hc hN hi hj hij hx hy ha.p hw hs, sem_par ha.s⟩
theorem ds_par3 {i j l : Nat} (ha : DA X .fz [a, b, c] ta fs) (hN : X.N.Nodup) (hi : X.N[i]? = some x := by rfl) (hj : X.N[j]? = some y := by rfl) (hl : X.N[l]? = some z := by rfl) (hij : i ≠ j := by decide) (hil : i ≠ l := by decide) (hjl : j ≠ l := by decide)
    (hx : X.env.scope.names.lookup x = some .local := by rfl) (hy : X.env.scope.names.lookup y = some .local := by rfl) (hz : X.env.scope.names.lookup z = some .local := by rfl)
    (hw : swappedStores [.Tuple [.Name x px, .Name y py, .Name z pz] kt pt] (.Tuple [a, b, c] k2 pt2) X.env = pure (some [x, y, z]) := by rfl)
    (hs : swapsWithSole [.Tuple [.Name x px, .Name y py, .Name z pz] kt pt] (.Tuple [a, b, c] k2 pt2) pos.line X.env = pure false := by rfl) (hc : X.calm = true := by rfl) :
    DS X m [i, j, l] (.Assign [.Tuple [.Name x px, .Name y py, .Name z pz] kt pt] (.Tuple [a, b, c] k2 pt2) pos) (tPar3 i j l ta) (bPar3 i j l fs) := ⟨ps_par3 hc hN hi hj hl hij hil hjl hx hy hz ha.p hw hs, sem_par3 ha.s⟩
/-- target = e, the target a tuple of names (or more) -/
def bAsgG (f : Rho → Option D) (s : D → Rho → Option Rho) : Bd := fun ρ => (f ρ).bind fun d => (s d ρ).bind fun ρ' => some (.nx ρ')
theorem ds_asgG {W : List Nat} {tg : Expr} {g : TG} {s : D → Rho → Option Rho} (he : DE X .fz e te f) (hg : DG false X W tg g s) (hs : swapsWithSole [tg] e pos.line X.env = pure false := by rfl) (hw : swappedStores [tg] e X.env = pure none := by rfl)
    (h1 : (assignEach [tg] X.env).map (·.2) = [assign tg X.env] := by rfl) : DS X m W (.Assign [tg] e pos) (tAsg te g) (bAsgG f s) := ⟨ps_asg he.p hg.p hs hw h1, fun B F H σ ρ o D r hb q => by
  obtain ⟨d, e1, e2⟩ := bind_some hb
  obtain ⟨ρ', e3, e4⟩ := bind_some e2
  cases e4
  refine he.s B F H σ ρ d _ r e1 fun v F1 H1 x1 r1 => ?_
  exact hg.s B F1 H1 σ ρ ρ' v d _ (r.ext x1) (.inl r1) e3 fun σ' r' k' _ => q σ' F1 H1 r' k'⟩
/-! ### len(set(xs)), ints -/
def dedupI : List Int → List Int
  | [] => []
  | n :: ns => if n ∈ ns then dedupI ns else n :: dedupI ns
theorem dedupI_mem (k : Int) : ∀ ns : List Int, k ∈ dedupI ns ↔ k ∈ ns
  | [] => by simp [dedupI]
  | n :: ns => by
    unfold dedupI
    by_cases h : n ∈ ns
    · rw [if_pos h, dedupI_mem k ns, List.mem_cons]
      exact ⟨.inr, fun z => z.elim (fun e => e ▸ h) id⟩
    · rw [if_neg h, List.mem_cons, List.mem_cons, dedupI_mem k ns]
theorem dedupI_nodup : ∀ ns : List Int, (dedupI ns).Nodup
  | [] => by simp [dedupI]
  | n :: ns => by
    unfold dedupI
    by_cases h : n ∈ ns
    · rw [if_pos h]; exact dedupI_nodup ns
    · rw [if_neg h, List.nodup_cons]; exact ⟨fun z => h ((dedupI_mem n ns).mp z), dedupI_nodup ns⟩
theorem dedup_len {l ns : List Int} (h : l.Nodup) (hm : ∀ k, k ∈ l ↔ k ∈ ns) : l.length = (dedupI ns).length :=
  ((List.perm_ext_iff_of_nodup h (dedupI_nodup ns)).mpr fun k => (hm k).trans (dedupI_mem k ns).symm).length_eq
theorem firstMet_all (f : Nat → Int) : ∀ i, (firstMet f i).Nodup ∧ ∀ k, k ∈ firstMet f i ↔ ∃ j, j < i ∧ f j = k
  | 0 => ⟨by simp [firstMet_zero], fun k => by simp [firstMet_zero]⟩
  | i + 1 => by
    obtain ⟨h1, h2⟩ := firstMet_all f i
    have key : ∀ k, (∃ j, j < i + 1 ∧ f j = k) ↔ (∃ j, j < i ∧ f j = k) ∨ f i = k := fun k => by
      constructor
      · rintro ⟨j, hj, e⟩
        by_cases z : j = i
        · subst z; exact .inr e
        · exact .inl ⟨j, by omega, e⟩
      · rintro (⟨j, hj, e⟩ | e)
        · exact ⟨j, by omega, e⟩
        · exact ⟨i, by omega, e⟩
    rw [firstMet_succ]
    unfold step_dedup
    cases hb : (firstMet f i).any (· == f i) with
    | true =>
      obtain ⟨y, hy, ey⟩ := List.any_eq_true.mp hb
      have ey2 : y = f i := eq_of_beq ey
      subst ey2
      refine ⟨by simpa using h1, fun k => ?_⟩
      rw [key, ← h2 k]
      simp only [if_true]
      exact ⟨.inl, fun z => z.elim id fun e => e ▸ hy⟩
    | false =>
      have hn : f i ∉ firstMet f i := fun z => by
        have : (firstMet f i).any (· == f i) = true := List.any_eq_true.mpr ⟨_, z, by simp⟩
        rw [hb] at this; cases this
      simp only [Bool.false_eq_true, if_false]
      refine ⟨?_, fun k => ?_⟩
      · rw [List.nodup_append]
        exact ⟨h1, by simp, fun a ha b hb e => by
          have hb' : b = f i := by simpa using hb
          subst hb'; subst e; exact hn ha⟩
      · rw [key, ← h2 k, List.mem_append, List.mem_singleton]
        exact ⟨fun z => z.imp id fun e => e.symm, fun z => z.imp id fun e => e.symm⟩
theorem firstMet_len (ns : List Int) : (firstMet (fun i => ns.getD i 0) ns.length).length = (dedupI ns).length := by
  obtain ⟨h1, h2⟩ := firstMet_all (fun i => ns.getD i 0) ns.length
  refine dedup_len h1 fun k => (h2 k).trans ?_
  constructor
  · rintro ⟨j, hj, e⟩
    rw [List.getD_eq_getElem?_getD, List.getElem?_eq_getElem hj] at e
    have e' : ns[j] = k := e
    exact e' ▸ List.getElem_mem hj
  · intro h
    obtain ⟨j, hj, e⟩ := List.mem_iff_getElem.mp h
    exact ⟨j, hj, by show ns.getD j 0 = k; rw [List.getD_eq_getElem?_getD, List.getElem?_eq_getElem hj]; exact e⟩
def tLenSetA (K : PySem.W.Frag) (ta : TE) : TE := fun σ H Q => ta σ H fun x H1 => ∃ (l : Addr) (ns : List Int), x = .ref l ∧ SqA K H1 l (ns.map V.int) ∧ ns.length ≤ 4000 ∧ Q (.int ((dedupI ns).length : Nat)) H1
theorem pe_lenSetA {a : Expr} {ta : TE} {p p2 q pos : Pos} (hg : Gl X "len") (hm : X.mg "len" = none) (hg2 : Gl X "set") (hm2 : X.mg "set" = none) (ha : PE X a ta) (hc : X.calm = true := by rfl)
    (na : starEach [a] X.env = (false, eval a X.env) :: starEach [] X.env := by rfl) : PE X (.Call (.Name "len" p) [.Call (.Name "set" p2) [a] [] q] [] pos) (tLenSetA X.K ta) := by
  refine ⟨fun pins s σ H Q I h => ?_⟩
  refine Call_ (ld_blt I hg hm PySem.boot_len ?_)
  refine PyProof.Rows.callWith_builtin1 (PyProof.Rows.args_cons ?_ rfl) rfl rfl
  refine Call_ (ld_blt I hg2 hm2 PyProof.Rows.boot_set ?_)
  refine PyProof.Rows.callWith_type1 (PyProof.Rows.args_cons (thn (ha.run pins s σ H _ I h) fun v s1 ⟨x, H1, I1, r1, q1⟩ => PyProof.Rows.args_nil ?_) na) na rfl
  obtain ⟨l, ns, rfl, hq, hl, q1⟩ := q1
  cases r1
  rcases hq with hq | hq
  · obtain ⟨its, r, pl, hz⟩ := I1.list hq
    have hlen : its.toArray.size = ns.length := by rw [List.size_toArray, ← r.length, List.length_map]
    refine call_set_list (I1.ok.hd hc) pl.isList (by simpa using RZ.intsAre_vals r) (by rw [hlen]; unfold scanBound; omega) fun h' tk hS hk => ?_
    refine PyProof.Rows.args_nil ?_
    rw [hlen, firstMet_len] at hS
    obtain ⟨o, es, ep, t, ho, hex, hd, _, _, _, hf, hn⟩ := hS
    have hle : (dedupI ns).length ≤ 4000 := by
      rw [← firstMet_len]
      exact Nat.le_trans (firstMet_length_le _ _) hl
    have I2 : Inv X pins σ H1 { s1 with heap := h', toks := tk } := I1.kept fun b o e => hk b o (Heap.lt_size e) e
    exact call_len_set ho hex hd hf (by rw [hn] <;> omega) ⟨.int (dedupI ns).length, H1, I2.tok _, ⟨_, by rw [hn]⟩, q1⟩
  · obtain ⟨its, r, pl, hz⟩ := I1.tuple hq
    refine call_set_tupI ns (I1.ok.hd hc) pl (by simpa using RZ.intsAre_vals r) (by unfold scanBound; omega) fun h' tk c hS hcl hk => ?_
    refine PyProof.Rows.args_nil ?_
    obtain ⟨o, es, ep, t, ho, hex, hd, _, nd, hmm, hb, hf, hn, _⟩ := hS
    have e1 : es.size = (dedupI ns).length := by
      have := dedup_len nd fun k => ((hmm k).symm.trans (by simp) : k ∈ es.toList.map keyOf ↔ k ∈ ns)
      simpa using this
    have I2 : Inv X pins σ H1 { s1 with heap := h', toks := tk } := I1.kept fun b o e => hk b o e
    exact call_len_set ho hex hd hf (by rw [hn] <;> omega) ⟨.int (dedupI ns).length, H1, I2.tok _, ⟨_, by rw [e1]⟩, q1⟩
def fLenSet (f : Rho → Option D) : Rho → Option D := fun ρ => (f ρ).bind fun d => (itemsD d).bind fun ds => (intsOf ds).bind fun ns => if ns.length ≤ 4000 then some (.int ((dedupI ns).length : Nat)) else none
theorem de_lenSet {a : Expr} {fa : Rho → Option D} {p p2 q pos : Pos} (hg : Gl X "len") (hm : X.mg "len" = none) (hg2 : Gl X "set") (hm2 : X.mg "set" = none) (ha : DE X m1 a te fa) (hc : X.calm = true := by rfl)
    (na : starEach [a] X.env = (false, eval a X.env) :: starEach [] X.env := by rfl) : DE X .fz (.Call (.Name "len" p) [.Call (.Name "set" p2) [a] [] q] [] pos) (tLenSetA X.K te) (fLenSet fa) :=
  ⟨pe_lenSetA hg hm hg2 hm2 ha.p hc na, fun B F H σ ρ z Q r hf q => by
    obtain ⟨d, h1, h2⟩ := bind_some hf
    obtain ⟨ds, h3, h4⟩ := bind_some h2
    obtain ⟨ns, h5, h6⟩ := bind_some h4
    obtain ⟨h7, rfl⟩ := if_some h6
    refine ha.s B F H σ ρ d _ r h1 fun v F1 H1 x1 r1 => ?_
    obtain ⟨a, xs, rfl, s1, p1⟩ := r1.items x1.s h3
    cases intsOf_map h5
    refine ⟨a, ns, rfl, ?_, h7, q _ F1 H1 x1 (Rep.int _)⟩
    rw [← p1.ints]
    exact s1⟩
theorem de_lenSetK (K' : PySem.W.Frag) {a : Expr} {fa : Rho → Option D} {p p2 q pos : Pos} (hg : Gl X "len") (hm : X.mg "len" = none) (hg2 : Gl X "set") (hm2 : X.mg "set" = none) (ha : DE X m1 a te fa) (hc : X.calm = true := by rfl) (na : starEach [a] X.env = (false, eval a X.env) :: starEach [] X.env := by rfl) (hK : X.K = K' := by rfl) : DE X .fz (.Call (.Name "len" p) [.Call (.Name "set" p2) [a] [] q] [] pos) (tLenSetA K' te) (fLenSet fa) := by
  subst hK
  exact de_lenSet (hg := hg) (hm := hm) (hg2 := hg2) (hm2 := hm2) (ha := ha) (hc := hc) (na := na)
/-! ### a tuple times an int -/
def rRepF (K : PySem.W.Frag) : R2 := fun x y H Q => ∃ l k xs, x = .ref l ∧ y = .int k ∧ SqT K H l xs ∧ xs ≠ [] ∧ 2 ≤ k ∧ k ≤ 1000 ∧ xs.length ≤ 1000 ∧ NewT (List.replicate k.toNat xs).flatten H Q
theorem op_repF : OpR X (binaryOp .Mult) (rRepF X.K) := by
  intro pins s σ H x y v u Q I rx ry h
  obtain ⟨l, k, xs, rfl, rfl, hT, hne, h1, h2, hz, q⟩ := h
  cases rx
  obtain ⟨t, rfl⟩ := ry
  obtain ⟨its, r, ⟨⟨cls, dd, data, sl⟩, ho, hc, n, hd⟩, hs⟩ := I.tuple hT
  simp only at hc hd
  subst hc hd
  have hle : its.length = xs.length := r.length.symm
  have hn : its ≠ [] := fun e => hne (by
    rw [e] at hle
    exact List.eq_nil_of_length_eq_zero hle.symm)
  have hi : its.toArray.isEmpty = false := by
    cases its with
    | nil => exact absurd rfl hn
    | cons a b => rfl
  have hsz0 : its.toArray.size = xs.length := by rw [List.size_toArray, hle]
  have hm : ((its.toArray.size : Nat) : Int) * k ≤ 1000000 := by
    rw [hsz0]
    have a1 : ((xs.length : Nat) : Int) * k ≤ 1000 * k := Int.mul_le_mul_of_nonneg_right (by omega) (by omega)
    omega
  have flen : (List.replicate k.toNat its).flatten.length ≤ sizeLine := by
    rw [PyProof.Rows.lm_len_rep_flat, hle, sizeLine_eq]
    have a1 : k.toNat * xs.length ≤ 1000 * 1000 := Nat.mul_le_mul (by omega) hz
    omega
  have c0 : (decide (k < -(2 ^ 63)) || decide (k ≥ 2 ^ 63)) = false := by
    rw [decide_eq_false (by omega), decide_eq_false (by omega)] <;> rfl
  have c1 : (its.toArray.isEmpty || k == 1) = false := by
    rw [hi, Bool.false_or]
    exact beq_eq_false_iff_ne.mpr (by omega)
  have c2 : (decide (k ≤ 0) || its.toArray.isEmpty) = false := by
    rw [hi, Bool.or_false]
    exact decide_eq_false (by omega)
  have c4 : Builtin.Tuple.tupleTooMany (((its.toArray.size : Nat) : Int) * k) = false := by
    unfold Builtin.Tuple.tupleTooMany
    rw [sizeLine_eq]
    exact decide_eq_false (by omega)
  refine wpAny_binaryOp_repeat_ref (T := "tuple") (U := "int") (by decide) ⟨_, ho, rfl⟩ (fun s' => typeIs_int s' k t) noFill_tuple_mul PySem.F.fills_int_mul PySem.F.slot_int_rmul repeat_tuple PySem.F.slot_int_index.lookup
    (call_meets PySem.F.slot_int_rmul (typeIs_int s k t) PySem.F.entry_int_rmul (PySem.F.args_int_rmul_2 _ _) (int_rmul_tuple k t l its.toArray n dd sl)
      ⟨ho, rfl, ⟨_, ho, rfl⟩, call_meets PySem.F.slot_tuple_mul ⟨_, ho, rfl⟩ PySem.F.entry_tuple_mul (PySem.F.args_tuple_mul_2 _ _) (tuple_mulW l its.toArray n dd sl k t c0 c1 c2 (by omega) c4 (by rw [size_rep, List.size_toArray]; exact flen)) ⟨ho, ?_⟩⟩)
  rw [size_rep]
  refine ⟨.ref s.heap.objs.size, _, I.laidT (t' := s.toks) (r.rep k.toNat) (by rw [PyProof.Rows.lm_len_rep_flat, sizeLine_eq]; have a1 : k.toNat * xs.length ≤ 1000 * 1000 := Nat.mul_le_mul (by omega) hz; omega), rfl, q _ _ (I.hok.fresh (Nat.le_refl _)) rfl rfl⟩
theorem op_repFK (K' : PySem.W.Frag) (hK : X.K = K' := by rfl) : OpR X (binaryOp .Mult) (rRepF K') := by
  subst hK
  exact op_repF 
theorem RepA.rep {K : PySem.W.Frag} {F : Hp} {vs : List V} {ds : List D} (r : RepA K F vs ds) : ∀ n : Nat, RepA K F (List.replicate n vs).flatten (List.replicate n ds).flatten
  | 0 => .nil
  | n + 1 => by rw [List.replicate_succ, List.replicate_succ, List.flatten_cons, List.flatten_cons]; exact r.append (RepA.rep r n)
def repTD : D → D → Option D
  | .tuple ds, .int k => if ds ≠ [] ∧ 2 ≤ k ∧ k ≤ 1000 ∧ ds.length ≤ 1000 then some (.tuple (List.replicate k.toNat ds).flatten) else none
  | _, _ => none
theorem ops_repT {K : PySem.W.Frag} : OpS K .fz (rRepF K) repTD := by
  intro F H Ha Hb x y d e z Q fh r1 r2 hz q
  match d, e, r1, r2, hz with
  | .tuple ds, .int k, r1, r2, hz =>
    obtain ⟨⟨h1, h2, h3, h4⟩, rfl⟩ := if_some hz
    obtain ⟨a, vs, rfl, s1, p1⟩ := r1.tup fh
    exact ⟨a, k, vs, rfl, r2.int, s1.sq, fun e0 => h1 (by subst e0; cases p1; rfl), h2, h3, by rw [p1.length]; exact h4, newT_rep (.refl fh) (p1.rep _) q⟩
/-! ### a list times an int: a new list -/
def repLD : D → D → Option D
  | .list ds, .int k => if -(2 ^ 63) ≤ k ∧ k < 2 ^ 63 ∧ ds.length * k.toNat ≤ sizeLine then some (.list (List.replicate k.toNat ds).flatten) else none
  | _, _ => none
/-- [..] * e -/
theorem de_repL {es : List Expr} (ha : DE X .fr (.List es p) te f) {tb : TE} {fb : Rho → Option D} (hb : DE X m1 b tb fb) : DE X .fr (.BinOp (.List es p) .Mult b pos) (tOp rRep te tb) (f2 repLD f fb) :=
  ⟨pe_op op_rep ha.p hb.p, fun B F H σ ρ z Q r hf q => by
    obtain ⟨d, h1, h2⟩ := bind_some hf
    obtain ⟨e, h3, h4⟩ := bind_some h2
    refine ha.s B F H σ ρ d _ r h1 fun v F1 H1 x1 r1 => ?_
    refine hb.s B F1 H1 σ ρ e _ (r.ext x1) h3 fun u F2 H2 x2 r2 => ?_
    match d, e, r1, r2, h4 with
    | .list ds, .int k, r1, r2, h4 =>
      obtain ⟨⟨h5, h6, h7⟩, rfl⟩ := if_some h4
      obtain ⟨a, rfl, h0, hf, xs, hH, ra⟩ := r1
      refine ⟨a, k, xs, rfl, r2.int, x2.h _ _ hH, h5, h6, by rw [ra.length]; exact h7, ?_⟩
      exact newL_res (x1.trans x2) ((ra.mono x2.f).rep _) fun v' F' H' x' r' => q v' F' H' x' (r'.back (F1 := F1) (.refl _))⟩
end
end Q
end

/-! part: Q12 -/
section
set_option Elab.async false
set_option linter.all false
set_option maxRecDepth 100000
set_option maxHeartbeats 4000000
set_option autoImplicit false
namespace Q
open PySem PySem.Spec PySem.Calls PyProof.Rows L2
theorem bt_len : bootBuiltins "len" = some (.builtin "len") := by decide +kernel
theorem bt_sorted : bootBuiltins "sorted" = some (.builtin "sorted") := by decide +kernel
theorem bt_sum : bootBuiltins "sum" = some (.builtin "sum") := by decide +kernel
theorem bt_min : bootBuiltins "min" = some (.builtin "min") := by decide +kernel
theorem bt_max : bootBuiltins "max" = some (.builtin "max") := by decide +kernel
theorem bt_abs : bootBuiltins "abs" = some (.builtin "abs") := by decide +kernel
theorem bt_all : bootBuiltins "all" = some (.builtin "all") := by decide +kernel
theorem bt_any : bootBuiltins "any" = some (.builtin "any") := by decide +kernel
theorem bt_isinstance : bootBuiltins "isinstance" = some (.builtin "isinstance") := by decide +kernel
theorem bt_int : bootBuiltins "int" = some (.type "int") := by decide +kernel
theorem bt_bool : bootBuiltins "bool" = some (.type "bool") := by decide +kernel
theorem bt_str : bootBuiltins "str" = some (.type "str") := by decide +kernel
theorem bt_list : bootBuiltins "list" = some (.type "list") := by decide +kernel
theorem bt_tuple : bootBuiltins "tuple" = some (.type "tuple") := by decide +kernel
theorem bt_dict : bootBuiltins "dict" = some (.type "dict") := by decide +kernel
theorem _root_.L2.Room.u64 {k : Nat} {A : Around} (r : Room k A) : A.units + 64 < cLine := r.units
theorem _root_.L2.Room.u65 {k : Nat} {A : Around} (r : Room k A) : A.units + 65 < cLine := by have := r.un; omega
theorem _root_.L2.Room.u70 {k : Nat} {A : Around} (r : Room k A) : A.units + 70 < cLine := by have := r.un; omega
theorem blk_of {N : List Str} {sc scope : Scope} {own : List (Str × Nat)} (h : blkC N sc scope own = true) : blkC N sc scope own = true := h
/-! ### a if t else b as a test; the given rules with the written part named -/
section
variable {X : Cx} {a b c : Expr} {tc ta tb : TT} {fc fa fb : Rho → Option Bool} {pos : Pos}
def tIfT (t a b : TT) : TT := fun σ H Q => t σ H fun c H1 => if c = true then a σ H1 Q else b σ H1 Q
def fIfT (fc fa fb : Rho → Option Bool) : Rho → Option Bool := fun ρ => (fc ρ).bind fun k => if k = true then fa ρ else fb ρ
theorem dt_if (hc : DT X c tc fc) (ha : DT X a ta fa) (hb : DT X b tb fb) : DT X (.IfExp c a b pos) (tIfT tc ta tb) (fIfT fc fa fb) :=
  ⟨⟨fun pins s σ H Q I h => by
    refine PyProof.Rows.isTrue_IfExp (thn (hc.p.run pins s σ H _ I h) fun d s1 ⟨H1, I1, q1⟩ => ?_)
    cases d with
    | true => exact ha.p.run pins s1 σ H1 Q I1 q1
    | false => exact hb.p.run pins s1 σ H1 Q I1 q1⟩, fun B F H σ ρ z Q r hf q => by
    obtain ⟨k, h1, h2⟩ := bind_some hf
    refine hc.s B F H σ ρ k _ r h1 fun F1 H1 x1 => ?_
    cases k with
    | true => exact ha.s B F1 H1 σ ρ z _ (r.ext x1) h2 fun F2 H2 x2 => q F2 H2 (x1.trans x2)
    | false => exact hb.s B F1 H1 σ ρ z _ (r.ext x1) h2 fun F2 H2 x2 => q F2 H2 (x1.trans x2)⟩
theorem op_eqDK (K' : PySem.W.Frag) (hu : X.A.units + 64 < cLine) (hK : X.K = K' := by rfl) : OpR X (compareOp .Eq) (rEqD K') := by
  subst hK; exact op_eqD hu
theorem op_neDK (K' : PySem.W.Frag) (hu : X.A.units + 64 < cLine) (hK : X.K = K' := by rfl) : OpR X (compareOp .NotEq) (rNeD K') := by
  subst hK; exact op_neD hu
theorem call_lenK (K' : PySem.W.Frag) (hK : X.K = K' := by rfl) : CallR X (.builtin "len") (rLen K') := by
  subst hK; exact call_len
theorem call_list_ofK (K' : PySem.W.Frag) (hK : X.K = K' := by rfl) : CallR X (.type "list") (rLstC K') := by
  subst hK; exact call_list_of
theorem cr_allK (K' : PySem.W.Frag) (hc : X.calm = true) (hK : X.K = K' := by rfl) : CallR X (.builtin "all") (rAll K') := by
  subst hK; exact cr_all hc
theorem cr_anyK (K' : PySem.W.Frag) (hc : X.calm = true) (hK : X.K = K' := by rfl) : CallR X (.builtin "any") (rAny K') := by
  subst hK; exact cr_any hc
end
/-! ### what is known of a def by its name -/
def Ok (P : Program) (w : World) (K : PySem.W.Frag) (mg : Str → Option Value) (base : Heap) (k : Nat) (x : Str) (ps : List Str) (m : Md) (Φ : List D → Option D) : Prop :=
  ∃ fd : FuncData, FnOk P w K mg base CX0 k (He.ga K x) fd ps (spM K m Φ) ∧ PySem.W.keepIn K (.ref (He.ga K x)) = true ∧ Binds K fd ps [] ∧ mg x = some (.ref (He.ga K x))
def fnB (n p : Nat) (b : Bd) : List D → Option D := fun ds => if ds.length = p then runB n b ds else none
/-- a def that never runs off its end -/
def runR (n : Nat) (b : Bd) : List D → Option D := fun ds => (b (ds.map .im ++ List.replicate (n - ds.length) .un)).bind fun o => match o with
  | .rt d => some d
  | _ => none
def fnR (n p : Nat) (b : Bd) : List D → Option D := fun ds => if ds.length = p then runR n b ds else none
section
variable {P : Program} {w : World} {K : PySem.W.Frag} {mg : Str → Option Value} {base : Heap} {x qual : Str} {params : Arguments} {body : List Stmt} {scope : Scope} {fd : FuncData} {N ps : List Str} {k j : Nat} {m : Md} {b : Bd} {Φ : List D → Option D}
theorem Ok.mono (h : Ok P w K mg base j x ps m Φ) (e : j ≤ k) : Ok P w K mg base k x ps m Φ := by
  obtain ⟨fd, h1, h2, h3, h4⟩ := h
  exact ⟨fd, h1.mono e, h2, h3, h4⟩
theorem ok_fz (Fd : FunD K x qual params body scope [] [] (He.ga K x) fd) (S : FnScope N ps scope)
    (hb0 : ∀ (kV doc pm : Value) (an : Option Addr) (cdv ct : Value) (us : List Value), us.length = ps.length → bindArgs (PySem.W.fnOf x qual params body scope .none kV doc pm an cdv ct) ⟨us, []⟩ = pure (ps.zip us))
    (hg : mg x = some (.ref (He.ga K x)))
    (hb : ∀ (cdv : Value) (A : Around) (outer : List Env) (s : Shared) (H : Hp) (E : XK), Room k (A.deeper (envOfC qual scope s.heap.objs.size (He.ga K x) cdv)) →
      ∃ W t, DSs (cxOf CX0 P w K mg base N qual scope (He.ga K x) cdv A outer s H E).nox .fz W body t b) : Ok P w K mg base (k + 1) x ps .fz (fnB N.length ps.length b) :=
  ⟨fd, fn_den Fd S _ (fun ds r h => if_someB h) (.inl rfl) hb, Fd.kp, Fd.bindsN hb0, hg⟩
where
  if_someB {ds : List D} {r : D} (h : fnB N.length ps.length b ds = some r) : ds.length = ps.length ∧ runB N.length b ds = some r := by
    unfold fnB at h
    by_cases hl : ds.length = ps.length
    · rw [if_pos hl] at h; exact ⟨hl, h⟩
    · rw [if_neg hl] at h; cases h
/-- as fn_den, the body ends by return -/
theorem fn_denR {f : Addr} (Fd : FunD K x qual params body scope [] [] f fd) (S : FnScope N ps scope) (Φ : List D → Option D) (hΦ : ∀ ds r, Φ ds = some r → ds.length = ps.length ∧ runR N.length b ds = some r)
    (hb : ∀ (cdv : Value) (A : Around) (outer : List Env) (s : Shared) (H : Hp) (E : XK), Room k (A.deeper (envOfC qual scope s.heap.objs.size f cdv)) →
      ∃ W t, DSs (cxOf CX0 P w K mg base N qual scope f cdv A outer s H E).nox m W body t b) : FnOk P w K mg base CX0 (k + 1) f fd ps (spM K m Φ) := by
  have lenOf : ∀ vs H Q E, spM K m Φ vs H Q E → vs.length = ps.length := fun vs H Q E h => by
    obtain ⟨F, ds, r, _, ra, hr, _⟩ := h
    rw [ra.length]
    exact (hΦ ds r hr).1
  refine Fd.ok S lenOf fun cdv A outer s H vs Q E hr h => ?_
  obtain ⟨W, t, D⟩ := hb cdv A outer s H E hr
  refine ⟨t, D.p.nox, ?_⟩
  obtain ⟨F, ds, r, fh, ra, hP, q⟩ := h
  obtain ⟨hl, hrun⟩ := hΦ ds r hP
  obtain ⟨o, e1, e2⟩ := bind_some hrun
  have hlen : ps.length ≤ N.length := by
    have e := congrArg List.length S.pre
    rw [List.length_take] at e
    omega
  refine D.s { F0 := F, G := H } F H _ _ o _ (start_rel ra (by rw [hl]; exact hlen) fh) e1 ?_
  cases o with
  | rt d =>
    cases e2
    intro v F' H' ro
    obtain ⟨a1, a2, a3, a4, a5⟩ := ro
    exact q v F' H' ⟨a1, a2, a4, a3⟩ a5
  | nx ρ' => cases e2
  | bk ρ' => cases e2
  | ct ρ' => cases e2
theorem ok_fr (Fd : FunD K x qual params body scope [] [] (He.ga K x) fd) (S : FnScope N ps scope)
    (hb0 : ∀ (kV doc pm : Value) (an : Option Addr) (cdv ct : Value) (us : List Value), us.length = ps.length → bindArgs (PySem.W.fnOf x qual params body scope .none kV doc pm an cdv ct) ⟨us, []⟩ = pure (ps.zip us))
    (hg : mg x = some (.ref (He.ga K x)))
    (hb : ∀ (cdv : Value) (A : Around) (outer : List Env) (s : Shared) (H : Hp) (E : XK), Room k (A.deeper (envOfC qual scope s.heap.objs.size (He.ga K x) cdv)) →
      ∃ W t, DSs (cxOf CX0 P w K mg base N qual scope (He.ga K x) cdv A outer s H E).nox m W body t b) : Ok P w K mg base (k + 1) x ps m (fnR N.length ps.length b) :=
  ⟨fd, fn_denR Fd S _ (fun ds r h => if_someR h) hb, Fd.kp, Fd.bindsN hb0, hg⟩
where
  if_someR {ds : List D} {r : D} (h : fnR N.length ps.length b ds = some r) : ds.length = ps.length ∧ runR N.length b ds = some r := by
    unfold fnR at h
    by_cases hl : ds.length = ps.length
    · rw [if_pos hl] at h; exact ⟨hl, h⟩
    · rw [if_neg hl] at h; cases h
/-- the law itself -/
theorem law_fz {f : Addr} (Fd : FunD K x qual params body scope [] [] f fd) (S : FnScope N ps scope)
    (hb : ∀ (cdv : Value) (A : Around) (outer : List Env) (s : Shared) (H : Hp) (E : XK), Room k (A.deeper (envOfC qual scope s.heap.objs.size f cdv)) →
      ∃ W t, DSs (cxOf CX0 P w K mg base N qual scope f cdv A outer s H E).nox .fz W body t b) : FnOk P w K mg base CX0 (k + 1) f fd ps (spM K .fz (fnB N.length ps.length b)) :=
  fn_den Fd S _ (fun ds r h => ok_fz.if_someB h) (.inl rfl) hb
/-- the ground of a recursion: no promise -/
theorem ok_zero (Fd : FunD K x qual params body scope [] [] (He.ga K x) fd)
    (hb0 : ∀ (kV doc pm : Value) (an : Option Addr) (cdv ct : Value) (us : List Value), us.length = ps.length → bindArgs (PySem.W.fnOf x qual params body scope .none kV doc pm an cdv ct) ⟨us, []⟩ = pure (ps.zip us))
    (hg : mg x = some (.ref (He.ga K x))) : Ok P w K mg base k x ps m (fun _ => none) :=
  ⟨fd, ⟨fun vs H Q E h => (by obtain ⟨F, ds, r, _, _, h, _⟩ := h; cases h), fun A outer s H args us vs Q E _ _ _ _ h => (by obtain ⟨F, ds, r, _, _, h, _⟩ := h; cases h)⟩, Fd.kp, Fd.bindsN hb0, hg⟩
end
section
variable {X : Cx} {m m1 : Md} {k j : Nat} {ps : List Str} {Φ : List D → Option D} {x : Str} {p pos : Pos} {e : Expr} {es : List Expr} {t : TA} {fs : Rho → Option (List D)}
theorem de_fn (h : Ok X.prog X.w X.K X.mg X.base j x ps m Φ) (hr : Room k X.A) (hj : j ≤ k) (hg : Gl X x) (ha : DA X .fz (e :: es) t fs)
    (hdb : (x == ("__debug__" : Str)) = false := by decide) (he : starEach (e :: es) X.env = (false, eval e X.env) :: starEach es X.env := by rfl) (hpl : (backTo pos (starEach es X.env)).any (·.1) = false := by rfl) :
    DE X m (.Call (.Name x p) (e :: es) [] pos) (tCall (spM X.K m Φ) [] E0 t) (fB Φ fs) := by
  obtain ⟨fd, h1, h2, h3, h4⟩ := h
  exact de_call (h1.mono hj) hr hg h4 h2 h3 ha hdb he hpl
theorem de_fnK (K' : PySem.W.Frag) (h : Ok X.prog X.w K' X.mg X.base j x ps m Φ) (hr : Room k X.A) (hj : j ≤ k) (hg : Gl X x) (ha : DA X .fz (e :: es) t fs) (hdb : (x == ("__debug__" : Str)) = false := by decide) (he : starEach (e :: es) X.env = (false, eval e X.env) :: starEach es X.env := by rfl) (hpl : (backTo pos (starEach es X.env)).any (·.1) = false := by rfl) (hK : X.K = K' := by rfl) : DE X m (.Call (.Name x p) (e :: es) [] pos) (tCall (spM K' m Φ) [] E0 t) (fB Φ fs) := by
  subst hK
  exact de_fn (h := h) (hr := hr) (hj := hj) (hg := hg) (ha := ha) (hdb := hdb) (he := he) (hpl := hpl)
theorem de_fn0 (h : Ok X.prog X.w X.K X.mg X.base j x ps m Φ) (hr : Room k X.A) (hj : j ≤ k) (hg : Gl X x) (hdb : (x == ("__debug__" : Str)) = false := by decide) :
    DE X m (.Call (.Name x p) [] [] pos) (tCall (spM X.K m Φ) [] E0 tNil) (fB Φ aNil) := by
  obtain ⟨fd, h1, h2, h3, h4⟩ := h
  exact de_call0 (h1.mono hj) hr hg h4 h2 h3 hdb
theorem de_fn0K (K' : PySem.W.Frag) (h : Ok X.prog X.w K' X.mg X.base j x ps m Φ) (hr : Room k X.A) (hj : j ≤ k) (hg : Gl X x) (hdb : (x == ("__debug__" : Str)) = false := by decide) (hK : X.K = K' := by rfl) : DE X m (.Call (.Name x p) [] [] pos) (tCall (spM K' m Φ) [] E0 tNil) (fB Φ aNil) := by
  subst hK
  exact de_fn0 (h := h) (hr := hr) (hj := hj) (hg := hg) (hdb := hdb)
theorem de_fnP (hm0 : m = .fz ∨ m = .fr) (h : Ok X.prog X.w X.K X.mg X.base j x ps m Φ) (hr : Room k X.A) (hj : j ≤ k) (hg : Gl X x) (ha : DA X .pk (e :: es) t fs)
    (hdb : (x == ("__debug__" : Str)) = false := by decide) (he : starEach (e :: es) X.env = (false, eval e X.env) :: starEach es X.env := by rfl) (hpl : (backTo pos (starEach es X.env)).any (·.1) = false := by rfl) :
    DE X m (.Call (.Name x p) (e :: es) [] pos) (tCall (spM X.K m Φ) [] E0 t) (fBP m Φ fs) := by
  obtain ⟨fd, h1, h2, h3, h4⟩ := h
  exact de_callP hm0 (h1.mono hj) hr hg h4 h2 h3 ha hdb he hpl
theorem de_fnPK (K' : PySem.W.Frag) (hm0 : m = .fz ∨ m = .fr) (h : Ok X.prog X.w K' X.mg X.base j x ps m Φ) (hr : Room k X.A) (hj : j ≤ k) (hg : Gl X x) (ha : DA X .pk (e :: es) t fs) (hdb : (x == ("__debug__" : Str)) = false := by decide) (he : starEach (e :: es) X.env = (false, eval e X.env) :: starEach es X.env := by rfl) (hpl : (backTo pos (starEach es X.env)).any (·.1) = false := by rfl) (hK : X.K = K' := by rfl) : DE X m (.Call (.Name x p) (e :: es) [] pos) (tCall (spM K' m Φ) [] E0 t) (fBP m Φ fs) := by
  subst hK
  exact de_fnP (hm0 := hm0) (h := h) (hr := hr) (hj := hj) (hg := hg) (ha := ha) (hdb := hdb) (he := he) (hpl := hpl)
end
end Q
end

/-! part: Q13 -/
section
set_option Elab.async false
set_option linter.all false
set_option maxRecDepth 100000
set_option maxHeartbeats 4000000
set_option autoImplicit false
namespace Q
open PySem PySem.Spec PySem.Calls PyProof.Rows L2
/-! ### the denotations unfolded, for simp -/
section
variable {ρ : Rho} {i j l n : Nat} {f g fa fb fc : Rho → Option D} {ft fu fw : Rho → Option Bool} {fs : Rho → Option (List D)} {g2 h2 : D → D → Option D} {g1 : D → Option D} {gl : List D → Option D} {gi : List D → Option (List D)} {a b : Bd} {d e : D} {ds es : List D}
def imD : Option Sl → Option D
  | some (.im d) => some d
  | _ => none
def anD : Option Sl → Option D
  | some (.im d) => some d
  | some (.ow d) => some d
  | _ => none
def owL : Option Sl → Option (List D)
  | some (.ow (.list ds)) => some ds
  | _ => none
@[simp] theorem imD_im : imD (some (.im d)) = some d := rfl
@[simp] theorem anD_im : anD (some (.im d)) = some d := rfl
@[simp] theorem anD_ow : anD (some (.ow d)) = some d := rfl
@[simp] theorem owL_ow : owL (some (.ow (.list ds))) = some ds := rfl
@[simp] theorem vF_e : vF i ρ = imD ρ[i]? := by unfold vF; split <;> simp_all [imD]
@[simp] theorem vP_e : vP i ρ = anD ρ[i]? := by unfold vP; split <;> simp_all [anD]
def owD : Option Sl → Option D
  | some (.ow d) => some d
  | _ => none
@[simp] theorem owD_ow : owD (some (.ow d)) = some d := rfl
@[simp] theorem vO_e : vO i ρ = owD ρ[i]? := by unfold vO; split <;> simp_all [owD]
@[simp] theorem cD_e : cD d ρ = some d := rfl
@[simp] theorem f2_e : f2 g2 fa fb ρ = (fa ρ).bind fun x => (fb ρ).bind fun y => g2 x y := rfl
@[simp] theorem f1_e : f1 g1 fa ρ = (fa ρ).bind g1 := rfl
@[simp] theorem fB_e : fB gl fs ρ = (fs ρ).bind gl := rfl
@[simp] theorem fT_e : fT f ρ = (f ρ).bind boolD := rfl
@[simp] theorem boolD_e {k : Bool} : boolD (.bool k) = some k := rfl
@[simp] theorem fTr_e : fTr f ρ = (f ρ).bind truD := rfl
@[simp] theorem fNotT_e : fNotT ft ρ = (ft ρ).map not := rfl
@[simp] theorem fAndT_e : fAndT ft fu ρ = (ft ρ).bind fun b => if b = true then fu ρ else some false := rfl
@[simp] theorem fOrT_e : fOrT ft fu ρ = (ft ρ).bind fun b => if b = true then some true else fu ρ := rfl
@[simp] theorem fIfT_e : fIfT ft fu fw ρ = (ft ρ).bind fun b => if b = true then fu ρ else fw ρ := rfl
@[simp] theorem fNot_e : fNot f ρ = ((f ρ).bind truD).map fun b => .bool (!b) := rfl
@[simp] theorem fAnd_e : fAnd f g ρ = (f ρ).bind fun d => (truD d).bind fun b => if b = true then g ρ else some d := rfl
@[simp] theorem fOr_e : fOr f g ρ = (f ρ).bind fun d => (truD d).bind fun b => if b = true then some d else g ρ := rfl
@[simp] theorem fIf_e : fIf ft f g ρ = (ft ρ).bind fun b => if b = true then f ρ else g ρ := rfl
@[simp] theorem aNil_e : aNil ρ = some [] := rfl
@[simp] theorem aCons_e : aCons f fs ρ = (f ρ).bind fun d => (fs ρ).bind fun ds => some (d :: ds) := rfl
@[simp] theorem aStar_e : aStar f fs ρ = (f ρ).bind fun d => (itemsD d).bind fun ds => (fs ρ).bind fun es => some (ds ++ es) := rfl
@[simp] theorem fTup_e : fTup fs ρ = (fs ρ).map .tuple := rfl
@[simp] theorem fLst_e : fLst fs ρ = (fs ρ).map .list := rfl
@[simp] theorem fTupS_e : fTupS fs ρ = (fs ρ).bind fun ds => if ds.length ≤ sizeLine then some (.tuple ds) else none := rfl
@[simp] theorem fLstS_e : fLstS fs ρ = (fs ρ).bind fun ds => if ds.length ≤ sizeLine then some (.list ds) else none := rfl
@[simp] theorem fI_e : fI f ρ = (f ρ).bind walkD := rfl
@[simp] theorem fIs_e : fIs gi fs ρ = (fs ρ).bind gi := rfl
@[simp] theorem fRev_e : fRev f ρ = (f ρ).bind revD := rfl
@[simp] theorem fEnum_e : fEnum f ρ = (f ρ).bind enumD := rfl
def chB (z : D) (k : Option D) : Option D := match z with
  | .bool true => k
  | .bool false => some (.bool false)
  | _ => none
@[simp] theorem chB_b {c : Bool} {k : Option D} : chB (.bool c) k = if c = true then k else some (.bool false) := by cases c <;> rfl
@[simp] theorem f3_e : f3 g2 h2 fa fb fc ρ = (fa ρ).bind fun x => (fb ρ).bind fun y => (g2 x y).bind fun z => chB z ((fc ρ).bind fun w => h2 y w) := by
  unfold f3
  rfl
def isiD (b : String) (d : D) : Option D := match d with
  | .dict _ => none
  | d => some (.bool (isiN (tyName d) b))
def isiD2 (b c : String) (d : D) : Option D := match d with
  | .dict _ => none
  | d => some (.bool (isiN (tyName d) b || isiN (tyName d) c))
@[simp] theorem isiD_i {b : String} {k : Int} : isiD b (.int k) = some (.bool (isiN "int" b)) := rfl
@[simp] theorem isiD_b {b : String} {k : Bool} : isiD b (.bool k) = some (.bool (isiN "bool" b)) := rfl
@[simp] theorem isiD_n {b : String} : isiD b .none = some (.bool (isiN "NoneType" b)) := rfl
@[simp] theorem isiD_s {b : String} {z : Str} : isiD b (.str z) = some (.bool (isiN "str" b)) := rfl
@[simp] theorem isiD_l {b : String} : isiD b (.list ds) = some (.bool (isiN "list" b)) := rfl
@[simp] theorem isiD_t {b : String} : isiD b (.tuple ds) = some (.bool (isiN "tuple" b)) := rfl
@[simp] theorem isiD2_i {b c : String} {k : Int} : isiD2 b c (.int k) = some (.bool (isiN "int" b || isiN "int" c)) := rfl
@[simp] theorem isiD2_b {b c : String} {k : Bool} : isiD2 b c (.bool k) = some (.bool (isiN "bool" b || isiN "bool" c)) := rfl
@[simp] theorem isiD2_n {b c : String} : isiD2 b c .none = some (.bool (isiN "NoneType" b || isiN "NoneType" c)) := rfl
@[simp] theorem isiD2_s {b c : String} {z : Str} : isiD2 b c (.str z) = some (.bool (isiN "str" b || isiN "str" c)) := rfl
@[simp] theorem isiD2_l {b c : String} : isiD2 b c (.list ds) = some (.bool (isiN "list" b || isiN "list" c)) := rfl
@[simp] theorem isiD2_t {b c : String} : isiD2 b c (.tuple ds) = some (.bool (isiN "tuple" b || isiN "tuple" c)) := rfl
@[simp] theorem isiN_e {b c : String} : isiN b c = (b == c || (b == "bool" && c == "int")) := rfl
@[simp] theorem fIsi_e {b : String} : fIsi b f ρ = (f ρ).bind (isiD b) := rfl
@[simp] theorem fIsi2_e {b c : String} : fIsi2 b c f ρ = (f ρ).bind (isiD2 b c) := rfl
@[simp] theorem fYes_e : fYes ρ = some true := rfl
@[simp] theorem oNo_e : oNo ρ = some none := rfl
def intO : D → Option (Option Int)
  | .int i => some (some i)
  | _ => none
@[simp] theorem intO_i {k : Int} : intO (.int k) = some (some k) := rfl
@[simp] theorem oIs_e : oIs f ρ = (f ρ).bind intO := by unfold oIs; congr; try (funext d; cases d <;> rfl)
@[simp] theorem fSl_e {fl fh : Rho → Option (Option Int)} : fSl f fl fh ρ = (f ρ).bind fun d => (fl ρ).bind fun l => (fh ρ).bind fun h => cutD d l h := rfl
@[simp] theorem fLr1_e : fLr1 f ρ = (f ρ).bind fun d => match d with
  | .int n => if -(2 ^ 62) ≤ n ∧ n ≤ 16777216 then some (.list (rgD 0 n.toNat)) else none
  | _ => none := rfl
@[simp] theorem fLenSet_e : fLenSet f ρ = (f ρ).bind fun d => (itemsD d).bind fun ds => (intsOf ds).bind fun ns => if ns.length ≤ 4000 then some (.int ((dedupI ns).length : Nat)) else none := rfl
def outB : Out → Option D
  | .rt d => some d
  | .nx _ => some .none
  | _ => none
@[simp] theorem outB_r : outB (.rt d) = some d := rfl
@[simp] theorem outB_n : outB (.nx ρ) = some .none := rfl
def outR : Out → Option D
  | .rt d => some d
  | _ => none
@[simp] theorem outR_r : outR (.rt d) = some d := rfl
@[simp] theorem fnB_e {p : Nat} : fnB n p b ds = if ds.length = p then (b (ds.map .im ++ List.replicate (n - ds.length) .un)).bind outB else none := by
  unfold fnB runB
  rfl
@[simp] theorem fnR_e {p : Nat} : fnR n p b ds = if ds.length = p then (b (ds.map .im ++ List.replicate (n - ds.length) .un)).bind outR else none := by
  unfold fnR runR
  rfl
/-! statements -/
def seqO (b : Bd) : Out → Option Out
  | .nx ρ => b ρ
  | o => some o
@[simp] theorem seqO_n : seqO b (.nx ρ) = b ρ := rfl
@[simp] theorem seqO_b : seqO b (.bk ρ) = some (.bk ρ) := rfl
@[simp] theorem seqO_c : seqO b (.ct ρ) = some (.ct ρ) := rfl
@[simp] theorem seqO_r : seqO b (.rt d) = some (.rt d) := rfl
@[simp] theorem bSeq_e : bSeq a b ρ = (a ρ).bind (seqO b) := by
  unfold bSeq
  congr
  try (funext o; cases o <;> rfl)
@[simp] theorem bNext_e : bNext ρ = some (.nx ρ) := rfl
@[simp] theorem bBreak_e : bBreak ρ = some (.bk ρ) := rfl
@[simp] theorem bCont_e : bCont ρ = some (.ct ρ) := rfl
@[simp] theorem bNever_e : bNever ρ = none := rfl
@[simp] theorem bIf_e : bIf ft a b ρ = (ft ρ).bind fun k => if k = true then a ρ else b ρ := rfl
@[simp] theorem bAsg_e : bAsg i f ρ = (f ρ).bind fun d => some (.nx (ρ.set i (.im d))) := rfl
@[simp] theorem bOwn_e : bOwn i f ρ = (f ρ).bind fun d => some (.nx (ρ.set i (.ow d))) := rfl
@[simp] theorem bRet_e : bRet f ρ = (f ρ).map .rt := rfl
@[simp] theorem bDrop_e : bDrop f ρ = (f ρ).bind fun _ => some (.nx ρ) := rfl
@[simp] theorem bPar_e : bPar i j fs ρ = (fs ρ).bind fun ds => match ds with
  | [d, e] => some (.nx ((ρ.set i (.im d)).set j (.im e)))
  | _ => none := rfl
@[simp] theorem bAsgG_e {s : D → Rho → Option Rho} : bAsgG f s ρ = (f ρ).bind fun d => (s d ρ).bind fun ρ' => some (.nx ρ') := rfl
@[simp] theorem sN_e : sN i d ρ = some (ρ.set i (.im d)) := rfl
@[simp] theorem sNil_e : sNil [] ρ = some ρ := rfl
@[simp] theorem sCons_e {s : D → Rho → Option Rho} {ss : List D → Rho → Option Rho} : sCons s ss (d :: ds) ρ = (s d ρ).bind (ss ds) := rfl
@[simp] theorem sT_e {ss : List D → Rho → Option Rho} : sT n ss (.tuple ds) ρ = if ds.length = n then ss ds ρ else none := rfl
@[simp] theorem bFor_e {s : D → Rho → Option Rho} : bFor fs s b ρ = (fs ρ).bind fun ds => forL (turnD s b) ds ρ := rfl
@[simp] theorem turnD_e {s : D → Rho → Option Rho} : turnD s b d ρ = (s d ρ).bind b := rfl
@[simp] theorem bApp_e : bApp j f ρ = (owL ρ[j]?).bind fun ds => (f ρ).bind fun d => if ds.length < sizeLine then some (.nx (ρ.set j (.ow (.list (ds ++ [d]))))) else none := by
  unfold bApp
  cases ρ[j]? with
  | none => rfl
  | some s =>
    cases s with
    | ow d => cases d <;> rfl
    | _ => rfl
end
/-! ### operations on ints -/
section
variable {i j : Int} {k c : Bool} {ds es : List D} {z y : Str}
theorem shp_int : SeqAt.shaped (.int i) = true := by with_unfolding_all rfl
theorem shp_bool : SeqAt.shaped (.bool k) = true := by with_unfolding_all rfl
theorem shp_none : SeqAt.shaped (.none) = true := by with_unfolding_all rfl
@[simp] theorem add_ii : addD (.int i) (.int j) = some (.int (i + j)) := rfl
@[simp] theorem addS_ii : addS (.int i) (.int j) = some (.int (i + j)) := rfl
@[simp] theorem sub_ii : subD (.int i) (.int j) = some (.int (i - j)) := rfl
@[simp] theorem mul_ii : mulD (.int i) (.int j) = mulI i j := rfl
@[simp] theorem mulI_r (h1 : -18446744073709551616 < j) (h2 : j < 18446744073709551616) : mulI i j = some (.int (i * j)) := if_pos (.inr ⟨by omega, by omega⟩)
theorem fdiv_ii : fdivD (.int i) (.int j) = if j ≠ 0 ∧ j.natAbs < 1073741824 then some (.int (i.fdiv j)) else none := rfl
theorem mod_ii : modD (.int i) (.int j) = if j ≠ 0 then some (.int (i.fmod j)) else none := rfl
@[simp] theorem mod_pos (h : 0 < j) : modD (.int i) (.int j) = some (.int (i % j)) := by
  rw [mod_ii, if_pos (by omega), Int.fmod_eq_emod_of_nonneg i (by omega)]
@[simp] theorem fdiv_pos (h : 0 < j) (h2 : j < 1073741824) : fdivD (.int i) (.int j) = some (.int (i / j)) := by
  rw [fdiv_ii, if_pos (by omega), Int.fdiv_eq_ediv_of_nonneg i (by omega)]
@[simp] theorem pow_ii : powD (.int i) (.int j) = if 0 ≤ j ∧ j ≤ 1000000 ∧ i.natAbs < 2 ^ 64 then some (.int (i ^ j.toNat)) else none := rfl
@[simp] theorem neg_i : negD (.int i) = some (.int (-i)) := rfl
@[simp] theorem eq_ii : eqD (.int i) (.int j) = some (.bool (i == j)) := by
  unfold eqD
  rw [if_pos ⟨shp_int, shp_int⟩]
  rfl
@[simp] theorem ne_ii : neD (.int i) (.int j) = some (.bool (!(i == j))) := by
  unfold neD
  rw [if_pos ⟨shp_int, shp_int⟩]
  rfl
@[simp] theorem eq_bb : eqD (.bool k) (.bool c) = some (.bool (k == c)) := by
  unfold eqD
  rw [if_pos ⟨shp_bool, shp_bool⟩]
  rfl
theorem ord_ii : ordOk (.int i) (.int j) = true := by with_unfolding_all rfl
@[simp] theorem lt_ii : ltD (.int i) (.int j) = some (.bool (decide (i < j))) := by
  unfold ltD
  rw [if_pos ord_ii, PySem.W.dataLt_int]
@[simp] theorem gt_ii : gtD (.int i) (.int j) = some (.bool (decide (j < i))) := by
  unfold gtD
  rw [if_pos ord_ii, PySem.W.dataLt_int]
@[simp] theorem le_ii : leD (.int i) (.int j) = some (.bool (decide (i ≤ j))) := by
  unfold leD
  rw [if_pos ord_ii, PySem.W.dataLt_int]
  congr 2
  by_cases h : i ≤ j
  · simp [h, Int.not_lt.mpr h]
  · simp [h, Int.not_le.mp h]
@[simp] theorem ge_ii : geD (.int i) (.int j) = some (.bool (decide (j ≤ i))) := by
  unfold geD
  rw [if_pos ord_ii, PySem.W.dataLt_int]
  congr 2
  by_cases h : j ≤ i
  · simp [h, Int.not_lt.mpr h]
  · simp [h, Int.not_le.mp h]
@[simp] theorem isN_n : isND .none .none = some (.bool true) := rfl
@[simp] theorem isN_i : isND (.int i) .none = some (.bool false) := rfl
@[simp] theorem isN_b : isND (.bool k) .none = some (.bool false) := rfl
@[simp] theorem isN_t : isND (.tuple ds) .none = some (.bool false) := rfl
@[simp] theorem isN_l : isND (.list ds) .none = some (.bool false) := rfl
@[simp] theorem isN_s : isND (.str z) .none = some (.bool false) := rfl
@[simp] theorem notN_n : notND .none .none = some (.bool false) := rfl
@[simp] theorem notN_i : notND (.int i) .none = some (.bool true) := rfl
@[simp] theorem notN_t : notND (.tuple ds) .none = some (.bool true) := rfl
@[simp] theorem notN_l : notND (.list ds) .none = some (.bool true) := rfl
@[simp] theorem int_i : intD [.int i] = some (.int i) := rfl
@[simp] theorem len_l : lenD [.list ds] = some (.int ds.length) := rfl
@[simp] theorem len_t : lenD [.tuple ds] = some (.int ds.length) := rfl
@[simp] theorem tup_l : tupD [.list ds] = some (.tuple ds) := rfl
@[simp] theorem tup_t : tupD [.tuple ds] = some (.tuple ds) := rfl
@[simp] theorem lst_l : lstD [.list ds] = some (.list ds) := rfl
@[simp] theorem lst_t : lstD [.tuple ds] = some (.list ds) := rfl
@[simp] theorem items_l : itemsD (.list ds) = some ds := rfl
@[simp] theorem items_t : itemsD (.tuple ds) = some ds := rfl
@[simp] theorem walk_l : walkD (.list ds) = some ds := rfl
@[simp] theorem walk_t : walkD (.tuple ds) = some ds := rfl
@[simp] theorem ix_l : ixD (.list ds) (.int i) = atI ds i := rfl
@[simp] theorem ix_t : ixD (.tuple ds) (.int i) = atI ds i := rfl
@[simp] theorem tru_n : truD .none = some false := rfl
@[simp] theorem tru_b : truD (.bool k) = some k := rfl
@[simp] theorem tru_i : truD (.int i) = some (i != 0) := rfl
@[simp] theorem tru_l : truD (.list ds) = some (!ds.isEmpty) := rfl
@[simp] theorem tru_t : truD (.tuple ds) = some (!ds.isEmpty) := rfl
@[simp] theorem cut_l {o p : Option Int} : cutD (.list ds) o p = some (.list (cutL ds o p)) := rfl
@[simp] theorem cut_t {o p : Option Int} : cutD (.tuple ds) o p = some (.tuple (cutL ds o p)) := rfl
@[simp] theorem add_tt : addD (.tuple ds) (.tuple es) = if ds.length + es.length ≤ sizeLine then some (.tuple (ds ++ es)) else none := rfl
@[simp] theorem add_ll : addD (.list ds) (.list es) = if ds.length + es.length ≤ sizeLine then some (.list (ds ++ es)) else none := rfl
@[simp] theorem intsOf_m (ns : List Int) : intsOf (ns.map .int) = some ns := intsOf_ints ns
@[simp] theorem blsOf_f {α : Type} (p : α → Bool) (xs : List α) : blsOf (xs.map fun x => .bool (p x)) = some (xs.map p) := by
  rw [← blsOf_bls (xs.map p), List.map_map]
  rfl
@[simp] theorem intsOf_f {α : Type} (p : α → Int) (xs : List α) : intsOf (xs.map fun x => .int (p x)) = some (xs.map p) := by
  rw [← intsOf_ints (xs.map p), List.map_map]
  rfl
@[simp] theorem all_l : allD [.list ds] = (blsOf ds).map fun bs => .bool (bs.all id) := rfl
@[simp] theorem any_l : anyD [.list ds] = (blsOf ds).map fun bs => .bool (bs.any id) := rfl
@[simp] theorem sum_l (ns : List Int) : sumD [.list (ns.map .int)] = some (.int ns.sum) := by
  simp only [sumD, items_l, Option.bind_some, intsOf_ints, Option.map_some]
@[simp] theorem sum_t (ns : List Int) : sumD [.tuple (ns.map .int)] = some (.int ns.sum) := by
  simp only [sumD, items_t, Option.bind_some, intsOf_ints, Option.map_some]
@[simp] theorem blsOf_m (ns : List Bool) : blsOf (ns.map .bool) = some ns := blsOf_bls ns
theorem atI_nat {ds : List D} {n : Nat} (h : n < ds.length) : atI ds (n : Int) = some ds[n] := by
  unfold atI ixN
  rw [if_pos (by omega)]
  simp [h]
theorem atI_lit {ds : List D} {i : Int} (h0 : 0 ≤ i) (h : i < ds.length) : atI ds i = ds[i.toNat]? := by
  unfold atI ixN
  rw [if_pos h0]
  simp [h]
end
/-! ### places of int rows -/
theorem at_n (ns : List Int) {k : Nat} (h : k < ns.length) : atI (ns.map PyData.int) (k : Int) = some (.int (ns.getD k 0)) := by
  rw [atI_nat (by simpa using h)]
  simp [h]
theorem at_i (ns : List Int) {i : Int} (h0 : 0 ≤ i) (h : i < ns.length) : atI (ns.map PyData.int) i = some (.int (ns.getD i.toNat 0)) := by
  have := at_n ns (k := i.toNat) (by omega)
  rwa [Int.toNat_of_nonneg h0] at this
theorem at_last (ns : List Int) (h : ns ≠ []) : atI (ns.map PyData.int) (-1) = some (.int (ns.getLastD 0)) := by
  have hl : 0 < ns.length := List.length_pos_iff.mpr h
  unfold atI ixN
  rw [if_neg (by omega), List.length_map, if_pos (by omega), Option.bind_some]
  have e : (-1 + (ns.length : Int)).toNat = ns.length - 1 := by omega
  rw [e, List.getElem?_map, List.getElem?_eq_getElem (by omega), Option.map_some]
  congr 2
  rw [List.getLastD_eq_getLast?, List.getLast?_eq_getElem?, List.getElem?_eq_getElem (by omega)]
  rfl
theorem cut_to (ns : List Int) {i : Int} (h0 : 0 ≤ i) : cutL (ns.map PyData.int) none (some i) = (ns.take i.toNat).map .int := by
  unfold cutL HT.sIx
  simp only [List.length_map, if_neg (Int.not_lt.mpr h0), List.drop_zero, Nat.sub_zero, ← List.map_take]
  congr 1
  rw [List.take_eq_take_iff]
  omega
theorem cut_from (ns : List Int) {i : Int} (h0 : 0 ≤ i) : cutL (ns.map PyData.int) (some i) none = (ns.drop i.toNat).map .int := by
  unfold cutL HT.sIx
  simp only [List.length_map, if_neg (Int.not_lt.mpr h0), ← List.map_drop]
  by_cases h : i.toNat ≤ ns.length
  · rw [Nat.min_eq_left h, List.take_of_length_le (by simp)]
  · rw [Nat.min_eq_right (by omega)]
    simp [List.drop_eq_nil_of_le (by omega : ns.length ≤ i.toNat)]
theorem line_ge : 100000 ≤ sizeLine := by rw [sizeLine_eq]; decide
/-! ### pops -/
theorem erase_m {α β : Type} (f : α → β) : ∀ (l : List α) (k : Nat), (l.map f).eraseIdx k = (l.eraseIdx k).map f
  | [], _ => rfl
  | _ :: _, 0 => rfl
  | x :: l, k + 1 => congrArg (f x :: ·) (erase_m f l k)
theorem pop_at {ρ : Rho} {j : Nat} {f : Rho → Option D} {ns : List Int} {i : Int} (h1 : ρ[j]? = some (.ow (.list (ns.map .int)))) (h2 : f ρ = some (.int i)) (h0 : 0 ≤ i) (h : i < ns.length) (hb : ns.length ≤ 100000) :
    xPopAt j f ρ = some (.int (ns.getD i.toNat 0), ρ.set j (.ow (.list ((ns.eraseIdx i.toNat).map .int)))) := by
  unfold xPopAt
  rw [h1, h2]
  simp only [Option.bind_some]
  rw [if_pos (by omega)]
  have e : seqIndex? i (ns.map PyData.int).length = some i.toNat := by
    unfold seqIndex?
    simp only [if_neg (Int.not_lt.mpr h0), List.length_map]
    rw [if_pos (by simp; omega)]
  have hk : i.toNat < ns.length := by omega
  rw [e, Option.bind_some, List.getElem?_map, List.getElem?_eq_getElem hk]
  simp [hk, erase_m]
theorem appX_e {ρ ρ' : Rho} {j : Nat} {f : Rho → Option (D × Rho)} {ds0 ds : List D} {d : D} (h1 : f ρ = some (d, ρ')) (h2 : ρ[j]? = some (.ow (.list ds0))) (h3 : ρ'[j]? = some (.ow (.list ds))) (h : ds.length ≤ 90000) :
    bAppX j f ρ = some (.nx (ρ'.set j (.ow (.list (ds ++ [d]))))) := by
  unfold bAppX
  rw [h1]
  simp only [Option.bind_some]
  rw [h2, h3]
  simp only
  have := line_ge
  rw [if_pos (by omega)]
/-! ### while -/
def whO (c : Rho → Option Bool) (b : Bd) (n : Nat) : Out → Option Out
  | .nx ρ => whileL c b n ρ
  | .ct ρ => whileL c b n ρ
  | .bk ρ => some (.nx ρ)
  | .rt d => some (.rt d)
theorem whileL_s {c : Rho → Option Bool} {b : Bd} {n : Nat} {ρ : Rho} : whileL c b (n + 1) ρ = (c ρ).bind fun k => if k = true then (b ρ).bind (whO c b n) else some (.nx ρ) := by
  conv => lhs; unfold whileL
  congr
  try (funext k; split <;> rfl)
theorem whileL_go {c : Rho → Option Bool} {b : Bd} {n : Nat} {ρ ρ' : Rho} (h1 : c ρ = some true) (h2 : b ρ = some (.nx ρ')) : whileL c b (n + 1) ρ = whileL c b n ρ' := by
  rw [whileL_s, h1, Option.bind_some, if_pos rfl, h2]
  rfl
theorem whileL_end {c : Rho → Option Bool} {b : Bd} {n : Nat} {ρ : Rho} (h1 : c ρ = some false) : whileL c b (n + 1) ρ = some (.nx ρ) := by
  rw [whileL_s, h1, Option.bind_some, if_neg (by decide)]
/-! ### comprehensions, loops -/
def lcB (rs : List D) : Option D := if rs.length ≤ sizeLine then some (.list rs) else none
@[simp] theorem fLc_e {ρ : Rho} {f : Rho → Option (List D)} {s : D → Rho → Option Rho} {ft : Rho → Option Bool} {fe : Rho → Option D} {vs : List Nat} : fLc f s ft fe vs ρ = (f ρ).bind fun ds => (lcL (fun d => (s d (wipeR ρ vs)).bind ft) (fun d => (s d (wipeR ρ vs)).bind fe) ds).bind lcB := rfl
@[simp] theorem wipeR_n {ρ : Rho} : wipeR ρ [] = ρ := rfl
@[simp] theorem wipeR_c {ρ : Rho} {v : Nat} {vs : List Nat} : wipeR ρ (v :: vs) = (wipeR ρ vs).set v .un := rfl
theorem lcB_of {rs : List D} (h : rs.length ≤ sizeLine) : lcB rs = some (.list rs) := if_pos h
theorem lcB_small {rs : List D} (h : rs.length ≤ 100000) : lcB rs = some (.list rs) := if_pos (Nat.le_trans h line_ge)
theorem rg1_n {k : Nat} (h : k ≤ 100000) : rg1D [.int (k : Int)] = some ((List.range k).map fun i => .int (i : Nat)) := by
  rw [rg1D, if_pos (by omega), Int.toNat_natCast]
  unfold rgD
  simp
theorem rg1_i {i : Int} (h : 0 ≤ i ∧ i ≤ 100000) : rg1D [.int i] = some ((List.range i.toNat).map fun i => .int (i : Nat)) := by
  have := rg1_n (k := i.toNat) (by omega)
  rwa [Int.toNat_of_nonneg h.1] at this
theorem lr1_n {k : Nat} (h : k ≤ 100000) : rgD 0 k = (List.range k).map fun i => .int (i : Nat) := by
  unfold rgD
  simp
theorem same_filter {ns ms : List Int} (h : ns.length = ms.length) : ((List.range ns.length).filter fun k => !(ns.getD k 0 == ms.getD k 0)).isEmpty = decide (ns = ms) := by
  by_cases e : ns = ms
  · subst e
    simp
  · rw [decide_eq_false e]
    cases hb : ((List.range ns.length).filter fun k => !(ns.getD k 0 == ms.getD k 0)).isEmpty with
    | false => rfl
    | true =>
      exfalso
      apply e
      have hn := List.isEmpty_iff.mp hb
      rw [List.filter_eq_nil_iff] at hn
      apply List.ext_getElem h
      intro k h1 h2
      have := hn k (by simpa using h1)
      simp only [Bool.not_eq_true, Bool.not_eq_false'] at this
      have := eq_of_beq this
      simpa [List.getD_eq_getElem?_getD, h1, h2] using this
theorem forL_ex {α : Type} {step : D → Bd} {xs : List α} {mk : α → D} (inv : Nat → Rho → Prop) : ∀ (ρ : Rho), inv 0 ρ → (∀ (k : Nat) (ρ : Rho) (x : α), inv k ρ → xs[k]? = some x → ∃ ρ', (step (mk x) ρ = some (.nx ρ') ∨ step (mk x) ρ = some (.ct ρ')) ∧ inv (k + 1) ρ') →
    ∃ ρ', forL step (xs.map mk) ρ = some (.nx ρ') ∧ inv xs.length ρ' := by
  induction xs generalizing inv with
  | nil => intro ρ h _; exact ⟨ρ, rfl, h⟩
  | cons x xs ih =>
    intro ρ h0 h
    obtain ⟨ρ1, h1, h2⟩ := h 0 ρ x h0 rfl
    obtain ⟨ρ2, h3, h4⟩ := ih (fun k => inv (k + 1)) ρ1 h2 (fun k ρ' y hk hy => h (k + 1) ρ' y hk (by simpa using hy))
    refine ⟨ρ2, ?_, h4⟩
    rw [List.map_cons]
    unfold forL
    rcases h1 with h1 | h1 <;> rw [h1] <;> exact h3
theorem shpA_ints : ∀ (ns : List Int), PyData.canLayAll0 (ns.map .int) = true ∧ PyData.depthAll (ns.map .int) = 0
  | [] => ⟨rfl, rfl⟩
  | n :: ns => by
    obtain ⟨h1, h2⟩ := shpA_ints ns
    refine ⟨?_, ?_⟩
    · rw [List.map_cons]
      unfold PyData.canLayAll0
      rw [h1]
      rfl
    · rw [List.map_cons]
      unfold PyData.depthAll
      rw [h2]
      rfl
@[simp] theorem shp_l (ns : List Int) : SeqAt.shaped (.list (ns.map .int)) = true := by
  obtain ⟨h1, h2⟩ := shpA_ints ns
  unfold SeqAt.shaped PyData.canLay0 PyData.depth
  rw [h1, h2]
  rfl
@[simp] theorem shp_t (ns : List Int) : SeqAt.shaped (.tuple (ns.map .int)) = true := by
  obtain ⟨h1, h2⟩ := shpA_ints ns
  unfold SeqAt.shaped PyData.canLay0 PyData.depth
  rw [h1, h2]
  rfl
theorem eqvA_ints : ∀ (ns ms : List Int), PyData.eqvAll (ns.map .int) (ms.map .int) = decide (ns = ms)
  | [], [] => rfl
  | [], _ :: _ => rfl
  | _ :: _, [] => rfl
  | n :: ns, m :: ms => by
    rw [List.map_cons, List.map_cons]
    unfold PyData.eqvAll
    rw [eqvA_ints ns ms]
    have e : PyData.eqv (.int n) (.int m) = decide (n = m) := by
      unfold PyData.eqv
      by_cases h : n = m <;> simp [h]
    rw [e]
    by_cases h : n = m <;> by_cases h' : ns = ms <;> simp [h, h']
@[simp] theorem eq_ll (ns ms : List Int) : eqD (.list (ns.map .int)) (.list (ms.map .int)) = some (.bool (decide (ns = ms))) := by
  unfold eqD
  rw [if_pos ⟨shp_l ns, shp_l ms⟩, ← eqvA_ints]
  rfl
@[simp] theorem eq_tt (ns ms : List Int) : eqD (.tuple (ns.map .int)) (.tuple (ms.map .int)) = some (.bool (decide (ns = ms))) := by
  unfold eqD
  rw [if_pos ⟨shp_t ns, shp_t ms⟩, ← eqvA_ints]
  rfl
@[simp] theorem eq_l0 (ns : List Int) : eqD (.list (ns.map .int)) (.list []) = some (.bool (decide (ns = []))) := eq_ll ns []
@[simp] theorem eq_f0 {α : Type} (p : α → Int) (L : List α) : eqD (.list (L.map fun x => .int (p x))) (.list []) = some (.bool L.isEmpty) := by
  have e : (L.map fun x => PyData.int (p x)) = (L.map p).map .int := by rw [List.map_map]; rfl
  rw [e, eq_l0]
  cases L <;> simp
@[simp] theorem ne_l0 (ns : List Int) : neD (.list (ns.map .int)) (.list []) = some (.bool (!decide (ns = []))) := by
  unfold neD
  rw [if_pos ⟨shp_l ns, shp_l []⟩]
  have := eqvA_ints ns []
  show some (PyData.bool (!PyData.eqvAll (ns.map .int) ([].map .int))) = _
  rw [this]
theorem mem_ints (i : Int) (ns : List Int) : memD (.int i) (ns.map .int) = decide (i ∈ ns) := by
  unfold memD
  induction ns with
  | nil => rfl
  | cons n ns ih =>
    rw [List.map_cons, List.any_cons, ih]
    have e : PyData.eqv (.int n) (.int i) = decide (n = i) := by
      unfold PyData.eqv
      by_cases h : n = i <;> simp [h]
    rw [e]
    by_cases h : n = i
    · subst h; simp
    · have h2 : ¬ i = n := fun z => h z.symm
      simp [h, h2]
@[simp] theorem in_l (i : Int) (ns : List Int) : inD (.int i) (.list (ns.map .int)) = some (.bool (decide (i ∈ ns))) := by
  unfold inD
  rw [items_l, Option.bind_some, if_pos ⟨shp_int, shp_l ns⟩, mem_ints]
@[simp] theorem in_t (i : Int) (ns : List Int) : inD (.int i) (.tuple (ns.map .int)) = some (.bool (decide (i ∈ ns))) := by
  unfold inD
  rw [items_t, Option.bind_some, if_pos ⟨shp_int, shp_t ns⟩, mem_ints]
@[simp] theorem notIn_l (i : Int) (ns : List Int) : notInD (.int i) (.list (ns.map .int)) = some (.bool (!decide (i ∈ ns))) := by
  unfold notInD
  rw [items_l, Option.bind_some, if_pos ⟨shp_int, shp_l ns⟩, mem_ints]
@[simp] theorem notIn_t (i : Int) (ns : List Int) : notInD (.int i) (.tuple (ns.map .int)) = some (.bool (!decide (i ∈ ns))) := by
  unfold notInD
  rw [items_t, Option.bind_some, if_pos ⟨shp_int, shp_t ns⟩, mem_ints]
theorem lcL_map {tt : D → Option Bool} {te : D → Option D} {α : Type} {xs : List α} {mk : α → D} {p : α → Bool} {g : α → D} (ht : ∀ x ∈ xs, tt (mk x) = some (p x)) (he : ∀ x ∈ xs, p x = true → te (mk x) = some (g x)) :
    lcL tt te (xs.map mk) = some ((xs.filter p).map g) := by
  induction xs with
  | nil => rfl
  | cons x xs ih =>
    have ih' := ih (fun y hy => ht y (List.mem_cons_of_mem _ hy)) (fun y hy => he y (List.mem_cons_of_mem _ hy))
    rw [List.map_cons]
    unfold lcL
    rw [ht x List.mem_cons_self]
    cases hp : p x with
    | true => simp [he x List.mem_cons_self hp, ih', hp]
    | false => simp [ih', hp]
/-- a comprehension without if -/
theorem lcL_all {tt : D → Option Bool} {te : D → Option D} {α : Type} {xs : List α} {mk : α → D} {g : α → D} (ht : ∀ x ∈ xs, tt (mk x) = some true) (he : ∀ x ∈ xs, te (mk x) = some (g x)) :
    lcL tt te (xs.map mk) = some (xs.map g) := by
  have := lcL_map (p := fun _ => true) ht (fun x hx _ => he x hx)
  rw [List.filter_eq_self.mpr (fun _ _ => rfl)] at this
  exact this
/-- a for loop whose every turn goes on -/
theorem forL_fold {σ α : Type} {step : D → Bd} {xs : List α} {mk : α → D} {enc : σ → Rho} {st : σ → α → σ} (inv : Nat → σ → Prop) : ∀ (s : σ), inv 0 s → (∀ (k : Nat) (s : σ) (x : α), inv k s → xs[k]? = some x → inv (k + 1) (st s x) ∧ (step (mk x) (enc s) = some (.nx (enc (st s x))) ∨ step (mk x) (enc s) = some (.ct (enc (st s x))))) →
    forL step (xs.map mk) (enc s) = some (.nx (enc (xs.foldl st s))) ∧ inv xs.length (xs.foldl st s) := by
  induction xs generalizing inv with
  | nil => intro s h _; exact ⟨rfl, h⟩
  | cons x xs ih =>
    intro s h0 h
    obtain ⟨h1, h2⟩ := h 0 s x h0 rfl
    have := ih (fun k => inv (k + 1)) (st s x) h1 (fun k s' y hk hy => h (k + 1) s' y hk (by simpa using hy))
    refine ⟨?_, this.2⟩
    rw [List.map_cons]
    unfold forL
    rcases h2 with h2 | h2 <;> rw [h2] <;> exact this.1
end Q
end

/-! part: Q14 -/
section
set_option Elab.async false
set_option linter.all false
set_option maxRecDepth 100000
set_option maxHeartbeats 4000000
set_option autoImplicit false
namespace Q
open PySem PySem.Spec PySem.Calls PyProof.Rows L2
/-! ### the same operations, quick for the kernel -/
def ltF : D → D → Option D
  | .int a, .int b => some (.bool (decide (a < b)))
  | d, e => ltD d e
def gtF : D → D → Option D
  | .int a, .int b => some (.bool (decide (b < a)))
  | d, e => gtD d e
def leF : D → D → Option D
  | .int a, .int b => some (.bool (decide (a ≤ b)))
  | d, e => leD d e
def geF : D → D → Option D
  | .int a, .int b => some (.bool (decide (b ≤ a)))
  | d, e => geD d e
def eqF : D → D → Option D
  | .int a, .int b => some (.bool (a == b))
  | .list ds, .list [] => match intsOf ds with
    | some ns => some (.bool (decide (ns = [])))
    | none => eqD (.list ds) (.list [])
  | d, e => eqD d e
def neF : D → D → Option D
  | .int a, .int b => some (.bool (!(a == b)))
  | .list ds, .list [] => match intsOf ds with
    | some ns => some (.bool (!decide (ns = [])))
    | none => neD (.list ds) (.list [])
  | d, e => neD d e
def inF : D → D → Option D
  | .int a, .list ds => match intsOf ds with
    | some ns => some (.bool (decide (a ∈ ns)))
    | none => inD (.int a) (.list ds)
  | .int a, .tuple ds => match intsOf ds with
    | some ns => some (.bool (decide (a ∈ ns)))
    | none => inD (.int a) (.tuple ds)
  | d, e => inD d e
def notInF : D → D → Option D
  | .int a, .list ds => match intsOf ds with
    | some ns => some (.bool (!decide (a ∈ ns)))
    | none => notInD (.int a) (.list ds)
  | .int a, .tuple ds => match intsOf ds with
    | some ns => some (.bool (!decide (a ∈ ns)))
    | none => notInD (.int a) (.tuple ds)
  | d, e => notInD d e
theorem ltF_eq : ltD = ltF := by
  funext d e
  unfold ltF
  split <;> simp
theorem gtF_eq : gtD = gtF := by
  funext d e
  unfold gtF
  split <;> simp
theorem leF_eq : leD = leF := by
  funext d e
  unfold leF
  split <;> simp
theorem geF_eq : geD = geF := by
  funext d e
  unfold geF
  split <;> simp
theorem eqF_eq : eqD = eqF := by
  funext d e
  unfold eqF
  split
  · simp
  · split
    · rename_i h
      rw [intsOf_map h, eq_l0]
    · rfl
  · rfl
theorem neF_eq : neD = neF := by
  funext d e
  unfold neF
  split
  · simp
  · split
    · rename_i h
      rw [intsOf_map h, ne_l0]
    · rfl
  · rfl
theorem inF_eq : inD = inF := by
  funext d e
  unfold inF
  split
  · split
    · rename_i h
      rw [intsOf_map h, in_l]
    · rfl
  · split
    · rename_i h
      rw [intsOf_map h, in_t]
    · rfl
  · rfl
theorem notInF_eq : notInD = notInF := by
  funext d e
  unfold notInF
  split
  · split
    · rename_i h
      rw [intsOf_map h, notIn_l]
    · rfl
  · split
    · rename_i h
      rw [intsOf_map h, notIn_t]
    · rfl
  · rfl
/-! min, max of a list of ints -/
theorem bestOk_ints (xs : List Int) : bestOk (xs.map .int) = true := by
  unfold bestOk
  rw [(shpA_ints xs).2]
  simp only [Bool.and_eq_true, List.all_eq_true, List.mem_map, forall_exists_index, and_imp, forall_apply_eq_imp_iff₂]
  refine ⟨⟨fun a _ b _ => ?_, fun a _ => trivial⟩, by decide⟩
  with_unfolding_all rfl
theorem minOf_i (n : Int) (ns : List Int) : minOf ((n :: ns).map .int) = some (.int (ns.foldl min n)) := by
  have h := bestOk_ints (n :: ns)
  rw [List.map_cons] at h ⊢
  rw [minOf, if_pos h, PySem.W.minD_ints]
theorem maxOf_i (n : Int) (ns : List Int) : maxOf ((n :: ns).map .int) = some (.int (ns.foldl max n)) := by
  have h := bestOk_ints (n :: ns)
  rw [List.map_cons] at h ⊢
  rw [maxOf, if_pos h, PySem.W.maxD_ints]
def minF : List D → Option D
  | [.list ds] => match intsOf ds with
    | some (n :: ns) => some (.int (ns.foldl min n))
    | _ => minA [.list ds]
  | ds => minA ds
def maxF : List D → Option D
  | [.list ds] => match intsOf ds with
    | some (n :: ns) => some (.int (ns.foldl max n))
    | _ => maxA [.list ds]
  | ds => maxA ds
theorem minF_eq : minA = minF := by
  funext ds
  unfold minF
  split
  · split
    · rename_i h
      rw [intsOf_map h, minA, items_l, Option.bind_some, minOf_i]
    · rfl
  · rfl
theorem maxF_eq : maxA = maxF := by
  funext ds
  unfold maxF
  split
  · split
    · rename_i h
      rw [intsOf_map h, maxA, items_l, Option.bind_some, maxOf_i]
    · rfl
  · rfl
end Q
end

/-! part: Q15 -/
section
set_option Elab.async false
set_option linter.all false
set_option maxRecDepth 100000
set_option maxHeartbeats 4000000
set_option autoImplicit false
namespace Q
open PySem PySem.Spec PySem.Calls PyProof.Rows L2
/-! ### x.index(y), x.count(y): lists and tuples of data -/
section
variable {X : Cx} {pins : List (Addr × Obj)} {σ : L2.St} {H : Hp} {s : Shared}
theorem tupAt_is (I : Inv X pins σ H s) {a : Addr} {xs : List V} (h : TupAt X.K H a xs) : s.TypeIs (.ref a) "tuple" ∧ ∀ b, Value.ref a = .ref b → ∃ ob, s.heap.get? b = some ob ∧ ob.dict = none := by
  rcases h with ⟨o, h, hc, hd⟩ | ⟨o, its, n, h, hc, hd, _⟩
  · have e := (I.hok a _ h).1
    exact ⟨⟨o, e, hc⟩, fun b z => by cases z; exact ⟨o, e, hd⟩⟩
  · have e := I.kIn a o h
    exact ⟨⟨o, e, hc⟩, fun b z => by cases z; exact ⟨o, e, hd⟩⟩
theorem listAt_is (I : Inv X pins σ H s) {a : Addr} {xs : List V} (h : SqL X.K H a xs) : s.TypeIs (.ref a) "list" ∧ ∀ b, Value.ref a = .ref b → ∃ ob, s.heap.get? b = some ob ∧ ob.dict = none := by
  obtain ⟨its, _, pl, _⟩ := I.list h
  refine ⟨pl.isList.typeIs, fun b z => ?_⟩
  cases z
  obtain ⟨o, n, e, c, hd, _⟩ := pl
  exact ⟨o, e, hd⟩
/-- a method of lists or of tuples -/
def tSM (K : PySem.W.Frag) (rl rt : V → List V → Hp → VK → Prop) (to : TE) (t : TA) : TE := fun σ H Q => to σ H fun x H1 =>
  ((∃ p xs, x = V.ref p ∧ SqL K H1 p xs) ∧ t σ H1 fun ys H2 => rl x ys H2 Q) ∨ ((∃ p xs, x = V.ref p ∧ TupAt K H1 p xs) ∧ t σ H1 fun ys H2 => rt x ys H2 Q)
variable {o e : Expr} {es : List Expr} {to : TE} {t : TA} {name : Str} {apos cpos : Pos} {idl idt : String} {rl rt : V → List V → Hp → VK → Prop}
theorem pe_sm (sl : Slot "list" name idl) (hl : typeOf (.builtin idl) = pure (.type "method_descriptor")) (ml : MtR X idl rl) (st : Slot "tuple" name idt) (ht : typeOf (.builtin idt) = pure (.type "method_descriptor")) (mt : MtR X idt rt)
    (ho : PE X o to) (ha : PA X (e :: es) t) (hbase : attributeBase o name X.env (eval o X.env) = eval o X.env := by rfl)
    (hfew : ((backTo cpos (starEach (e :: es) X.env)).all (fun x => !x.1) && (backToKw cpos (keywordEach [] X.env)).all (fun x => x.1.isSome)
        && decide ((e :: es).length + ([] : List Keyword).length + (if ([] : List Keyword).isEmpty then 0 else 1) < 30)) = true := by rfl)
    (hline : (apos.endLine == cpos.line) = true := by rfl) (hs : starEach (e :: es) X.env = (false, eval e X.env) :: starEach es X.env := by rfl) (hplain : (backTo cpos (starEach es X.env)).any (·.1) = false := by rfl) :
    PE X (.Call (.Attribute o name apos) (e :: es) [] cpos) (tSM X.K rl rt to t) := by
  constructor
  intro pins s σ H Q I h
  refine wpAny_Call_method_late hbase hfew hline rfl (thn (ho.run pins s σ H _ I h) fun v s1 ⟨x, H1, I1, r1, q1⟩ => ?_)
  rcases q1 with ⟨⟨p, xs, rfl, hx⟩, q1⟩ | ⟨⟨p, xs, rfl, hx⟩, q1⟩
  · cases r1
    obtain ⟨h1, h2⟩ := listAt_is I1 hx
    refine ⟨"list", idl, PySem.F.plainAttrs_list, sl, hl, h1, h2, ?_⟩
    have hA := ha.run cpos pins s1 σ H1 _ I1 q1
    rw [hs] at hA ⊢
    exact Calls.callWith_builtin (by show (false || (backTo cpos (starEach es X.env)).any (·.1)) = false; rw [hplain] <;> rfl) (Calls.evalArgs_plain (thn hA fun us s2 ⟨vs, H2, I2, r2, q2⟩ => ml pins s2 σ H2 (V.ref p) vs _ us Q I2 rfl r2 q2))
  · cases r1
    obtain ⟨h1, h2⟩ := tupAt_is I1 hx
    refine ⟨"tuple", idt, PySem.F.plainAttrs_tuple, st, ht, h1, h2, ?_⟩
    have hA := ha.run cpos pins s1 σ H1 _ I1 q1
    rw [hs] at hA ⊢
    exact Calls.callWith_builtin (by show (false || (backTo cpos (starEach es X.env)).any (·.1)) = false; rw [hplain] <;> rfl) (Calls.evalArgs_plain (thn hA fun us s2 ⟨vs, H2, I2, r2, q2⟩ => mt pins s2 σ H2 (V.ref p) vs _ us Q I2 rfl r2 q2))
end
/-- what the two methods ask of the data -/
def smOk (d : D) (ds : List D) : Bool := PyData.plainAll ds && d.plain && decide (d.depth ≤ 64)
def rCntL (K : PySem.W.Frag) : V → List V → Hp → VK → Prop := fun x ys H Q => ∃ a y d ds, x = V.ref a ∧ ys = [y] ∧ Dp K H (.ref a) (.list ds) ∧ Dp K H y d ∧ smOk d ds = true ∧ Q (.int ((ds.countP fun z => PyData.eqv z d : Nat) : Int)) H
def rCntT (K : PySem.W.Frag) : V → List V → Hp → VK → Prop := fun x ys H Q => ∃ a y d ds, x = V.ref a ∧ ys = [y] ∧ Dp K H (.ref a) (.tuple ds) ∧ Dp K H y d ∧ smOk d ds = true ∧ Q (.int ((ds.countP fun z => PyData.eqv z d : Nat) : Int)) H
def rIdxL (K : PySem.W.Frag) : V → List V → Hp → VK → Prop := fun x ys H Q => ∃ a y d ds j, x = V.ref a ∧ ys = [y] ∧ Dp K H (.ref a) (.list ds) ∧ Dp K H y d ∧ smOk d ds = true ∧ SeqAt.dataPlace ds d = some j ∧ Q (.int (j : Nat)) H
def rIdxT (K : PySem.W.Frag) : V → List V → Hp → VK → Prop := fun x ys H Q => ∃ a y d ds j, x = V.ref a ∧ ys = [y] ∧ Dp K H (.ref a) (.tuple ds) ∧ Dp K H y d ∧ smOk d ds = true ∧ SeqAt.dataPlace ds d = some j ∧ Q (.int (j : Nat)) H
theorem smOk_of {d : D} {ds : List D} (h : smOk d ds = true) : PyData.plainAll ds = true ∧ d.plain = true ∧ d.depth ≤ 64 := by
  unfold smOk at h
  simp only [Bool.and_eq_true, decide_eq_true_eq] at h
  exact ⟨h.1.1, h.1.2, h.2⟩
section
variable {X : Cx}
theorem room_sm {A : Around} {d : D} {ds : List D} (h : d.depth ≤ 64) (hu : A.units + 65 < cLine) : A.units + 1 + min (PyData.depthAll ds) d.depth < cLine := by
  have : min (PyData.depthAll ds) d.depth ≤ d.depth := Nat.min_le_right _ _
  omega
theorem vals_one {y : V} {us : List Value} (h : Vals [y] us) : ∃ u, us = [u] ∧ RelV y u := by
  cases h with
  | cons r t => cases t; exact ⟨_, rfl, r⟩
theorem mt_cntL (hu : X.A.units + 65 < cLine) : MtR X "list.count" (rCntL X.K) := by
  intro pins s σ H x xs v us Q I rx rxs ⟨a, y, d, ds, e1, e2, hl, hy, ok, q⟩
  subst e1 e2
  cases rx
  obtain ⟨u, rfl, ry⟩ := vals_one rxs
  obtain ⟨h1, h2, h3⟩ := smOk_of ok
  obtain ⟨bs, rd⟩ := Dp.reads I d y u hy ry
  cases hl with
  | lst hs ha =>
    obtain ⟨its, rv, pl, hz⟩ := I.list hs
    obtain ⟨as, ra⟩ := Dp.readsAll I ds _ its ha rv
    exact SeqAt.count_list_data pl.isList (show ReadsAll s.heap its.toArray.toList ds as from ra) rd h1 h2 (room_sm h3 hu) ⟨.int ((ds.countP fun z => PyData.eqv z d : Nat) : Int), H, I.tok _, ⟨_, rfl⟩, q⟩
theorem mt_cntT (hu : X.A.units + 65 < cLine) : MtR X "tuple.count" (rCntT X.K) := by
  intro pins s σ H x xs v us Q I rx rxs ⟨a, y, d, ds, e1, e2, hl, hy, ok, q⟩
  subst e1 e2
  cases rx
  obtain ⟨u, rfl, ry⟩ := vals_one rxs
  obtain ⟨h1, h2, h3⟩ := smOk_of ok
  obtain ⟨bs, rd⟩ := Dp.reads I d y u hy ry
  cases hl with
  | tup hs ha =>
    obtain ⟨its, rv, pl, hz⟩ := I.tuple hs
    obtain ⟨as, ra⟩ := Dp.readsAll I ds _ its ha rv
    exact SeqAt.count_tuple_data pl (show ReadsAll s.heap its.toArray.toList ds as from ra) rd h1 h2 (room_sm h3 hu) ⟨.int ((ds.countP fun z => PyData.eqv z d : Nat) : Int), H, I.tok _, ⟨_, rfl⟩, q⟩
theorem mt_idxL (hu : X.A.units + 65 < cLine) : MtR X "list.index" (rIdxL X.K) := by
  intro pins s σ H x xs v us Q I rx rxs ⟨a, y, d, ds, j, e1, e2, hl, hy, ok, hj, q⟩
  subst e1 e2
  cases rx
  obtain ⟨u, rfl, ry⟩ := vals_one rxs
  obtain ⟨h1, h2, h3⟩ := smOk_of ok
  obtain ⟨bs, rd⟩ := Dp.reads I d y u hy ry
  cases hl with
  | lst hs ha =>
    obtain ⟨its, rv, ⟨⟨cls, dd, data, sl⟩, n, ho, hc, hdn, hdt⟩, hz⟩ := I.list hs
    simp only at hc hdt
    subst hc hdt
    obtain ⟨as, ra⟩ := Dp.readsAll I ds _ its ha rv
    have ra' : ReadsAll s.heap its.toArray.toList ds as := ra
    obtain ⟨k1, k2, k3⟩ := SeqAt.hit_at ra' h1 hj
    have hsz : its.toArray.size ≤ sizeLine := by rw [List.size_toArray, ← rv.length]; exact hz
    have hsl := sizeLine_eq
    exact call_meets PySem.F.slot_list_index ⟨_, ho, rfl⟩ PySem.F.entry_list_index (PySem.F.args_list_index_2 _ _) (SeqAt.list_indexAt a its.toArray n dd sl u (fun z => PyData.eqv (SeqAt.readOf s.heap z) d) j k1 (by omega) k2 k3)
      ⟨ho, SeqAt.items_plain ra' rd h1 h2 (room_sm h3 hu), ⟨.int (j : Nat), H, I.tok _, ⟨_, rfl⟩, q⟩⟩
theorem mt_idxT (hu : X.A.units + 65 < cLine) : MtR X "tuple.index" (rIdxT X.K) := by
  intro pins s σ H x xs v us Q I rx rxs ⟨a, y, d, ds, j, e1, e2, hl, hy, ok, hj, q⟩
  subst e1 e2
  cases rx
  obtain ⟨u, rfl, ry⟩ := vals_one rxs
  obtain ⟨h1, h2, h3⟩ := smOk_of ok
  obtain ⟨bs, rd⟩ := Dp.reads I d y u hy ry
  cases hl with
  | tup hs ha =>
    obtain ⟨its, rv, ⟨⟨cls, dd, data, sl⟩, ho, hc, n, hdt⟩, hz⟩ := I.tuple hs
    simp only at hc hdt
    subst hc hdt
    obtain ⟨as, ra⟩ := Dp.readsAll I ds _ its ha rv
    have ra' : ReadsAll s.heap its.toArray.toList ds as := ra
    obtain ⟨k1, k2, k3⟩ := SeqAt.hit_at ra' h1 hj
    exact call_meets PySem.F.slot_tuple_index ⟨_, ho, rfl⟩ PySem.F.entry_tuple_index (PySem.F.args_tuple_index_2 _ _) (TI.tuple_indexAt a its.toArray n dd sl u (fun z => PyData.eqv (SeqAt.readOf s.heap z) d) j k1 k2 k3)
      ⟨ho, SeqAt.items_plain ra' rd h1 h2 (room_sm h3 hu), ⟨.int (j : Nat), H, I.tok _, ⟨_, rfl⟩, q⟩⟩
end
def cntD (d e : D) : Option D := (itemsD d).bind fun ds => if smOk e ds = true then some (.int ((ds.countP fun z => PyData.eqv z e : Nat) : Int)) else none
def idxD (d e : D) : Option D := (itemsD d).bind fun ds => if smOk e ds = true then (SeqAt.dataPlace ds e).map fun j => .int (j : Nat) else none
section
variable {X : Cx} {m m1 m2 : Md} {o e : Expr} {to te : TE} {f g : Rho → Option D} {apos cpos : Pos}
theorem if_opt {α : Type} {p : Prop} [Decidable p] {x : Option α} {z : α} (h : (if p then x else none) = some z) : p ∧ x = some z := by
  by_cases hp : p
  · rw [if_pos hp] at h; exact ⟨hp, h⟩
  · rw [if_neg hp] at h; cases h
theorem sem_sm {K : PySem.W.Frag} {rl rt : V → List V → Hp → VK → Prop} {h : D → D → Option D}
    (hl : ∀ (F H : Hp) (x y : V) (ds : List D) (d z : D) (Q : VK), (∃ a, x = V.ref a ∧ Dp K H x (.list ds)) → Dp K H y d → Same F H → h (.list ds) d = some z → (∀ v F' H', Ext F H F' H' → Res K .fz H F' H' v z → Q v H') → rl x [y] H Q)
    (ht : ∀ (F H : Hp) (x y : V) (ds : List D) (d z : D) (Q : VK), (∃ a, x = V.ref a ∧ Dp K H x (.tuple ds)) → Dp K H y d → Same F H → h (.tuple ds) d = some z → (∀ v F' H', Ext F H F' H' → Res K .fz H F' H' v z → Q v H') → rt x [y] H Q)
    (hn : ∀ d e z, h d e = some z → ∃ ds, itemsD d = some ds) (ho : SemE K m1 to f) (ha : SemE K m2 te g) : SemE K .fz (tSM K rl rt to (tCons te tNil)) (f2 h f g) := by
  intro B F H σ ρ z Q r hf q
  obtain ⟨d, h1, h2⟩ := bind_some hf
  obtain ⟨e, h3, h4⟩ := bind_some h2
  obtain ⟨ds, hd⟩ := hn d e z h4
  refine ho B F H σ ρ d _ r h1 fun v F1 H1 x1 r1 => ?_
  cases d with
  | list ds' =>
    obtain ⟨a, xs, rfl, s1, p1⟩ := r1.list x1.s
    refine .inl ⟨⟨a, xs, rfl, s1⟩, ?_⟩
    refine ha B F1 H1 σ ρ e _ (r.ext x1) h3 fun u F2 H2 x2 r2 => ?_
    have x3 := x1.trans x2
    exact hl F2 H2 _ u ds' e z Q ⟨a, rfl, (r1.mono x2).dp x2.s⟩ (r2.dp x2.s) x2.s h4 fun v' F' H' x' r' => q v' F' H' (x3.trans x') (r'.back (F1 := F2) (x1.h.trans x2.h))
  | tuple ds' =>
    obtain ⟨a, xs, rfl, s1, p1⟩ := r1.tup x1.s
    refine .inr ⟨⟨a, xs, rfl, s1⟩, ?_⟩
    refine ha B F1 H1 σ ρ e _ (r.ext x1) h3 fun u F2 H2 x2 r2 => ?_
    have x3 := x1.trans x2
    exact ht F2 H2 _ u ds' e z Q ⟨a, rfl, (r1.mono x2).dp x2.s⟩ (r2.dp x2.s) x2.s h4 fun v' F' H' x' r' => q v' F' H' (x3.trans x') (r'.back (F1 := F2) (x1.h.trans x2.h))
  | _ => cases hd
theorem de_index (K' : PySem.W.Frag) (hu : X.A.units + 65 < cLine) (ho : DE X m1 o to f) (he : DE X m2 e te g) (hK : X.K = K' := by rfl) (hbase : attributeBase o "index" X.env (eval o X.env) = eval o X.env := by rfl)
    (hfew : ((backTo cpos (starEach [e] X.env)).all (fun x => !x.1) && (backToKw cpos (keywordEach [] X.env)).all (fun x => x.1.isSome)
        && decide ([e].length + ([] : List Keyword).length + (if ([] : List Keyword).isEmpty then 0 else 1) < 30)) = true := by rfl)
    (hline : (apos.endLine == cpos.line) = true := by rfl) (hs : starEach [e] X.env = (false, eval e X.env) :: starEach [] X.env := by rfl) (hplain : (backTo cpos (starEach [] X.env)).any (·.1) = false := by rfl) :
    DE X .fz (.Call (.Attribute o "index" apos) [e] [] cpos) (tSM K' (rIdxL K') (rIdxT K') to (tCons te tNil)) (f2 idxD f g) := by
  subst hK
  refine ⟨pe_sm PySem.F.slot_list_index PySem.F.type_list_index (mt_idxL hu) PySem.F.slot_tuple_index PySem.F.type_tuple_index (mt_idxT hu) ho.p (pa_cons he.p pa_nil hs) hbase hfew hline hs hplain, sem_sm (fun F H x y ds d z Q ⟨a, ex, hx⟩ hy fh hz q => ?_) (fun F H x y ds d z Q ⟨a, ex, hx⟩ hy fh hz q => ?_) (fun d e z h => ?_) ho.s he.s⟩
  · subst ex
    obtain ⟨h1, h2⟩ := if_opt (show (if smOk d ds = true then ((SeqAt.dataPlace ds d).map fun j => PyData.int (j : Nat)) else none) = some z from hz)
    obtain ⟨j, h3, rfl⟩ := Option.map_eq_some_iff.mp h2
    exact ⟨a, y, d, ds, j, rfl, rfl, hx, hy, h1, h3, q _ F H (.refl fh) (Rep.int _)⟩
  · subst ex
    obtain ⟨h1, h2⟩ := if_opt (show (if smOk d ds = true then ((SeqAt.dataPlace ds d).map fun j => PyData.int (j : Nat)) else none) = some z from hz)
    obtain ⟨j, h3, rfl⟩ := Option.map_eq_some_iff.mp h2
    exact ⟨a, y, d, ds, j, rfl, rfl, hx, hy, h1, h3, q _ F H (.refl fh) (Rep.int _)⟩
  · obtain ⟨ds, h1, _⟩ := bind_some h
    exact ⟨ds, h1⟩
theorem de_count (K' : PySem.W.Frag) (hu : X.A.units + 65 < cLine) (ho : DE X m1 o to f) (he : DE X m2 e te g) (hK : X.K = K' := by rfl) (hbase : attributeBase o "count" X.env (eval o X.env) = eval o X.env := by rfl)
    (hfew : ((backTo cpos (starEach [e] X.env)).all (fun x => !x.1) && (backToKw cpos (keywordEach [] X.env)).all (fun x => x.1.isSome)
        && decide ([e].length + ([] : List Keyword).length + (if ([] : List Keyword).isEmpty then 0 else 1) < 30)) = true := by rfl)
    (hline : (apos.endLine == cpos.line) = true := by rfl) (hs : starEach [e] X.env = (false, eval e X.env) :: starEach [] X.env := by rfl) (hplain : (backTo cpos (starEach [] X.env)).any (·.1) = false := by rfl) :
    DE X .fz (.Call (.Attribute o "count" apos) [e] [] cpos) (tSM K' (rCntL K') (rCntT K') to (tCons te tNil)) (f2 cntD f g) := by
  subst hK
  refine ⟨pe_sm PySem.F.slot_list_count PySem.F.type_list_count (mt_cntL hu) PySem.F.slot_tuple_count PySem.F.type_tuple_count (mt_cntT hu) ho.p (pa_cons he.p pa_nil hs) hbase hfew hline hs hplain, sem_sm (fun F H x y ds d z Q ⟨a, ex, hx⟩ hy fh hz q => ?_) (fun F H x y ds d z Q ⟨a, ex, hx⟩ hy fh hz q => ?_) (fun d e z h => ?_) ho.s he.s⟩
  · subst ex
    obtain ⟨h1, rfl⟩ := if_some (show (if smOk d ds = true then some (PyData.int ((ds.countP fun z => PyData.eqv z d : Nat) : Int)) else none) = some z from hz)
    exact ⟨a, y, d, ds, rfl, rfl, hx, hy, h1, q _ F H (.refl fh) (Rep.int _)⟩
  · subst ex
    obtain ⟨h1, rfl⟩ := if_some (show (if smOk d ds = true then some (PyData.int ((ds.countP fun z => PyData.eqv z d : Nat) : Int)) else none) = some z from hz)
    exact ⟨a, y, d, ds, rfl, rfl, hx, hy, h1, q _ F H (.refl fh) (Rep.int _)⟩
  · obtain ⟨ds, h1, _⟩ := bind_some h
    exact ⟨ds, h1⟩
end
end Q
end

/-! part: Q16 -/
section
set_option Elab.async false
set_option linter.all false
set_option maxRecDepth 100000
set_option maxHeartbeats 4000000
set_option autoImplicit false
namespace Q
open PySem PySem.Spec PySem.Calls PyProof.Rows L2
/-! ### more for the plain part -/
/-- a for loop that may return: the first x at which it stops -/
theorem forL_some {α : Type} {step : D → Bd} {mk : α → D} (stop : α → Option D) : ∀ (xs : List α) (inv : Nat → Rho → Prop) (ρ : Rho), inv 0 ρ →
    (∀ (k : Nat) (ρ : Rho) (x : α), inv k ρ → xs[k]? = some x → (∀ d, stop x = some d → step (mk x) ρ = some (.rt d)) ∧ (stop x = none → ∃ ρ', step (mk x) ρ = some (.nx ρ') ∧ inv (k + 1) ρ')) →
    (∀ d, xs.findSome? stop = some d → forL step (xs.map mk) ρ = some (.rt d)) ∧ (xs.findSome? stop = none → ∃ ρ', forL step (xs.map mk) ρ = some (.nx ρ') ∧ inv xs.length ρ')
  | [], inv, ρ, h0, _ => ⟨fun d h => by simp at h, fun _ => ⟨ρ, rfl, h0⟩⟩
  | x :: xs, inv, ρ, h0, h => by
    obtain ⟨a1, a2⟩ := h 0 ρ x h0 rfl
    cases hs : stop x with
    | some d =>
      refine ⟨fun d' h' => ?_, fun h' => ?_⟩
      · rw [List.findSome?_cons, hs] at h'
        cases h'
        rw [List.map_cons]
        unfold forL
        rw [a1 d hs]
        rfl
      · rw [List.findSome?_cons, hs] at h'
        cases h'
    | none =>
      obtain ⟨ρ1, b1, b2⟩ := a2 hs
      obtain ⟨c1, c2⟩ := forL_some stop xs (fun k => inv (k + 1)) ρ1 b2 (fun k ρ' y hk hy => h (k + 1) ρ' y hk (by simpa using hy))
      refine ⟨fun d' h' => ?_, fun h' => ?_⟩
      · rw [List.findSome?_cons, hs] at h'
        rw [List.map_cons]
        unfold forL
        rw [b1]
        exact c1 d' h'
      · rw [List.findSome?_cons, hs] at h'
        rw [List.map_cons]
        unfold forL
        rw [b1]
        exact c2 h'
theorem rg2_n {lo hi : Int} (h1 : -100000 ≤ lo ∧ lo ≤ 100000) (h2 : -100000 ≤ hi ∧ hi ≤ 100000) : rg2D [.int lo, .int hi] = some ((List.range (hi - lo).toNat).map fun i => .int (lo + (i : Nat))) := by
  rw [rg2D, if_pos (by omega)]
  rfl
theorem numL_ints : ∀ (ns : List Int) (k : Nat), numL k (ns.map .int) = (List.range ns.length).map fun i => .tuple [.int ((k + i : Nat) : Int), .int (ns.getD i 0)]
  | [], _ => rfl
  | n :: ns, k => by
    rw [List.map_cons, numL, numL_ints ns (k + 1), List.length_cons, List.range_succ_eq_map, List.map_cons, List.map_map]
    congr 1
    apply List.map_congr_left
    intro i _
    simp [Nat.add_assoc, Nat.add_comm 1 i]
theorem ints_ex : ∀ (l : List D), (∀ d ∈ l, ∃ n : Int, d = .int n) → ∃ ms : List Int, l = ms.map .int
  | [], _ => ⟨[], rfl⟩
  | d :: l, h => by
    obtain ⟨n, rfl⟩ := h d List.mem_cons_self
    obtain ⟨ms, rfl⟩ := ints_ex l fun e he => h e (List.mem_cons_of_mem _ he)
    exact ⟨n :: ms, rfl⟩
theorem srtOk_ints (ns : List Int) : srtOk (ns.map .int) = true := by
  unfold srtOk
  simp only [Bool.and_eq_true, Bool.or_eq_true, List.all_eq_true, List.mem_map, forall_exists_index, and_imp, forall_apply_eq_imp_iff₂]
  refine ⟨⟨fun a _ b _ => ?_, .inr fun a _ => trivial⟩, fun a _ => ?_⟩
  · with_unfolding_all rfl
  · with_unfolding_all rfl
theorem srt_ex (ns : List Int) : ∃ ms : List Int, srt (ns.map .int) = ms.map .int ∧ ms.length = ns.length := by
  have hp : (srt (ns.map .int)).Perm (ns.map .int) := List.mergeSort_perm _ _
  obtain ⟨ms, e⟩ := ints_ex (srt (ns.map .int)) fun d hd => by
    obtain ⟨n, _, rfl⟩ := List.mem_map.mp (hp.mem_iff.mp hd)
    exact ⟨n, rfl⟩
  refine ⟨ms, e, ?_⟩
  have := hp.length_eq
  rw [e] at this
  simpa using this
theorem sorted_t (ns : List Int) : sortedD [.tuple (ns.map .int)] = some (.list (srt (ns.map .int))) := by
  rw [sortedD, items_t, Option.bind_some, if_pos (srtOk_ints ns)]
theorem sorted_l (ns : List Int) : sortedD [.list (ns.map .int)] = some (.list (srt (ns.map .int))) := by
  rw [sortedD, items_l, Option.bind_some, if_pos (srtOk_ints ns)]
/-- (2, v) < (2, w) -/
theorem lt_key (v w : Int) : ltD (.tuple [.int 2, .int v]) (.tuple [.int 2, .int w]) = some (.bool (decide (v < w))) := by
  have ok : ordOk (.tuple [.int 2, .int v]) (.tuple [.int 2, .int w]) = true := by with_unfolding_all rfl
  unfold ltD
  rw [if_pos ok, PySem.W.dataLt_tuple]
  have a1 : PySem.W.alike (.int 2) (.int 2) = true := by with_unfolding_all rfl
  have a2 : PySem.W.alike (.int v) (.int w) = true := by with_unfolding_all rfl
  rw [PySem.W.dataLt_all_yes a1 (by with_unfolding_all rfl)]
  cases he : PyData.eqv (.int v) (.int w) with
  | false => rw [PySem.W.dataLt_all_no a2 he, PySem.W.dataLt_int]
  | true =>
    rw [PySem.W.dataLt_all_yes a2 he]
    have e : v = w := by
      unfold PyData.eqv at he
      exact eq_of_beq he
    subst e
    simp only [Int.lt_irrefl, decide_false]
    with_unfolding_all rfl
theorem head_filter {α : Type} (p : α → Bool) (xs : List α) : (xs.filter p).head? = xs.find? p := List.head?_filter ..
/-- the ints sorted -/
def sI (ns : List Int) : List Int := (intsOf (srt (ns.map .int))).getD []
theorem srt_sI (ns : List Int) : srt (ns.map .int) = (sI ns).map .int := by
  obtain ⟨ms, e, _⟩ := srt_ex ns
  unfold sI
  rw [e, intsOf_ints]
  rfl
theorem sI_len (ns : List Int) : (sI ns).length = ns.length := by
  obtain ⟨ms, e, h⟩ := srt_ex ns
  unfold sI
  rw [e, intsOf_ints]
  exact h
@[simp] theorem sorted_ti (ns : List Int) : sortedD [.tuple (ns.map .int)] = some (.list ((sI ns).map .int)) := by rw [sorted_t, srt_sI]
@[simp] theorem sorted_li (ns : List Int) : sortedD [.list (ns.map .int)] = some (.list ((sI ns).map .int)) := by rw [sorted_l, srt_sI]
theorem lcL_no {tt : D → Option Bool} {te : D → Option D} : ∀ {ds : List D}, (∀ d ∈ ds, tt d = some false) → lcL tt te ds = some []
  | [], _ => rfl
  | d :: ds, h => by
    unfold lcL
    rw [h d List.mem_cons_self]
    exact lcL_no fun e he => h e (List.mem_cons_of_mem _ he)
theorem range_cut (b : Nat → Bool) (m : Nat) : ∀ n : Nat, ((List.range (m + n)).filter fun i => decide (i < m) && b i) = (List.range m).filter b
  | 0 => by
    apply List.filter_congr
    intro i hi
    have : i < m := List.mem_range.mp hi
    simp [this]
  | n + 1 => by
    rw [← Nat.add_assoc, List.range_succ, List.filter_append, range_cut b m n]
    have : ¬ (m + n < m) := by omega
    simp [this]
theorem find_guard {α β : Type} (b : α → Bool) (f : α → β) : ∀ xs : List α, (xs.findSome? fun i => if b i = true then some (f i) else none) = (xs.find? b).map f
  | [] => rfl
  | x :: xs => by
    rw [List.findSome?_cons, List.find?_cons]
    cases h : b x with
    | true => simp
    | false => simpa using find_guard b f xs
theorem find_range (b : Nat → Bool) (m n : Nat) (i : Nat) (h : (List.range m).find? b = some i) : (List.range (m + n)).find? b = some i := by
  have e : List.range (m + n) = List.range m ++ (List.range n).map (m + ·) := List.range_add ..
  rw [e, List.find?_append, h]
  rfl
@[simp] theorem isB_bb {a b : Bool} : isBD (.bool a) (.bool b) = some (.bool (a == b)) := by cases a <;> cases b <;> rfl
@[simp] theorem notB_bb {a b : Bool} : notBD (.bool a) (.bool b) = some (.bool (!(a == b))) := by cases a <;> cases b <;> rfl
@[simp] theorem ne_f0 {α : Type} (p : α → Int) (L : List α) : neD (.list (L.map fun x => .int (p x))) (.list []) = some (.bool (!L.isEmpty)) := by
  have e : (L.map fun x => PyData.int (p x)) = (L.map p).map .int := by rw [List.map_map]; rfl
  rw [e, ne_l0]
  cases L <;> simp
end Q
end

/-! part: Q17 -/
section
set_option Elab.async false
set_option linter.all false
set_option maxRecDepth 100000
set_option maxHeartbeats 4000000
set_option autoImplicit false
namespace Q
open PySem PySem.Spec PySem.Calls PyProof.Rows L2
/-! ### data that the module's names hold -/
def datA (f : Value → D → Bool) : List Value → List D → Bool
  | [], [] => true
  | u :: us, d :: ds => f u d && datA f us ds
  | _, _ => false
def datB (K : PySem.W.Frag) : Nat → Value → D → Bool
  | 0, _, _ => false
  | _ + 1, .none, .none => true
  | _ + 1, .bool b, .bool c => b == c
  | _ + 1, .int i _, .int j => decide (i = j)
  | _ + 1, .str x _, .str y => decide (x = y)
  | n + 1, .ref a, .list ds => (match K.lookup a with
    | some ⟨.type c, none, .seq its _, _⟩ => decide (c = "list") && (decide (its.size ≤ sizeLine) && datA (datB K n) its.toList ds)
    | _ => false)
  | n + 1, .ref a, .tuple ds => (match K.lookup a with
    | some ⟨.type c, none, .seq its _, _⟩ => decide (c = "tuple") && (decide (its.size ≤ sizeLine) && datA (datB K n) its.toList ds)
    | _ => false)
  | _, _, _ => false
theorem and_b {a b : Bool} (h : (a && b) = true) : a = true ∧ b = true := Bool.and_eq_true_iff.mp h
theorem datA_ok {K : PySem.W.Frag} {f : Value → D → Bool} (hf : ∀ u d, f u d = true → ∃ v, RelV v u ∧ ∀ F, Rep K F v d) : ∀ {us : List Value} {ds : List D}, datA f us ds = true → ∃ vs, Vals vs us ∧ ∀ F, RepA K F vs ds
  | [], [], _ => ⟨[], .nil, fun _ => .nil⟩
  | u :: us, d :: ds, h => by
    obtain ⟨h1, h2⟩ := and_b h
    obtain ⟨v, r, p⟩ := hf u d h1
    obtain ⟨vs, rs, ps⟩ := datA_ok hf h2
    exact ⟨v :: vs, .cons r rs, fun F => .cons (p F) (ps F)⟩
theorem datB_ok {K : PySem.W.Frag} : ∀ (n : Nat) (u : Value) (d : D), datB K n u d = true → ∃ v, RelV v u ∧ ∀ F, Rep K F v d := by
  intro n
  induction n with
  | zero => intro u d h; cases h
  | succ n ih =>
    intro u d h
    unfold datB at h
    split at h
    · rename_i e; cases e
    · exact ⟨.non, rfl, fun F => .non⟩
    · rename_i b c e; cases eq_of_beq h; exact ⟨.bl _, rfl, fun F => .bl _⟩
    · rename_i i t j e; cases of_decide_eq_true h; exact ⟨.int _, ⟨_, rfl⟩, fun F => .int _⟩
    · rename_i x t y e; cases of_decide_eq_true h; exact ⟨.str _, ⟨_, rfl⟩, fun F => .str _⟩
    · rename_i m a ds e
      cases e
      split at h
      · rename_i c its k sl q
        obtain ⟨h1, h2⟩ := and_b h
        obtain ⟨h3, h4⟩ := and_b h2
        obtain ⟨vs, rs, ps⟩ := datA_ok ih h4
        exact ⟨.ref a, rfl, fun F => .lst (.inr ⟨_, its, k, q, congrArg Value.type (of_decide_eq_true h1), rfl, rfl, of_decide_eq_true h3, rs⟩) (ps F)⟩
      · cases h
    · rename_i m a ds e
      cases e
      split at h
      · rename_i c its k sl q
        obtain ⟨h1, h2⟩ := and_b h
        obtain ⟨h3, h4⟩ := and_b h2
        obtain ⟨vs, rs, ps⟩ := datA_ok ih h4
        exact ⟨.ref a, rfl, fun F => .tup (.inr ⟨_, its, k, q, congrArg Value.type (of_decide_eq_true h1), rfl, rfl, of_decide_eq_true h3, rs⟩) (ps F)⟩
      · cases h
    · cases h
/-- what the head looks at besides the given facts -/
inductive Ck where
  | fun_ (x : Str) (id : String)
  | dat (x : Str) (d : D)
def Ck.ok (K : PySem.W.Frag) : Ck → Bool
  | .fun_ x id => decide (PySem.W.nsIn K mainGlobals x = some (some (.builtin id)))
  | .dat x d => (match PySem.W.nsIn K mainGlobals x with
    | some (some u) => datB K 9 u d
    | _ => false)
def obsQ (n : Nat) (fa : List He.Fa) (fn : List He.DefD) (ck : List Ck) (g : Addr → Option Obj) : He.AlD × Bool := (He.obsDG n fa fn g, ck.all fun c => c.ok (He.frG g (He.asD g n)))
def hookQ (n : Nat) (fa : List He.Fa) (fn : List He.DefD) (ck : List Ck) : PySem.W.Hook where
  α := He.AlD × Bool
  obs := fun s => obsQ n fa fn ck s.heap.get?
  val := fun _ => (He.valD fn, true)
  says := fun _ h => ∃ K : PySem.W.Frag, K.In h ∧ He.SaysD fa fn K ∧ (ck.all fun c => c.ok K) = true
  of := fun _ _ e => ⟨_, He.frG_in, congrArg (fun z : He.AlD × Bool => z.1) e, congrArg (fun z : He.AlD × Bool => z.2) e⟩
  keeps := fun _ _ _ ⟨K, hK, c⟩ k => ⟨K, PySem.W.Frag.In.keeps hK k, c⟩
theorem obsQ_eq {n : Nat} {fa : List He.Fa} {fn : List He.DefD} {ck : List Ck} {g : Addr → Option Obj} {s : Shared} (h : ∀ a, g a = s.heap.get? a) : obsQ n fa fn ck g = (hookQ n fa fn ck).obs s := by
  have e : g = s.heap.get? := funext h
  rw [e] <;> rfl
section
variable {K : PySem.W.Frag} {h : Heap} {mg : Str → Option Value} {ck : List Ck}
theorem ck_at (c : (ck.all fun c => c.ok K) = true) (i : Nat) {f : Ck} (e : ck[i]? = some f := by rfl) : f.ok K = true := List.all_eq_true.mp c f (List.mem_of_getElem? e)
theorem ck_fun (X : K.In h) (G : h.Ns mainGlobals mg) {x : Str} {id : String} (c : (Ck.fun_ x id).ok K = true) : mg x = some (.builtin id) := PySem.W.mg_of X G (of_decide_eq_true c)
theorem ck_dat (X : K.In h) (G : h.Ns mainGlobals mg) {x : Str} {d : D} (c : (Ck.dat x d).ok K = true) : ∃ u v, mg x = some u ∧ RelV v u ∧ ∀ F, Rep K F v d := by
  have c2 : (match PySem.W.nsIn K mainGlobals x with
    | some (some u) => datB K 9 u d
    | _ => false) = true := c
  split at c2
  · rename_i u q
    obtain ⟨v, r, p⟩ := datB_ok 9 u d c2
    exact ⟨u, v, PySem.W.mg_of X G q, r, p⟩
  · cases c2
end
section
variable {X : Cx} {m1 : Md} {e : Expr} {es : List Expr} {t : TA} {fs : Rho → Option (List D)} {x : Str} {p pos : Pos}
theorem de_globD (K' : PySem.W.Frag) {v : V} {u : Value} {d : D} (hg : Gl X x) (hm : X.mg x = some u) (hr : RelV v u) (hd : ∀ F, Rep K' F v d) (hK : X.K = K' := by rfl) (hdb : (x == ("__debug__" : Str)) = false := by decide) : DE X .fz (.Name x pos) (tC v) (cD d) := by
  subst hK
  exact ⟨pe_glob hg hm hr hdb, sem_c hd⟩
def gcdD : List D → Option D
  | [.int a, .int b] => some (.int ((Nat.gcd a.natAbs b.natAbs : Nat) : Int))
  | _ => none
theorem cs_gcd {K : PySem.W.Frag} : CallS K .fz rGcd gcdD := by
  intro F H Ha vs ds z Q fh r hz q
  match ds, r, hz with
  | [.int a, .int b], r, hz =>
    cases hz
    obtain ⟨v, w, rfl, r1, r2⟩ := resA2 r
    rw [r1.int, r2.int]
    exact ⟨a, b, rfl, q _ F H (.refl fh) (Rep.int _)⟩
theorem de_bf {id : String} {m : Md} {rc : List V → Hp → VK → Prop} {gc : List D → Option D} (hc : CallR X (.builtin id) rc) (hs : CallS X.K m rc gc) (hg : Gl X x) (hm : X.mg x = some (.builtin id)) (ha : DA X m1 (e :: es) t fs) (hdb : (x == ("__debug__" : Str)) = false := by decide)
    (he : starEach (e :: es) X.env = (false, eval e X.env) :: starEach es X.env := by rfl) (hpl : (backTo pos (starEach es X.env)).any (·.1) = false := by rfl) : DE X m (.Call (.Name x p) (e :: es) [] pos) (tCB rc t) (fB gc fs) :=
  ⟨pe_callBfun hc hg hm ha.p hdb he hpl, sem_cb hs ha.s⟩
end
end Q
end

/-! part: Q18 -/
section
set_option Elab.async false
set_option linter.all false
set_option maxRecDepth 100000
set_option maxHeartbeats 4000000
set_option autoImplicit false
namespace Q
open PySem PySem.Spec PySem.Calls PyProof.Rows L2
/-! ### codes: a type told as data -/
structure Nice {α : Type} [DecidableEq α] (n : Nat) (mk : α → D) : Prop where
  lay : ∀ a, (mk a).canLay0 = true
  dep : ∀ a, (mk a).depth ≤ n
  eqv : ∀ a b, PyData.eqv (mk a) (mk b) = decide (a = b)
/-- and their order -/
structure Ordd {α : Type} (mk : α → D) (lt : α → α → Bool) : Prop where
  alike : ∀ a b, PySem.W.alike (mk a) (mk b) = true
  lt : ∀ a b, PySem.W.dataLt (mk a) (mk b) = lt a b
  nn : ∀ a, mk a ≠ .none
section
variable {α β γ : Type} [DecidableEq α] [DecidableEq β] [DecidableEq γ] {n m k : Nat} {mk : α → D} {mk2 : β → D} {mk3 : γ → D}
theorem Nice.up (h : Nice n mk) (hm : n ≤ m) : Nice m mk := ⟨h.lay, fun a => Nat.le_trans (h.dep a) hm, h.eqv⟩
theorem nice_int : Nice 0 PyData.int := ⟨fun _ => rfl, fun _ => Nat.le_refl _, fun a b => by by_cases e : a = b <;> simp [PyData.eqv, e]⟩
theorem nice_bool : Nice 0 PyData.bool := ⟨fun _ => rfl, fun _ => Nat.le_refl _, fun a b => by cases a <;> cases b <;> rfl⟩
theorem Nice.layA (h : Nice n mk) : ∀ xs : List α, PyData.canLayAll0 (xs.map mk) = true
  | [] => rfl
  | x :: xs => by rw [List.map_cons, PyData.canLayAll0, h.lay, h.layA xs]; rfl
theorem Nice.depA (h : Nice n mk) : ∀ xs : List α, PyData.depthAll (xs.map mk) ≤ n
  | [] => Nat.zero_le _
  | x :: xs => by rw [List.map_cons, PyData.depthAll]; exact Nat.max_le.mpr ⟨h.dep x, h.depA xs⟩
theorem Nice.eqvA (h : Nice n mk) : ∀ xs ys : List α, PyData.eqvAll (xs.map mk) (ys.map mk) = decide (xs = ys)
  | [], [] => rfl
  | [], _ :: _ => rfl
  | _ :: _, [] => rfl
  | x :: xs, y :: ys => by
    rw [List.map_cons, List.map_cons, PyData.eqvAll, h.eqv, h.eqvA xs ys]
    by_cases h1 : x = y <;> by_cases h2 : xs = ys <;> simp [h1, h2]
theorem nice_tup (h : Nice n mk) : Nice (n + 1) (fun xs : List α => PyData.tuple (xs.map mk)) :=
  ⟨fun xs => by rw [PyData.canLay0]; exact h.layA xs, fun xs => by rw [PyData.depth]; have := h.depA xs; omega, fun xs ys => by rw [PyData.eqv]; exact h.eqvA xs ys⟩
theorem nice_lst (h : Nice n mk) : Nice (n + 1) (fun xs : List α => PyData.list (xs.map mk)) :=
  ⟨fun xs => by rw [PyData.canLay0]; exact h.layA xs, fun xs => by rw [PyData.depth]; have := h.depA xs; omega, fun xs ys => by rw [PyData.eqv]; exact h.eqvA xs ys⟩
theorem nice_pair (h : Nice n mk) (h2 : Nice n mk2) : Nice (n + 1) (fun p : α × β => PyData.tuple [mk p.1, mk2 p.2]) :=
  ⟨fun p => by simp [PyData.canLay0, PyData.canLayAll0, h.lay, h2.lay], fun p => by have := h.dep p.1; have := h2.dep p.2; simp only [PyData.depth, PyData.depthAll]; omega, fun p q => by
    simp only [PyData.eqv, PyData.eqvAll, h.eqv, h2.eqv, Prod.ext_iff, Bool.and_true, Bool.decide_and]⟩
theorem nice_lpair (h : Nice n mk) (h2 : Nice n mk2) : Nice (n + 1) (fun p : α × β => PyData.list [mk p.1, mk2 p.2]) :=
  ⟨fun p => by simp [PyData.canLay0, PyData.canLayAll0, h.lay, h2.lay], fun p => by have := h.dep p.1; have := h2.dep p.2; simp only [PyData.depth, PyData.depthAll]; omega, fun p q => by
    simp only [PyData.eqv, PyData.eqvAll, h.eqv, h2.eqv, Prod.ext_iff, Bool.and_true, Bool.decide_and]⟩
theorem nice_trip (h : Nice n mk) (h2 : Nice n mk2) (h3 : Nice n mk3) : Nice (n + 1) (fun p : α × β × γ => PyData.tuple [mk p.1, mk2 p.2.1, mk3 p.2.2]) :=
  ⟨fun p => by simp [PyData.canLay0, PyData.canLayAll0, h.lay, h2.lay, h3.lay], fun p => by have := h.dep p.1; have := h2.dep p.2.1; have := h3.dep p.2.2; simp only [PyData.depth, PyData.depthAll]; omega, fun p q => by
    simp only [PyData.eqv, PyData.eqvAll, h.eqv, h2.eqv, h3.eqv, Prod.ext_iff, Bool.and_true, Bool.decide_and]⟩
theorem Nice.shp (h : Nice n mk) (hn : n ≤ 64) (a : α) : SeqAt.shaped (mk a) = true := by
  have := h.dep a
  simp only [SeqAt.shaped, h.lay, Bool.true_and, decide_eq_true_eq]
  omega
theorem Nice.plain (h : Nice n mk) (a : α) : (mk a).plain = true := PyData.plain_of_canLay0 _ (h.lay a)
theorem Nice.plainA (h : Nice n mk) : ∀ xs : List α, PyData.plainAll (xs.map mk) = true
  | [] => rfl
  | x :: xs => by rw [List.map_cons, PyData.plainAll, h.plain, h.plainA xs]; rfl
theorem Nice.eq (h : Nice n mk) (hn : n ≤ 64) (a b : α) : eqD (mk a) (mk b) = some (.bool (decide (a = b))) := by
  rw [eqD, if_pos ⟨h.shp hn a, h.shp hn b⟩, h.eqv]
theorem Nice.ne (h : Nice n mk) (hn : n ≤ 64) (a b : α) : neD (mk a) (mk b) = some (.bool (!decide (a = b))) := by
  rw [neD, if_pos ⟨h.shp hn a, h.shp hn b⟩, h.eqv]
theorem Nice.mem (h : Nice n mk) (a : α) (xs : List α) : memD (mk a) (xs.map mk) = decide (a ∈ xs) := by
  unfold memD
  induction xs with
  | nil => rfl
  | cons x xs ih =>
    rw [List.map_cons, List.any_cons, ih, h.eqv]
    by_cases e : x = a
    · subst e; simp
    · have e2 : ¬ a = x := fun z => e z.symm
      simp [e, e2]
theorem Nice.in_l (h : Nice n mk) (hn : n < 64) (a : α) (xs : List α) : inD (mk a) (.list (xs.map mk)) = some (.bool (decide (a ∈ xs))) := by
  rw [inD, items_l, Option.bind_some, if_pos ⟨h.shp (by omega) a, (nice_lst h).shp (by omega) xs⟩, h.mem]
theorem Nice.in_t (h : Nice n mk) (hn : n < 64) (a : α) (xs : List α) : inD (mk a) (.tuple (xs.map mk)) = some (.bool (decide (a ∈ xs))) := by
  rw [inD, items_t, Option.bind_some, if_pos ⟨h.shp (by omega) a, (nice_tup h).shp (by omega) xs⟩, h.mem]
theorem Nice.notIn_l (h : Nice n mk) (hn : n < 64) (a : α) (xs : List α) : notInD (mk a) (.list (xs.map mk)) = some (.bool (!decide (a ∈ xs))) := by
  rw [notInD, items_l, Option.bind_some, if_pos ⟨h.shp (by omega) a, (nice_lst h).shp (by omega) xs⟩, h.mem]
theorem Nice.notIn_t (h : Nice n mk) (hn : n < 64) (a : α) (xs : List α) : notInD (mk a) (.tuple (xs.map mk)) = some (.bool (!decide (a ∈ xs))) := by
  rw [notInD, items_t, Option.bind_some, if_pos ⟨h.shp (by omega) a, (nice_tup h).shp (by omega) xs⟩, h.mem]
theorem Nice.place (h : Nice n mk) (a : α) (xs : List α) (hx : a ∈ xs) : SeqAt.dataPlace (xs.map mk) (mk a) = some (xs.idxOf a) := by
  unfold SeqAt.dataPlace
  rw [List.findIdx?_map]
  have e : ((fun y => PyData.eqv y (mk a)) ∘ mk) = fun x => x == a := by
    funext x
    show PyData.eqv (mk x) (mk a) = _
    rw [h.eqv]
    rfl
  rw [e, List.findIdx?_eq_some_iff_findIdx_eq]
  exact ⟨List.idxOf_lt_length_iff.mpr hx, rfl⟩
theorem Nice.smOk (h : Nice n mk) (hn : n ≤ 64) (a : α) (xs : List α) : Q.smOk (mk a) (xs.map mk) = true := by
  have := h.dep a
  simp only [Q.smOk, h.plainA, h.plain, Bool.and_self, Bool.true_and, decide_eq_true_eq]
  omega
theorem Nice.idx_l (h : Nice n mk) (hn : n ≤ 64) (a : α) (xs : List α) (hx : a ∈ xs) : idxD (.list (xs.map mk)) (mk a) = some (.int (xs.idxOf a : Nat)) := by
  rw [idxD, items_l, Option.bind_some, if_pos (h.smOk hn a xs), h.place a xs hx]; rfl
theorem Nice.idx_t (h : Nice n mk) (hn : n ≤ 64) (a : α) (xs : List α) (hx : a ∈ xs) : idxD (.tuple (xs.map mk)) (mk a) = some (.int (xs.idxOf a : Nat)) := by
  rw [idxD, items_t, Option.bind_some, if_pos (h.smOk hn a xs), h.place a xs hx]; rfl
theorem Nice.cntP (h : Nice n mk) (a : α) (xs : List α) : (xs.map mk).countP (fun z => PyData.eqv z (mk a)) = xs.count a := by
  rw [List.countP_map, List.count]
  congr 1
  funext x
  show PyData.eqv (mk x) (mk a) = _
  rw [h.eqv]
  rfl
theorem Nice.cnt_l (h : Nice n mk) (hn : n ≤ 64) (a : α) (xs : List α) : cntD (.list (xs.map mk)) (mk a) = some (.int (xs.count a : Nat)) := by
  rw [cntD, items_l, Option.bind_some, if_pos (h.smOk hn a xs), h.cntP]
theorem Nice.cnt_t (h : Nice n mk) (hn : n ≤ 64) (a : α) (xs : List α) : cntD (.tuple (xs.map mk)) (mk a) = some (.int (xs.count a : Nat)) := by
  rw [cntD, items_t, Option.bind_some, if_pos (h.smOk hn a xs), h.cntP]
/-! order -/
theorem ordd_int : Ordd PyData.int fun a b => decide (a < b) := ⟨fun _ _ => by simp [PySem.W.alike], PySem.W.dataLt_int, fun _ z => nomatch z⟩
variable {lt : α → α → Bool} {lt2 : β → β → Bool} {lt3 : γ → γ → Bool}
theorem ordd_pair (h : Nice n mk) (h2 : Nice m mk2) (o : Ordd mk lt) (o2 : Ordd mk2 lt2) (irr : ∀ a, lt2 a a = false) : Ordd (fun p : α × β => PyData.tuple [mk p.1, mk2 p.2]) (fun p q => if p.1 = q.1 then lt2 p.2 q.2 else lt p.1 q.1) :=
  ⟨fun p q => by simp [PySem.W.alike, PySem.W.alikeAll, o.alike, o2.alike], fun p q => by
    rw [PySem.W.dataLt_pair (o.alike _ _) (o2.alike _ _), h.eqv, h2.eqv, o.lt, o2.lt]
    by_cases e : p.1 = q.1
    · by_cases e2 : p.2 = q.2
      · simp [e, e2, irr]
      · simp [e, e2]
    · simp [e], fun _ z => nomatch z⟩
theorem ordd_rows : Ordd (fun xs : List Int => PyData.tuple (xs.map .int)) (fun a b => decide (a < b)) := ⟨fun xs ys => by
    have : ∀ (xs ys : List Int), PySem.W.alikeAll (xs.map .int) (ys.map .int) = true := by
      intro xs
      induction xs with
      | nil => intro ys; simp [PySem.W.alikeAll]
      | cons x xs ih =>
        intro ys
        cases ys with
        | nil => simp [PySem.W.alikeAll]
        | cons y ys => simp [PySem.W.alikeAll, PySem.W.alike, ih]
    rw [PySem.W.alike]
    exact this xs ys, fun xs ys => by rw [PySem.W.dataLt_tuple]; exact PySem.W.dataLt_ints xs ys, fun _ z => nomatch z⟩
theorem bestOk_nice (h : Nice n mk) (hn : n ≤ 64) (o : Ordd mk lt) (xs : List α) : bestOk (xs.map mk) = true := by
  have := h.depA xs
  simp only [bestOk, Bool.and_eq_true, List.all_eq_true, List.mem_map, decide_eq_true_eq]
  refine ⟨⟨?_, ?_⟩, by omega⟩
  · rintro _ ⟨a, _, rfl⟩ _ ⟨b, _, rfl⟩
    exact o.alike a b
  · rintro _ ⟨a, _, rfl⟩
    have := o.nn a
    split
    · rename_i e; exact absurd e this
    · rfl
/-- the first of the least -/
def leastBy (lt : α → α → Bool) (x : α) (xs : List α) : α := xs.foldl (fun a y => if lt y a then y else a) x
/-- the first of the greatest -/
def mostBy (lt : α → α → Bool) (x : α) (xs : List α) : α := xs.foldl (fun a y => if lt a y then y else a) x
theorem minD_nice (o : Ordd mk lt) : ∀ (xs : List α) (x : α), PySem.W.minD (mk x) (xs.map mk) = mk (leastBy lt x xs)
  | [], _ => rfl
  | y :: xs, x => by
    have ih := minD_nice o xs (if lt y x then y else x)
    unfold PySem.W.minD leastBy at ih ⊢
    rw [List.map_cons, List.foldl_cons, List.foldl_cons, o.lt]
    rw [← ih]
    cases lt y x <;> rfl
theorem maxD_nice (o : Ordd mk lt) : ∀ (xs : List α) (x : α), PySem.W.maxD (mk x) (xs.map mk) = mk (mostBy lt x xs)
  | [], _ => rfl
  | y :: xs, x => by
    have ih := maxD_nice o xs (if lt x y then y else x)
    unfold PySem.W.maxD mostBy at ih ⊢
    rw [List.map_cons, List.foldl_cons, List.foldl_cons, o.lt]
    rw [← ih]
    cases lt x y <;> rfl
theorem minOf_nice (h : Nice n mk) (hn : n ≤ 64) (o : Ordd mk lt) (x : α) (xs : List α) : minOf ((x :: xs).map mk) = some (mk (leastBy lt x xs)) := by
  have := bestOk_nice h hn o (x :: xs)
  rw [List.map_cons] at this ⊢
  rw [minOf, if_pos this, minD_nice o]
theorem maxOf_nice (h : Nice n mk) (hn : n ≤ 64) (o : Ordd mk lt) (x : α) (xs : List α) : maxOf ((x :: xs).map mk) = some (mk (mostBy lt x xs)) := by
  have := bestOk_nice h hn o (x :: xs)
  rw [List.map_cons] at this ⊢
  rw [maxOf, if_pos this, maxD_nice o]
theorem leastBy_mem : ∀ (xs : List α) (x : α), leastBy lt x xs ∈ x :: xs
  | [], x => List.mem_cons_self
  | y :: xs, x => by
    unfold leastBy
    rw [List.foldl_cons]
    have := leastBy_mem xs (if lt y x then y else x)
    unfold leastBy at this
    rcases List.mem_cons.mp this with e | e
    · rw [e]
      split <;> simp
    · exact List.mem_cons_of_mem _ (List.mem_cons_of_mem _ e)
theorem mostBy_mem : ∀ (xs : List α) (x : α), mostBy lt x xs ∈ x :: xs
  | [], x => List.mem_cons_self
  | y :: xs, x => by
    unfold mostBy
    rw [List.foldl_cons]
    have := mostBy_mem xs (if lt x y then y else x)
    unfold mostBy at this
    rcases List.mem_cons.mp this with e | e
    · rw [e]
      split <;> simp
    · exact List.mem_cons_of_mem _ (List.mem_cons_of_mem _ e)
/-- the one least -/
theorem leastBy_eq {z : α} : ∀ (xs : List α) (x : α), z ∈ x :: xs → (∀ y ∈ x :: xs, y ≠ z → lt z y = true) → (∀ y ∈ x :: xs, lt y z = false) → leastBy lt x xs = z
  | [], x, h, _, _ => by
    rcases List.mem_cons.mp h with rfl | h
    · rfl
    · cases h
  | y :: xs, x, h, h1, h2 => by
    unfold leastBy
    rw [List.foldl_cons]
    refine leastBy_eq xs _ ?_ ?_ ?_
    · by_cases e : x = z
      · subst e
        rw [h2 y (by simp)]
        simp
      · by_cases e2 : y = z
        · subst e2
          rw [h1 x (by simp) e]
          simp
        · rcases List.mem_cons.mp h with rfl | h
          · exact absurd rfl e
          · rcases List.mem_cons.mp h with rfl | h
            · exact absurd rfl e2
            · exact List.mem_cons_of_mem _ h
    · intro w hw hn
      rcases List.mem_cons.mp hw with rfl | hw
      · cases c : lt y x
        · simp only [c, Bool.false_eq_true, if_false] at hn ⊢
          exact h1 _ (by simp) hn
        · simp only [c, if_true] at hn ⊢
          exact h1 _ (by simp) hn
      · exact h1 w (by simp [hw]) hn
    · intro w hw
      rcases List.mem_cons.mp hw with rfl | hw
      · split
        · exact h2 _ (by simp)
        · exact h2 _ (by simp)
      · exact h2 w (by simp [hw])
theorem mostBy_least (x : α) (xs : List α) : mostBy lt x xs = leastBy (fun a b => lt b a) x xs := rfl
theorem mostBy_eq {z : α} (xs : List α) (x : α) (h : z ∈ x :: xs) (h1 : ∀ y ∈ x :: xs, y ≠ z → lt y z = true) (h2 : ∀ y ∈ x :: xs, lt z y = false) : mostBy lt x xs = z := by
  rw [mostBy_least]
  exact leastBy_eq xs x h h1 h2
/-! sorted -/
end
end Q
namespace Q
open PySem PySem.Spec PySem.Calls PyProof.Rows L2
section
variable {α : Type} {mk : α → D}
theorem at_mk (xs : List α) {k : Nat} (d : α) (h : k < xs.length) : atI (xs.map mk) (k : Int) = some (mk (xs.getD k d)) := by
  rw [atI_nat (by simpa using h)]
  simp [h]
theorem numL_mk (d : α) : ∀ (xs : List α) (k : Nat), numL k (xs.map mk) = (List.range xs.length).map fun i => .tuple [.int ((k + i : Nat) : Int), mk (xs.getD i d)]
  | [], _ => rfl
  | x :: xs, k => by
    rw [List.map_cons, numL, numL_mk d xs (k + 1), List.length_cons, List.range_succ_eq_map, List.map_cons, List.map_map]
    congr 1
    apply List.map_congr_left
    intro i _
    simp [Nat.add_assoc, Nat.add_comm 1 i]
theorem enum_mk (d : α) (xs : List α) (x : D) (h : x = .list (xs.map mk) ∨ x = .tuple (xs.map mk)) : enumD x = some ((List.range xs.length).map fun (i : Nat) => .tuple [.int (i : Int), mk (xs.getD i d)]) := by
  rcases h with rfl | rfl
  · rw [enumD, items_l, Option.map_some, numL_mk d]
    simp
  · rw [enumD, items_t, Option.map_some, numL_mk d]
    simp
end
/-! trees of tuples -/
def tame : Nat → D → Bool
  | n + 1, .tuple ds => decide (ds.length ≤ 1000) && ds.all (tame n)
  | _ + 1, .int _ => true
  | _ + 1, .bool _ => true
  | _ + 1, .str x => PyData.canLay0 (.str x)
  | _ + 1, .none => true
  | _, _ => false
/-- tuples turned into lists -/
def lstd : Nat → D → D
  | n + 1, .tuple ds => .list (ds.map (lstd n))
  | _, d => d
theorem tame_t {n : Nat} {ds : List D} (h : tame (n + 1) (.tuple ds) = true) : ds.length ≤ 1000 ∧ ∀ d ∈ ds, tame n d = true := by
  simpa [tame] using h
theorem eq_str {x : Str} (h : PyData.canLay0 (.str x) = true) : eqD (.str x) (.str x) = some (.bool true) := by
  have e : SeqAt.shaped (.str x) = true := by simp [SeqAt.shaped, h, PyData.depth]
  rw [eqD, if_pos ⟨e, e⟩]
  simp [PyData.eqv]
/-! a loop, by what is done so far -/
theorem forL_pre {α : Type} {step : D → Bd} {mk : α → D} {all : List α} (inv : List α → Rho → Prop) : ∀ (xs pre : List α) (ρ : Rho), all = pre ++ xs → inv pre ρ →
    (∀ (pre post : List α) (ρ : Rho) (x : α), inv pre ρ → all = pre ++ x :: post → ∃ ρ', (step (mk x) ρ = some (.nx ρ') ∨ step (mk x) ρ = some (.ct ρ')) ∧ inv (pre ++ [x]) ρ') →
    ∃ ρ', forL step (xs.map mk) ρ = some (.nx ρ') ∧ inv all ρ'
  | [], pre, ρ, e, h0, h => ⟨ρ, rfl, by rw [e, List.append_nil]; exact h0⟩
  | x :: xs, pre, ρ, e, h0, h => by
    obtain ⟨ρ1, h1, h2⟩ := h pre xs ρ x h0 e
    obtain ⟨ρ2, h3, h4⟩ := forL_pre inv xs (pre ++ [x]) ρ1 (by rw [e]; simp) h2 h
    refine ⟨ρ2, ?_, h4⟩
    rw [List.map_cons]
    unfold forL
    rcases h1 with h1 | h1 <;> rw [h1] <;> exact h3
theorem forL_all {α : Type} {step : D → Bd} {mk : α → D} {xs : List α} (inv : List α → Rho → Prop) (ρ : Rho) (h0 : inv [] ρ)
    (h : ∀ (pre post : List α) (ρ : Rho) (x : α), inv pre ρ → xs = pre ++ x :: post → ∃ ρ', (step (mk x) ρ = some (.nx ρ') ∨ step (mk x) ρ = some (.ct ρ')) ∧ inv (pre ++ [x]) ρ') :
    ∃ ρ', forL step (xs.map mk) ρ = some (.nx ρ') ∧ inv xs ρ' := forL_pre inv xs [] ρ rfl h0 h
theorem range_split {c x : Nat} {pre post : List Nat} (h : List.range c = pre ++ x :: post) : x = pre.length ∧ x < c ∧ pre = List.range x := by
  have h1 : (List.range c)[pre.length]? = some x := by rw [h]; simp
  have h2 := (List.getElem?_eq_some_iff.mp h1).1
  rw [List.length_range] at h2
  rw [List.getElem?_range h2] at h1
  have e := Option.some.inj h1
  refine ⟨e.symm, by omega, ?_⟩
  have h3 := congrArg (List.take pre.length) h
  rw [List.take_left, List.take_range] at h3
  rw [← h3]
  congr 1
  omega
theorem split_mem {α : Type} {xs pre post : List α} {x : α} (h : xs = pre ++ x :: post) : x ∈ xs := by rw [h]; simp
theorem split_len {α : Type} {xs pre post : List α} {x : α} (h : xs = pre ++ x :: post) : pre.length < xs.length := by rw [h]; simp
@[simp] theorem augD_e {op : D → D → Option D} {i : Nat} {f : Rho → Option D} {ρ : Rho} : augD op i f ρ = (imD ρ[i]?).bind fun d => (f ρ).bind fun e => (op d e).bind fun z => some (.nx (ρ.set i (.im z))) := by
  unfold augD
  split
  · rename_i h; rw [h]; rfl
  · rename_i h
    cases e : ρ[i]? with
    | none => rfl
    | some s =>
      cases s with
      | im d => exact absurd e (h d)
      | _ => rfl
@[simp] theorem max2_i (i j : Int) : max2D [.int i, .int j] = some (.int (max i j)) := by
  have e : (if j > i then j else i) = max i j := by split <;> omega
  rw [max2D, e]
@[simp] theorem min2_i (i j : Int) : min2D [.int i, .int j] = some (.int (min i j)) := by
  have e : (if j < i then j else i) = min i j := by split <;> omega
  rw [min2D, e]
/-! sorted -/
section
variable {α : Type} [DecidableEq α] {n : Nat} {mk : α → D} {lt : α → α → Bool}
theorem srtOk_tup (h : Nice n mk) (hn : n ≤ 64) (o : Ordd mk lt) (ht : ∀ a, ∃ x xs, mk a = .tuple (x :: xs)) (xs : List α) : srtOk (xs.map mk) = true := by
  simp only [srtOk, Bool.and_eq_true, Bool.or_eq_true, List.all_eq_true, List.mem_map, forall_exists_index, and_imp, forall_apply_eq_imp_iff₂, decide_eq_true_eq]
  refine ⟨⟨fun a _ b _ => o.alike a b, .inl fun a _ => ?_⟩, fun a _ => Nat.le_trans (h.dep a) hn⟩
  obtain ⟨x, xs, e⟩ := ht a
  rw [e]
theorem srt_nice (o : Ordd mk lt) (xs : List α) : srt (xs.map mk) = (xs.mergeSort fun a b => !lt b a).map mk := by
  unfold srt
  rw [List.map_mergeSort]
  intro a _ b _
  show (!lt b a) = !PySem.W.dataLt (mk b) (mk a)
  rw [o.lt]
theorem sorted_tup (h : Nice n mk) (hn : n ≤ 64) (o : Ordd mk lt) (ht : ∀ a, ∃ x xs, mk a = .tuple (x :: xs)) (xs : List α) (d : D) (hd : d = .list (xs.map mk) ∨ d = .tuple (xs.map mk)) :
    sortedD [d] = some (.list ((xs.mergeSort fun a b => !lt b a).map mk)) := by
  have e : itemsD d = some (xs.map mk) := by rcases hd with rfl | rfl <;> rfl
  rw [sortedD, e, Option.bind_some, if_pos (srtOk_tup h hn o ht xs), srt_nice o]
end
@[simp] theorem bSet_e {j : Nat} {fi f : Rho → Option D} {ρ : Rho} : bSet j fi f ρ = (f ρ).bind fun d => (owL ρ[j]?).bind fun ds => (fi ρ).bind fun i => (intO i).bind fun o => match o with
  | some i => (ixN ds.length i).bind fun k => some (.nx (ρ.set j (.ow (.list (ds.set k d)))))
  | none => none := by
  unfold bSet
  congr 1
  funext d
  split
  · rename_i h
    rw [h]
    simp only [owL_ow, Option.bind_some]
    congr 1
    funext i
    cases i <;> rfl
  · rename_i h
    cases e : ρ[j]? with
    | none => rfl
    | some s =>
      cases s with
      | ow d =>
        cases d with
        | list ds => exact absurd e (h ds)
        | _ => rfl
      | _ => rfl
theorem ixN_n {n k : Nat} (h : k < n) : ixN n (k : Int) = some k := by
  unfold ixN
  rw [if_pos (by omega)]
  simp [h]
theorem ixN_i {n : Nat} {i : Int} (h0 : 0 ≤ i) (h : i < n) : ixN n i = some i.toNat := by
  have := ixN_n (n := n) (k := i.toNat) (by omega)
  rwa [Int.toNat_of_nonneg h0] at this
theorem rep_1 (d : D) (k : Nat) (h : k ≤ 100000) : repLD (.list [d]) (.int (k : Int)) = some (.list (List.replicate k d)) := by
  have hl := line_ge
  rw [repLD, if_pos (by simp only [List.length_singleton]; omega)]
  congr 2
  rw [Int.toNat_natCast]
  clear h
  induction k with
  | zero => rfl
  | succ k ih => rw [List.replicate_succ, List.flatten_cons, ih, List.replicate_succ]; rfl
theorem zipL_mk {α β : Type} {f : α → D} {g : β → D} (dx : α) (dy : β) : ∀ (xs : List α) (ys : List β), xs.length = ys.length → zipL (xs.map f) (ys.map g) = (List.range xs.length).map fun k => .tuple [f (xs.getD k dx), g (ys.getD k dy)]
  | [], [], _ => rfl
  | [], _ :: _, h => by simp at h
  | _ :: _, [], h => by simp at h
  | x :: xs, y :: ys, h => by
    rw [List.map_cons, List.map_cons, zipL, zipL_mk dx dy xs ys (by simpa using h), List.length_cons, List.range_succ_eq_map, List.map_cons, List.map_map]
    rfl
@[simp] theorem zip_ll {ds es : List D} : zipD [.list ds, .list es] = some (zipL ds es) := rfl
@[simp] theorem zip_tt {ds es : List D} : zipD [.tuple ds, .tuple es] = some (zipL ds es) := rfl
end Q
end

/-! part: Q19 -/
section
set_option Elab.async false
set_option linter.all false
set_option maxRecDepth 100000
set_option maxHeartbeats 4000000
set_option autoImplicit false
namespace Q
open PySem PySem.Spec PySem.Calls PyProof.Rows L2
/-! ### zip of two sequences, each a list or a tuple -/
/-- true: a list; false: a tuple -/
def SqB (K : PySem.W.Frag) (b : Bool) (H : Hp) (a : Addr) (xs : List V) : Prop := if b = true then SqL K H a xs else SqT K H a xs
def isS (b : Bool) (h : Heap) (a : Addr) (its : Array Value) : Prop := if b = true then h.IsList a its else h.IsTuple a its
def itS (b : Bool) (h : Heap) (it a : Addr) (i : Nat) : Prop := if b = true then h.IsListIter it a i else h.IsTupleIter it a i
def itO (b : Bool) (a : Addr) : Obj := if b = true then { cls := .type "list_iterator", data := .fields #[.ref a, .int 0 0] } else { cls := .type "tuple_iterator", data := .fields #[.ref a, .int 0 0] }
theorem itS_obj {b : Bool} {h : Heap} {it a : Addr} {i : Nat} (s : itS b h it a i) : ∃ o fs, h.get? it = some o ∧ o.data = .fields fs := by
  cases b with
  | true => obtain ⟨o, e, _, d⟩ := (show h.IsListIter it a i from s); exact ⟨o, _, e, d⟩
  | false => obtain ⟨o, e, _, d⟩ := (show h.IsTupleIter it a i from s); exact ⟨o, _, e, d⟩
theorem itS_at {b : Bool} {h h' : Heap} {it a : Addr} {i : Nat} (s : itS b h it a i) (k : ∀ o, h.get? it = some o → h'.get? it = some o) : itS b h' it a i := by
  cases b with
  | true => exact (show h.IsListIter it a i from s).at k
  | false => exact (show h.IsTupleIter it a i from s).at k
theorem itS_new {b : Bool} {h : Heap} {it a : Addr} (e : h.get? it = some (itO b a)) : itS b h it a 0 := by
  cases b with
  | true => exact ⟨_, e, rfl, rfl⟩
  | false => exact ⟨_, e, rfl, rfl⟩
theorem isS_lt {b : Bool} {h : Heap} {a : Addr} {its : Array Value} (s : isS b h a its) : a < h.objs.size := by
  cases b with
  | true => obtain ⟨o, e, _⟩ := (show h.IsList a its from s); exact Heap.lt_size e
  | false => obtain ⟨o, e, _⟩ := (show h.IsTuple a its from s); exact Heap.lt_size e
theorem isS_at {b : Bool} {h h' : Heap} {a : Addr} {its : Array Value} (s : isS b h a its) (k : ∀ o, h.get? a = some o → h'.get? a = some o) : isS b h' a its := by
  cases b with
  | true => exact (show h.IsList a its from s).at k
  | false => exact (show h.IsTuple a its from s).at k
theorem sqB_get {X : Cx} {pins : List (Addr × Obj)} {σ : L2.St} {H : Hp} {s : Shared} (I : Inv X pins σ H s) {b : Bool} {a : Addr} {xs : List V} (h : SqB X.K b H a xs) : ∃ its, Vals xs its ∧ isS b s.heap a its.toArray := by
  cases b with
  | true => obtain ⟨its, rv, p, _⟩ := I.list (show SqL X.K H a xs from h); exact ⟨its, rv, p.isList⟩
  | false => obtain ⟨its, rv, p, _⟩ := I.tuple (show SqT X.K H a xs from h); exact ⟨its, rv, show s.heap.IsTuple a its.toArray from p⟩
theorem sqB_inj {X : Cx} {pins : List (Addr × Obj)} {σ : L2.St} {H : Hp} {s : Shared} (I : Inv X pins σ H s) {b : Bool} {a : Addr} {xs ys : List V} (h : SqB X.K b H a xs) (h' : SqB X.K b H a ys) : xs = ys := by
  cases b with
  | true => exact I.list_inj (show SqL X.K H a xs from h) h'
  | false => exact I.tuple_inj (show SqT X.K H a xs from h) h'
section
variable {prog : Program} {w : World} {A : Around}
theorem draw_b (hh : A.handled = none) (b : Bool) (it a : Addr) (hne : a ≠ it) (its : Array Value) :
    Draws prog w A it [it, a] its.size (fun i v => its[i]? = some v) (fun i h => itS b h it a i ∧ isS b h a its) := by
  cases b with
  | true => exact Draws.list hh it a hne its
  | false => exact Draws.tuple hh it a hne its
/-- nothing more is drawn -/
theorem draw_end (hh : A.handled = none) (b : Bool) (it a : Addr) (its : Array Value) (n : Nat) (hn : its.size ≤ n) :
    Draws prog w A it [it, a] n (fun _ _ => False) (fun i h => i = n ∧ itS b h it a i ∧ isS b h a its) where
  live := fun i h st => let ⟨o, _, e, _⟩ := itS_obj st.2.1; ⟨o, e⟩
  frame := fun i h h' st k => ⟨st.1, itS_at st.2.1 fun o e => k it (by simp) o e, isS_at st.2.2 fun o e => k a (by simp) o e⟩
  item := fun i s Q E hi st _ => absurd st.1 (Nat.ne_of_lt hi)
  done := fun s Q E st hE => by
    have hx : its[n]? = none := Array.getElem?_eq_none hn
    cases b with
    | true => exact wpAny_nextOf_list_end hh st.2.1 st.2.2 hx hE
    | false => exact wpAny_nextOf_tuple_end hh st.2.1 st.2.2 hx hE
theorem begin_b (b : Bool) (a : Addr) (its : Array Value) : Begins (.ref a) (itO b a) (fun h => isS b h a its) := by
  cases b with
  | true => exact begins_list a its
  | false => exact begins_tuple a its
end
/-- what the two hold as they stand at each turn, in new pairs -/
def ItzM (K : PySem.W.Frag) (b c : Bool) (l m : Addr) : It where
  go := fun i H => ∃ (xs ys : List V) (x y : V), SqB K b H l xs ∧ SqB K c H m ys ∧ xs[i]? = some x ∧ ys[i]? = some y
  yld := fun i H v H' => ∃ T x y, v = .ref T ∧ H T = none ∧ H' = upd H T (.tup [x, y]) ∧ (∀ xs, SqB K b H l xs → xs[i]? = some x) ∧ ∀ ys, SqB K c H m ys → ys[i]? = some y
  stop := fun i H => ∃ xs ys : List V, SqB K b H l xs ∧ SqB K c H m ys ∧ (xs.length ≤ i ∨ ys.length ≤ i)
theorem turn_zipM {P : Program} {w : World} {K : PySem.W.Frag} {elts : List Expr} {kk : Nat} {tpos : Pos} {b c : Bool} {l m z TI TO i1 i2 : Addr} (Z : ZipSep2 z TI TO i1 i2 [i1, l] [i2, m]) (hl : l ≠ i1) (hm : m ≠ i2) :
    Turn P w K (.Tuple elts kk tpos) (ItzM K b c l m) [z, TI, TO, i1, i2] z (fun i h => IsZip h z TI TO .none ∧ IsTupOf2 h TI (.ref i1) (.ref i2) ∧ (∃ x y, IsTupOf2 h TO x y) ∧ itS b h i1 l i ∧ itS c h i2 m i) := by
  have z1 := Z.zi1
  have z2 := Z.zi2
  have t1 := Z.Ti1
  have t2 := Z.Ti2
  have l1 : l ≠ z := fun e => Z.zf1 (by simp [e])
  have m2 : m ≠ z := fun e => Z.zf2 (by simp [e])
  have five : ∀ q : Addr, q ∈ [z, TI, TO, i1, i2] → q = z ∨ q = TI ∨ q = TO ∨ q = i1 ∨ q = i2 := fun q hq => by simpa using hq
  refine ⟨by simp, fun i h st q hq => ?_, fun i h h' st k => ?_, ?_, ?_, fun A i s Q E st h => wpAny_pyIter_zip st.1 h⟩
  · obtain ⟨s1, s2, ⟨x, y, s3⟩, s4, s5⟩ := st
    obtain ⟨o4, f4, e4, d4⟩ := itS_obj s4
    obtain ⟨o5, f5, e5, d5⟩ := itS_obj s5
    rcases five q hq with r | r | r | r | r <;> subst r
    · exact ⟨_, s1, fun v e => nomatch e⟩
    · exact ⟨_, s2, fun v e => nomatch e⟩
    · exact ⟨_, s3, fun v e => nomatch e⟩
    · exact ⟨o4, e4, fun v e => nomatch d4.symm.trans e⟩
    · exact ⟨o5, e5, fun v e => nomatch d5.symm.trans e⟩
  · obtain ⟨s1, s2, ⟨x, y, s3⟩, s4, s5⟩ := st
    exact ⟨k z (by simp) _ s1, k TI (by simp) _ s2, ⟨x, y, k TO (by simp) _ s3⟩, itS_at s4 (k i1 (by simp)), itS_at s5 (k i2 (by simp))⟩
  · rintro X rfl rfl rfl calm i pins s σ H E I own st ⟨xs, ys, x, y, qx, qy, hx, hy⟩
    obtain ⟨s1, s2, ⟨x0, y0, s3⟩, s4, s5⟩ := st
    obtain ⟨us, ru, hu⟩ := sqB_get I qx
    obtain ⟨vs, rv, hv⟩ := sqB_get I qy
    obtain ⟨u, u1, u2⟩ := ru.get hx
    obtain ⟨v, v1, v2⟩ := rv.get hy
    have hd : X.A.in1.handled = none := I.ok.hd calm
    have lu : us.toArray.size = xs.length := by rw [ru.length]; simp
    have lv : vs.toArray.size = ys.length := by rw [rv.length]; simp
    have old : ∀ q, q ∈ [z, TI, TO, i1, i2] → q < s.heap.objs.size := fun q hq => by
      obtain ⟨o4, _, e4, _⟩ := itS_obj s4
      obtain ⟨o5, _, e5, _⟩ := itS_obj s5
      rcases five q hq with r | r | r | r | r <;> subst r
      · exact Heap.lt_size s1
      · exact Heap.lt_size s2
      · exact Heap.lt_size s3
      · exact Heap.lt_size e4
      · exact Heap.lt_size e5
    refine wpAny_pyNext_zipD2_item Z (draw_b hd b i1 l hl us.toArray) (draw_b hd c i2 m hm vs.toArray) s1 s2 s3 ⟨s4, hu⟩ ⟨s5, hv⟩ (by have := (List.getElem?_eq_some_iff.mp hx).1; omega) (by have := (List.getElem?_eq_some_iff.mp hy).1; omega) fun a1 a2 h' tk p1 p2 f1 f3 f4 f5 fT fsz fk => ?_
    have ea1 : a1 = u := by simpa [u1] using p1.symm
    have ea2 : a2 = v := by simpa [v1] using p2.symm
    subst ea1 ea2
    refine ⟨_, rfl, wpAny_letOwnedTupleGo_zip (s := { s with heap := h', toks := tk }) f1 fun h'' g1 sb => ?_⟩
    have pass : ∀ q o, q ≠ z → h'.get? q = some o → h''.get? q = some o := fun q o hq e => (sb.2 q hq).trans e
    have zlt := old z (by simp)
    have new : ObjOk X.prog X.w (upd H s.heap.objs.size (.tup [x, y])) h'' s.heap.objs.size (.tup [x, y]) :=
      ⟨by show 2 ≤ sizeLine; decide, [a1, a2], .cons u2 (.cons v2 .nil), ⟨_, pass _ _ (Nat.ne_of_gt zlt) fT, rfl, _, rfl⟩⟩
    have I1 : Inv X pins σ (upd H s.heap.objs.size (.tup [x, y])) { s with heap := h'', toks := tk } :=
      I.turnedNew (t' := tk) (ch := [z, TI, TO, i1, i2]) (fun q o hq e => by
        simp only [List.mem_cons, List.not_mem_nil, or_false, not_or] at hq
        exact pass q o hq.1 (fk q o hq.1 hq.2.2.1 hq.2.2.2.1 hq.2.2.2.2 e)) own (Nat.le_refl _) new
    refine ⟨.ref s.heap.objs.size, _, I1, rfl, ⟨_, x, y, rfl, I.hok.fresh (Nat.le_refl _), rfl, fun q hq => by rw [sqB_inj I hq qx]; exact hx, fun q hq => by rw [sqB_inj I hq qy]; exact hy⟩, ⟨g1, pass _ _ Z.TIz (fk _ _ Z.TIz Z.TITO Z.TIi1 Z.TIi2 s2), ⟨_, _, pass _ _ Z.TOz f3⟩, itS_at f4.1 fun o => pass _ o z1.symm, itS_at f5.1 fun o => pass _ o z2.symm⟩, fun q hq => ?_⟩
    rw [upd_ne (Nat.ne_of_lt (old q hq))]
    exact (own q hq).1
  · rintro X rfl rfl rfl calm i pins s σ H E I own st ⟨xs, ys, qx, qy, hend⟩
    obtain ⟨s1, s2, ⟨x0, y0, s3⟩, s4, s5⟩ := st
    obtain ⟨us, ru, hu⟩ := sqB_get I qx
    obtain ⟨vs, rv, hv⟩ := sqB_get I qy
    have hd : X.A.in1.handled = none := I.ok.hd calm
    have lu : us.toArray.size = xs.length := by rw [ru.length]; simp
    have lv : vs.toArray.size = ys.length := by rw [rv.length]; simp
    have fin : ∀ (h' : Heap) (tk : Nat), (∀ q o, q ≠ z → q ≠ TO → q ≠ i1 → q ≠ i2 → s.heap.get? q = some o → h'.get? q = some o) → (none : Option Value) = none ∧ Inv X pins σ H { s with heap := h', toks := tk } := fun h' tk fk =>
      ⟨rfl, I.turnedL (t' := tk) (ch := [z, TI, TO, i1, i2]) (fun q o hq e => by
        simp only [List.mem_cons, List.not_mem_nil, or_false, not_or] at hq
        exact fk q o hq.1 hq.2.2.1 hq.2.2.2.1 hq.2.2.2.2 e) own⟩
    by_cases c1 : xs.length ≤ i <;> by_cases c2 : ys.length ≤ i
    · exact wpAny_pyNext_zipD2_end Z (draw_end hd b i1 l us.toArray i (by omega)) (draw_end hd c i2 m vs.toArray i (by omega)) s1 s2 s3 ⟨rfl, s4, hu⟩ ⟨rfl, s5, hv⟩ (Nat.le_refl _) (Nat.le_refl _) (.inl rfl) fin
    · exact wpAny_pyNext_zipD2_end Z (draw_end hd b i1 l us.toArray i (by omega)) (draw_b hd c i2 m hm vs.toArray) s1 s2 s3 ⟨rfl, s4, hu⟩ ⟨s5, hv⟩ (Nat.le_refl _) (by omega) (.inl rfl) fin
    · exact wpAny_pyNext_zipD2_end Z (draw_b hd b i1 l hl us.toArray) (draw_end hd c i2 m vs.toArray i (by omega)) s1 s2 s3 ⟨s4, hu⟩ ⟨rfl, s5, hv⟩ (by omega) (Nat.le_refl _) (.inr rfl) fin
    · rcases hend with e | e
      · exact absurd e c1
      · exact absurd e c2
def iZipM (K : PySem.W.Frag) (ta : TA) : TI := fun σ H R => ta σ H fun vs H1 => ∃ b c l m xs ys, vs = [.ref l, .ref m] ∧ SqB K b H1 l xs ∧ SqB K c H1 m ys ∧ R (ItzM K b c l m) H1
theorem pi_zipM {X : Cx} {e e2 : Expr} {ta : TA} {p pos tpos : Pos} {elts : List Expr} {kk : Nat} (hg : Gl X "zip") (hm : X.mg "zip" = none) (ha : PA X [e, e2] ta)
    (hs : starEach [e, e2] X.env = (false, eval e X.env) :: starEach [e2] X.env := by rfl) (hpl : (backTo pos (starEach [e2] X.env)).any (·.1) = false := by rfl) :
    PI X (.Tuple elts kk tpos) (.Call (.Name "zip" p) [e, e2] [] pos) (iZipM X.K ta) := by
  constructor
  intro pins s σ H R I h
  refine Call_ (ld_blt I hg hm PyProof.Rows.boot_zip (PyProof.Rows.callWith_type1 (thn (ha.run pos pins s σ H _ I h) fun us s1 ⟨vs, H1, I1, r1, ⟨b, c, l, m, xs, ys, ex, qx, qy, q⟩⟩ => ?_) hs hpl))
  subst ex
  obtain ⟨u, us', rfl, ru, r2⟩ : ∃ u us', us = u :: us' ∧ RelV (V.ref l) u ∧ Vals [V.ref m] us' := by cases r1 with | cons r rr => exact ⟨_, _, rfl, r, rr⟩
  obtain ⟨v, rfl, rv⟩ := vals_one r2
  cases ru
  cases rv
  obtain ⟨is, w1, hu⟩ := sqB_get I1 qx
  obtain ⟨js, w2, hv⟩ := sqB_get I1 qy
  have ll := isS_lt hu
  have lm := isS_lt hv
  refine zip_begins2 (begin_b b l is.toArray) (begin_b c m js.toArray) hu hv fun h' hz hTI hTO g1 g2 hsz hk => wpAny_pyIter_zip hz ?_
  refine ⟨_, [s1.heap.objs.size + 4, s1.heap.objs.size + 2, s1.heap.objs.size + 3, s1.heap.objs.size, s1.heap.objs.size + 1], _, _, H1, rfl, I1.kept (t' := s1.toks) hk, turn_zipM (zip_sep2 (fun q hq => ?_) (fun q hq => ?_)) (Nat.ne_of_lt ll) (Nat.ne_of_lt (Nat.lt_succ_of_lt lm)), ⟨hz, hTI, ⟨_, _, hTO⟩, itS_new g1, itS_new g2⟩, fun q hq => ?_, q⟩
  · rw [List.mem_singleton.mp hq]; exact ll
  · rw [List.mem_singleton.mp hq]; exact lm
  · have up : s1.heap.objs.size ≤ q := by
      simp only [List.mem_cons, List.not_mem_nil, or_false] at hq
      rcases hq with r | r | r | r | r <;> rw [r]
      · exact Nat.le_add_right _ _
      · exact Nat.le_add_right _ _
      · exact Nat.le_add_right _ _
      · exact Nat.le_refl _
      · exact Nat.le_add_right _ _
    exact I1.fpOk up (I1.hok.fresh up)
theorem itzM_ok {K : PySem.W.Frag} {F : Hp} {b c : Bool} {l m : Addr} {xs ys : List V} {ds es : List D} {st : Hp → Prop} (hs : ∀ H, Same F H → st H → SqB K b H l xs) (hs2 : ∀ H, Same F H → st H → SqB K c H m ys) (r : RepA K F xs ds) (r2 : RepA K F ys es) : ItO true K (ItzM K b c l m) F st (zipL ds es) := by
  refine ⟨fun i F' H' hi e1 e2 e3 => ?_, fun i d F' H' v H3 hd e1 e2 e3 yy => ?_, fun i F' H' hi e1 e2 e3 => ?_⟩
  · obtain ⟨d, e, h1, h2, _⟩ := zipL_at (List.getElem?_eq_getElem hi)
    obtain ⟨x, h3, _⟩ := r.get h1
    obtain ⟨y, h4, _⟩ := r2.get h2
    exact ⟨xs, ys, x, y, hs H' (e1.trans e2) e3, hs2 H' (e1.trans e2) e3, h3, h4⟩
  · obtain ⟨T, x, y, rfl, hT, rfl, y1, y2⟩ := yy
    obtain ⟨dx, dy, h1, h2, rfl⟩ := zipL_at hd
    obtain ⟨x', h3, h5⟩ := r.get h1
    obtain ⟨y', h4, h6⟩ := r2.get h2
    have q1 := y1 xs (hs H' (e1.trans e2) e3)
    have q2 := y2 ys (hs2 H' (e1.trans e2) e3)
    cases h3.symm.trans q1
    cases h4.symm.trans q2
    exact pair_ok e2 hT (h5.mono e1) (h6.mono e1)
  · rw [zipL_length] at hi
    exact ⟨xs, ys, hs H' (e1.trans e2) e3, hs2 H' (e1.trans e2) e3, by rw [r.length, r2.length]; omega⟩
/-- zip(d, e) of a list or a tuple each -/
def zipMD : List D → Option (List D)
  | [d, e] => (itemsD d).bind fun ds => (itemsD e).bind fun es => some (zipL ds es)
  | _ => none
theorem rep_sqB {K : PySem.W.Frag} {F H : Hp} {v : V} {d : D} {ds : List D} (r : Rep K F v d) (hd : itemsD d = some ds) (fh : Same F H) : ∃ b a xs, v = .ref a ∧ (∀ H', Same F H' → SqB K b H' a xs) ∧ RepA K F xs ds := by
  cases d with
  | list es =>
    cases hd
    cases r with
    | lst hs hr => exact ⟨true, _, _, rfl, fun H' s => s.seq hs, hr⟩
  | tuple es =>
    cases hd
    cases r with
    | tup hs hr => exact ⟨false, _, _, rfl, fun H' s => (hs.mono s).sq, hr⟩
  | _ => cases hd
theorem sem_zipM {K : PySem.W.Frag} {ta : TA} {fs : Rho → Option (List D)} (h : SemA K .fz ta fs) : SemI true K .fz (iZipM K ta) (fIs zipMD fs) := by
  intro B F H σ ρ ds R rel hf q
  obtain ⟨as, h1, h2⟩ := bind_some hf
  refine h B F H σ ρ as _ rel h1 fun vs F1 H1 x1 r1 => ?_
  match as, h2, r1 with
  | [d, e], h2, r1 =>
    obtain ⟨v, w, rfl, rv, rw'⟩ := resA2 r1
    obtain ⟨ds1, k1, h3⟩ := bind_some (show (itemsD d).bind (fun ds => (itemsD e).bind fun es => some (zipL ds es)) = some ds from h2)
    obtain ⟨es1, k2, h4⟩ := bind_some h3
    cases h4
    obtain ⟨b, l, xs, rfl, a1, a2⟩ := rep_sqB rv k1 x1.s
    obtain ⟨c, m, ys, rfl, c1, c2⟩ := rep_sqB rw' k2 x1.s
    exact ⟨b, c, l, m, xs, ys, rfl, a1 _ x1.s, c1 _ x1.s, q _ F1 H1 x1 (itzM_ok (fun H s _ => a1 H s) (fun H s _ => c1 H s) a2 c2)⟩
theorem di_zipMK (K' : PySem.W.Frag) {X : Cx} {ta : TA} {fs : Rho → Option (List D)} {p pos : Pos} {a b : Expr} {elts : List Expr} {kk : Nat} {tpos : Pos} (hg : Gl X "zip") (hm : X.mg "zip" = none) (ha : DA X .fz [a, b] ta fs) (hs : starEach [a, b] X.env = (false, eval a X.env) :: starEach [b] X.env := by rfl) (hpl : (backTo pos (starEach [b] X.env)).any (·.1) = false := by rfl) (hK : X.K = K' := by rfl) :
    DI true X .fz (.Tuple elts kk tpos) (.Call (.Name "zip" p) [a, b] [] pos) (iZipM K' ta) (fIs zipMD fs) := by
  subst hK
  exact ⟨pi_zipM hg hm ha.p hs hpl, sem_zipM ha.s⟩
@[simp] theorem zipMD_e {d e : D} : zipMD [d, e] = (itemsD d).bind fun ds => (itemsD e).bind fun es => some (zipL ds es) := rfl
end Q
end

/-! part: Q20 -/
section
set_option Elab.async false
set_option linter.all false
set_option maxRecDepth 100000
set_option maxHeartbeats 4000000
set_option autoImplicit false
namespace Q
open PySem PySem.Spec PySem.Calls PyProof.Rows L2
theorem tame_mk {α : Type} {mk : α → D} {n : Nat} (h : ∀ a, tame n (mk a) = true) (xs : List α) (hl : xs.length ≤ 1000) : tame (n + 1) (.tuple (xs.map mk)) = true := by
  simp [tame, hl, h]
theorem tame_two {a b : D} {n : Nat} (h1 : tame n a = true) (h2 : tame n b = true) : tame (n + 1) (.tuple [a, b]) = true := by
  simp [tame, h1, h2]
theorem tame_int (n : Nat) (i : Int) : tame (n + 1) (.int i) = true := rfl
theorem tame_ints (n : Nat) (xs : List Int) (hl : xs.length ≤ 1000) : tame (n + 2) (.tuple (xs.map .int)) = true := tame_mk (fun i => tame_int n i) xs hl
theorem lstd_mk {α : Type} {mk mk' : α → D} {n : Nat} (h : ∀ a, lstd n (mk a) = mk' a) (xs : List α) : lstd (n + 1) (.tuple (xs.map mk)) = .list (xs.map mk') := by
  rw [lstd, List.map_map]
  congr 2
  funext a
  exact h a
theorem lstd_ints (n : Nat) (xs : List Int) : lstd (n + 2) (.tuple (xs.map .int)) = .list (xs.map .int) := lstd_mk (fun _ => rfl) xs
/-- a whole number from 0 on -/
theorem nat_of {i : Int} (h : 0 ≤ i) : ∃ k : Nat, i = k := ⟨i.toNat, by omega⟩
theorem mod_nat (i : Int) {m : Int} (h : 0 < m) : ∃ k : Nat, i % m = k ∧ (k : Int) < m := by
  have h1 := Int.emod_nonneg i (Int.ne_of_gt h)
  have h2 := Int.emod_lt_of_pos i h
  exact ⟨(i % m).toNat, by omega, by omega⟩
/-- a loop that may go on, break or return: what is done so far -/
theorem forL_gen {α : Type} {step : D → Bd} {mk : α → D} {all : List α} (inv : List α → Rho → Prop) (fin : Rho → Prop) (R : D → Prop) : ∀ (xs pre : List α) (ρ : Rho), all = pre ++ xs → inv pre ρ →
    (∀ (pre post : List α) (ρ : Rho) (x : α), inv pre ρ → all = pre ++ x :: post → (∃ ρ', (step (mk x) ρ = some (.nx ρ') ∨ step (mk x) ρ = some (.ct ρ')) ∧ inv (pre ++ [x]) ρ') ∨ (∃ ρ', step (mk x) ρ = some (.bk ρ') ∧ fin ρ') ∨ ∃ d, step (mk x) ρ = some (.rt d) ∧ R d) →
    (∃ ρ', forL step (xs.map mk) ρ = some (.nx ρ') ∧ (inv all ρ' ∨ fin ρ')) ∨ ∃ d, forL step (xs.map mk) ρ = some (.rt d) ∧ R d
  | [], pre, ρ, e, h0, h => .inl ⟨ρ, rfl, .inl (by rw [e, List.append_nil]; exact h0)⟩
  | x :: xs, pre, ρ, e, h0, h => by
    rcases h pre xs ρ x h0 e with ⟨ρ1, h1, h2⟩ | ⟨ρ1, h1, h2⟩ | ⟨d, h1, h2⟩
    · have q := forL_gen inv fin R xs (pre ++ [x]) ρ1 (by rw [e]; simp) h2 h
      rw [List.map_cons]
      unfold forL
      rcases h1 with h1 | h1 <;> rw [h1] <;> exact q
    · refine .inl ⟨ρ1, ?_, .inr h2⟩
      rw [List.map_cons]
      unfold forL
      rw [h1]
      rfl
    · refine .inr ⟨d, ?_, h2⟩
      rw [List.map_cons]
      unfold forL
      rw [h1]
      rfl
theorem forL_any {α : Type} {step : D → Bd} {mk : α → D} {xs : List α} (inv : List α → Rho → Prop) (fin : Rho → Prop) (R : D → Prop) (ρ : Rho) (h0 : inv [] ρ)
    (h : ∀ (pre post : List α) (ρ : Rho) (x : α), inv pre ρ → xs = pre ++ x :: post → (∃ ρ', (step (mk x) ρ = some (.nx ρ') ∨ step (mk x) ρ = some (.ct ρ')) ∧ inv (pre ++ [x]) ρ') ∨ (∃ ρ', step (mk x) ρ = some (.bk ρ') ∧ fin ρ') ∨ ∃ d, step (mk x) ρ = some (.rt d) ∧ R d) :
    (∃ ρ', forL step (xs.map mk) ρ = some (.nx ρ') ∧ (inv xs ρ' ∨ fin ρ')) ∨ ∃ d, forL step (xs.map mk) ρ = some (.rt d) ∧ R d := forL_gen inv fin R xs [] ρ rfl h0 h
/-! Euclid -/
theorem euclid_step {a b k P : Nat} (hb : 0 < b) (h : a * b * 2 ^ k ≤ 2 * P) (hab : b ≤ a ∨ k = 0 ∧ a * b ≤ P) : b * (a % b) * 2 ^ (k + 1) ≤ 2 * P ∧ a % b ≤ b ∧ Nat.gcd b (a % b) = Nat.gcd a b := by
  have hr : a % b < b := Nat.mod_lt _ hb
  refine ⟨?_, Nat.le_of_lt hr, by rw [Nat.gcd_comm b, ← Nat.gcd_rec, Nat.gcd_comm]⟩
  rcases hab with hab | ⟨rfl, hab⟩
  · have h1 : a % b * 2 ≤ a := by
      have h2 := Nat.div_add_mod a b
      have h3 : 1 ≤ a / b := (Nat.le_div_iff_mul_le hb).mpr (by omega)
      have h4 : b * 1 ≤ b * (a / b) := Nat.mul_le_mul_left b h3
      omega
    calc b * (a % b) * 2 ^ (k + 1) = b * (a % b * 2) * 2 ^ k := by rw [Nat.pow_succ, Nat.mul_assoc, Nat.mul_assoc, Nat.mul_assoc]; congr 2; rw [Nat.mul_comm (2 ^ k)]
      _ ≤ b * a * 2 ^ k := Nat.mul_le_mul_right _ (Nat.mul_le_mul_left _ h1)
      _ ≤ 2 * P := by rw [Nat.mul_comm b a]; exact h
  · by_cases c : b ≤ a
    · have h1 : a % b * 2 ≤ a := by
        have h2 := Nat.div_add_mod a b
        have h3 : 1 ≤ a / b := (Nat.le_div_iff_mul_le hb).mpr (by omega)
        have h4 : b * 1 ≤ b * (a / b) := Nat.mul_le_mul_left b h3
        omega
      have h2 : b * (a % b * 2) ≤ b * a := Nat.mul_le_mul_left _ h1
      rw [Nat.mul_comm b a, ← Nat.mul_assoc] at h2
      simp only [Nat.zero_add, Nat.pow_one]
      omega
    · rw [Nat.mod_eq_of_lt (by omega), Nat.mul_comm b a]
      simp only [Nat.zero_add, Nat.pow_one]
      omega
def isT : Option D → Bool
  | some (.bool true) => true
  | _ => false
theorem isT_eq {x : Option D} (h : isT x = true) : x = some (.bool true) := by
  unfold isT at h
  split at h
  · rfl
  · cases h
/-! one sign in a text -/
def rSgn (k : Bool → Bool) : R2 := fun x y H Q => ∃ (c : Nat) (z : Str), x = .str ⟨#[c]⟩ ∧ y = .str z ∧ Q (.bl (k (decide (c ∈ z.cps.toList)))) H
def sgnD (k : Bool → Bool) : D → D → Option D
  | .str x, .str z => (match x.cps.toList with
    | [c] => some (.bool (k (decide (c ∈ z.cps.toList))))
    | _ => none)
  | _, _ => none
theorem op_sgn {X : Cx} : OpR X (compareOp .In) (rSgn id) := op_in_sign
theorem op_notSgn {X : Cx} : OpR X (compareOp .NotIn) (rSgn not) := op_notIn_sign
theorem ops_sgn {K : PySem.W.Frag} {k : Bool → Bool} : OpS K .fz (rSgn k) (sgnD k) := by
  intro F H Ha Hb x y d e z Q fh r1 r2 hz q
  match d, e, hz, r1, r2 with
  | .str u, .str w, hz, r1, r2 =>
    have hz' : (match u.cps.toList with
      | [c] => some (PyData.bool (k (decide (c ∈ w.cps.toList))))
      | _ => none) = some z := hz
    split at hz'
    · rename_i c hc
      cases hz'
      have e : u = ⟨#[c]⟩ := by
        obtain ⟨a⟩ := u
        have : a = #[c] := Array.toList_inj.mp hc
        rw [this]
      subst e
      exact ⟨c, w, r1.str, r2.str, q _ F H (.refl fh) (Rep.bl _)⟩
    · cases hz'
end Q
end

/-! part: Q21 -/
section
set_option Elab.async false
set_option linter.all false
set_option maxRecDepth 100000
set_option maxHeartbeats 4000000
set_option autoImplicit false
namespace Q
open PySem PySem.Spec PySem.Calls PyProof.Rows L2
@[simp] theorem fBP_e {m : Md} {Φ : List D → Option D} {fs : Rho → Option (List D)} {ρ : Rho} : fBP m Φ fs ρ = (fs ρ).bind fun ds => (Φ ds).bind fun r => if okR m r = true then some r else none := rfl
theorem nmA_mk {α : Type} {mk : α → D} (h : ∀ a, nm (mk a) = true) : ∀ xs : List α, nmA (xs.map mk) = true
  | [] => by simp [nmA]
  | x :: xs => by rw [List.map_cons, nmA, h x, nmA_mk h xs]; rfl
theorem okR_fr {α : Type} {mk : α → D} (h : ∀ a, nm (mk a) = true) (xs : List α) : okR .fr (.list (xs.map mk)) = true := nmA_mk h xs
theorem filter_nil {α : Type} (p : α → Bool) (xs : List α) : decide (xs.filter (fun x => !p x) = []) = xs.all p := by
  rw [Bool.eq_iff_iff]
  simp
/-! math.lcm, math.isqrt -/
def rLcm : List V → Hp → VK → Prop := fun vs H Q => ∃ a b : Int, vs = [.int a, .int b] ∧ (a.natAbs < 2 ^ 64 ∧ b.natAbs < 2 ^ 64) ∧ Q (.int ((Nat.lcm a.natAbs b.natAbs : Nat) : Int)) H
theorem cr_lcm {X : Cx} : CallR X (.builtin "math.lcm") rLcm := by
  intro pins s σ H vs us Q I r h
  obtain ⟨a, b, rfl, ⟨ha, hb⟩, q⟩ := h
  obtain ⟨t, u, rfl⟩ := Vals.int2 r
  exact PySem.W.mc_lcm ha hb fun _ => ⟨.int _, H, I.tok _, ⟨_, rfl⟩, q⟩
def lcmD : List D → Option D
  | [.int a, .int b] => if a.natAbs < 2 ^ 64 ∧ b.natAbs < 2 ^ 64 then some (.int ((Nat.lcm a.natAbs b.natAbs : Nat) : Int)) else none
  | _ => none
theorem cs_lcm {K : PySem.W.Frag} : CallS K .fz rLcm lcmD := by
  intro F H Ha vs ds z Q fh r hz q
  match ds, r, hz with
  | [.int a, .int b], r, hz =>
    obtain ⟨h1, h2⟩ := if_some (show (if a.natAbs < 2 ^ 64 ∧ b.natAbs < 2 ^ 64 then some (PyData.int ((Nat.lcm a.natAbs b.natAbs : Nat) : Int)) else none) = some z from hz)
    subst h2
    obtain ⟨v, w, rfl, r1, r2⟩ := resA2 r
    rw [r1.int, r2.int]
    exact ⟨a, b, rfl, h1, q _ F H (.refl fh) (Rep.int _)⟩
/-! list(range(i, j)) -/
def lr2D : D → D → Option D
  | .int i, .int j => if (-100000 ≤ i ∧ i ≤ 100000) ∧ -100000 ≤ j ∧ j ≤ 100000 then some (.list (rgD i (j - i).toNat)) else none
  | _, _ => none
theorem de_lr2 {X : Cx} {m1 m2 : Md} {a b : Expr} {ta tb : TE} {f g : Rho → Option D} {p p2 q pos : Pos} (hg : Gl X "list") (hm : X.mg "list" = none) (hg2 : Gl X "range") (hm2 : X.mg "range" = none) (ha : DE X m1 a ta f) (hb : DE X m2 b tb g) (hc : X.calm = true := by rfl)
    (na : starEach [.Call (.Name "range" p2) [a, b] [] q] X.env = (false, eval (.Call (.Name "range" p2) [a, b] [] q) X.env) :: starEach [] X.env := by rfl)
    (na2 : starEach [a, b] X.env = (false, eval a X.env) :: starEach [b] X.env := by rfl) (nb : starEach [b] X.env = (false, eval b X.env) :: starEach [] X.env := by rfl) (hp : (backTo q (starEach [b] X.env)).any (·.1) = false := by rfl) :
    DE X .fr (.Call (.Name "list" p) [.Call (.Name "range" p2) [a, b] [] q] [] pos) (tLstRg (tRg2 ta tb)) (f2 lr2D f g) := ⟨pe_listRg hc hg hm (prg_2 hg2 hm2 ha.p hb.p na2 nb hp) na, fun B F H σ ρ z Q r hf q => by
  obtain ⟨d, h1, h2⟩ := bind_some hf
  obtain ⟨e, h3, h4⟩ := bind_some h2
  refine ha.s B F H σ ρ d _ r h1 fun v F1 H1 x1 r1 => ?_
  refine hb.s B F1 H1 σ ρ e _ (r.ext x1) h3 fun w F2 H2 x2 r2 => ?_
  match d, e, h4, r1, r2 with
  | .int i, .int j, h4, r1, r2 =>
    obtain ⟨hn, rfl⟩ := if_some (show (if (-100000 ≤ i ∧ i ≤ 100000) ∧ -100000 ≤ j ∧ j ≤ 100000 then some (PyData.list (rgD i (j - i).toNat)) else none) = some z from h4)
    refine ⟨i, j, r1.int, r2.int, ⟨by omega, by omega, by omega, by omega, by omega⟩, ?_⟩
    exact newL_res (x1.trans x2) (repA_rg i j) q⟩
end Q
end

/-! part: Q22 -/
section
set_option Elab.async false
set_option linter.all false
set_option maxRecDepth 100000
set_option maxHeartbeats 4000000
set_option autoImplicit false
namespace Q
open PySem PySem.Spec PySem.Calls PyProof.Rows L2
/-! ### comprehensions of two fors -/
/-- a target makes nothing owned -/
def OwOk (W : List Nat) (s : D → Rho → Option Rho) : Prop := ∀ (d : D) (ρ ρ' : Rho) (j : Nat) (e : D), s d ρ = some ρ' → ρ'[j]? = some (.ow e) → j ∉ W ∧ ρ[j]? = some (.ow e)
def OwOks (W : List Nat) (s : List D → Rho → Option Rho) : Prop := ∀ (ds : List D) (ρ ρ' : Rho) (j : Nat) (e : D), s ds ρ = some ρ' → ρ'[j]? = some (.ow e) → j ∉ W ∧ ρ[j]? = some (.ow e)
theorem ow_n (i : Nat) : OwOk [i] (sN i) := fun d ρ ρ' j e h h2 => by
  have h' : ρ.set i (.im d) = ρ' := Option.some.inj h
  subst h'
  by_cases c : j = i
  · subst c
    rw [List.getElem?_set] at h2
    split at h2
    · split at h2
      · cases h2
      · cases h2
    · rename_i x; exact absurd rfl x
  · rw [List.getElem?_set_ne (Ne.symm c)] at h2
    exact ⟨by simpa using c, h2⟩
theorem ow_nil : OwOks [] sNil := fun ds ρ ρ' j e h h2 => by
  cases ds with
  | nil => cases h; exact ⟨by simp, h2⟩
  | cons d ds => cases h
theorem ow_cons {W W' : List Nat} {s : D → Rho → Option Rho} {ss : List D → Rho → Option Rho} (h : OwOk W s) (hs : OwOks W' ss) : OwOks (W ++ W') (sCons s ss) := fun ds ρ ρ' j e h1 h2 => by
  cases ds with
  | nil => cases h1
  | cons d ds =>
    obtain ⟨ρ2, a, b⟩ := bind_some (show (s d ρ).bind (ss ds) = some ρ' from h1)
    obtain ⟨c1, c2⟩ := hs ds ρ2 ρ' j e b h2
    obtain ⟨c3, c4⟩ := h d ρ ρ2 j e a c2
    exact ⟨by simp [c1, c3], c4⟩
theorem ow_t {W : List Nat} {n : Nat} {ss : List D → Rho → Option Rho} (hs : OwOks W ss) : OwOk W (sT n ss) := fun d ρ ρ' j e h1 h2 => by
  cases d with
  | tuple ds =>
    rw [sT_e] at h1
    split at h1
    · exact hs ds ρ ρ' j e h1 h2
    · cases h1
  | _ => cases h1
def lcM (row : D → Option (List D)) : List D → Option (List D)
  | [] => some []
  | d :: ds => (row d).bind fun rs => (lcM row ds).map (rs ++ ·)
def rowL (ρ : Rho) (vs vs1 : List Nat) (s : D → Rho → Option Rho) (ft : Rho → Option Bool) (f1 : Rho → Option (List D)) (s1 : D → Rho → Option Rho) (ft1 : Rho → Option Bool) (fe : Rho → Option D) (d : D) : Option (List D) :=
  (s d (wipeR ρ vs)).bind fun ρ2 => (ft ρ2).bind fun b => if b = true then (f1 ρ2).bind fun es => lcL (fun e => (s1 e (wipeR ρ2 vs1)).bind ft1) (fun e => (s1 e (wipeR ρ2 vs1)).bind fe) es else some []
def fLc2 (f : Rho → Option (List D)) (s : D → Rho → Option Rho) (ft : Rho → Option Bool) (f1 : Rho → Option (List D)) (s1 : D → Rho → Option Rho) (ft1 : Rho → Option Bool) (fe : Rho → Option D) (vs vs1 : List Nat) : Rho → Option D := fun ρ => (f ρ).bind fun ds =>
  (lcM (rowL ρ vs vs1 s ft f1 s1 ft1 fe) ds).bind fun rs => if rs.length ≤ sizeLine then some (.list rs) else none
theorem sem_lc2 {w w1 : Bool} {K : PySem.W.Frag} {W1 W2 vs vs1 : List Nat} {wi wi1 : TI} {g g1 : TG} {tt tt1 : TT} {te : TE} {f f1 : Rho → Option (List D)} {s s1 : D → Rho → Option Rho} {ft ft1 : Rho → Option Bool} {fe : Rho → Option D}
    (hi : SemI w K .pk wi f) (hg : SemG w K W1 g s) (ht : SemT K tt ft) (hi1 : SemI w1 K .fz wi1 f1) (hg1 : SemG w1 K W2 g1 s1) (ht1 : SemT K tt1 ft1) (he : SemE K .fz te fe) (hW : ∀ j ∈ W1, j ∈ vs) (hW2 : ∀ j ∈ W2, j ∈ vs1) (ho : OwOk W1 s) :
    SemE K .fr (tLc2 wi g tt wi1 g1 tt1 te vs vs1) (fLc2 f s ft f1 s1 ft1 fe vs vs1) := by
  intro B F H σ ρ z Q rel hf q
  obtain ⟨ds, h1, h2⟩ := bind_some hf
  obtain ⟨rs, h3, h4⟩ := bind_some h2
  obtain ⟨h5, rfl⟩ := if_some h4
  refine hi B F H σ ρ ds _ rel h1 fun J F1 H1 x1 it => ?_
  intro L hL
  have r1 := (rel.ext x1).wiped vs
  have gL : B.G L = none := (rel.ext x1).g.free hL
  have nL : ∀ (j : Nat) (e : D), (wipeR ρ vs)[j]? = some (.ow e) → (wipe σ vs)[j]? ≠ some (some (.ref L)) := own_ne r1 hL
  -- what stands between two items: the list's items so far
  let St : Hp → List D → Hp → Prop := fun F' rr H' => ∃ acc, Rel K B F' H' (wipe σ vs) (wipeR ρ vs) ∧ Same F1 F' ∧ Same H1 H' ∧ New F1 F' H1 ∧ F' L = none ∧ H' L = some (.lst acc) ∧ RepA K F' acc rr
  have ext : ∀ {F2 F5 H2 H5 : Hp} {rr : List D}, St F2 rr H2 → Ext F2 H2 F5 H5 → St F5 rr H5 := fun {F2 F5 H2 H5 rr} st x => by
    obtain ⟨acc, rel2, f2, s2, n2, fL, hH, ra⟩ := st
    exact ⟨acc, rel2.ext x, f2.trans x.f, s2.trans x.h, fun a h => (x.n a h).elim (n2 a) fun z => .inr (s2.free z), x.keepNone fL (by rw [hH]; exact fun z => nomatch z), x.h _ _ hH, ra.mono x.f⟩
  refine ⟨fun i m H' => m = ds.length - i ∧ i ≤ ds.length ∧ ∃ F' rr r2, St F' rr H' ∧ lcM (rowL ρ vs vs1 s ft f1 s1 ft1 fe) (ds.drop i) = some r2 ∧ rs = rr ++ r2,
    ⟨ds.length, by simp, Nat.zero_le _, F1, [], rs, ⟨[], r1.other (x1.s.free hL) gL nL, .refl _, same_upd hL, .refl, x1.s.free hL, upd_same, .nil⟩, by simpa using h3, rfl⟩, ?_⟩
  rintro i m H2 ⟨rfl, hil, F2, rr, r2, st2, hl, hrs⟩
  have st2' := st2
  obtain ⟨acc, rel2, f2, s2, n2, fL, hH, ra⟩ := st2'
  by_cases hlt : i < ds.length
  · rw [List.drop_eq_getElem_cons hlt] at hl
    obtain ⟨row, e1, e2⟩ := bind_some (show (rowL ρ vs vs1 s ft f1 s1 ft1 fe ds[i]).bind _ = some r2 from hl)
    obtain ⟨r3, e3, rfl⟩ := Option.map_eq_some_iff.mp e2
    obtain ⟨ρ2, e4, e5⟩ := bind_some (show (s ds[i] (wipeR ρ vs)).bind _ = some row from e1)
    obtain ⟨b, e6, e7⟩ := bind_some e5
    refine .inr ⟨it.go i F2 H2 hlt f2 rel2.fh s2, fun H' => i + 1 ≤ ds.length ∧ ∃ F' rr r2, St F' rr H' ∧ lcM (rowL ρ vs vs1 s ft f1 s1 ft1 fe) (ds.drop (i + 1)) = some r2 ∧ rs = rr ++ r2, fun H' hn => ⟨ds.length - (i + 1), by omega, rfl, hn⟩, fun x H3 y => ?_⟩
    obtain ⟨F3, x3, rb⟩ := it.yld i ds[i] F2 H2 x H3 (List.getElem?_eq_getElem hlt) f2 rel2.fh s2 y
    refine hg B F3 H3 (wipe σ vs) (wipeR ρ vs) ρ2 x ds[i] _ (rel2.ext x3) rb e4 fun σ2 rr2 k2 l2 => ?_
    have nL2 : ∀ (j : Nat) (e : D), ρ2[j]? = some (.ow e) → σ2[j]? ≠ some (some (.ref L)) := fun j e hj => by
      obtain ⟨a1, a2⟩ := ho _ _ _ j e e4 hj
      rw [k2 j a1]
      exact nL j e a2
    refine ⟨wipe_back (l2.trans (wipe_length σ vs)) fun j hj => k2 j fun z => hj (hW j z), ?_⟩
    refine ht B F3 H3 σ2 ρ2 b _ rr2 e6 fun F4 H4 x4 => ?_
    have st4 := ext (ext st2 x3) x4
    have rl4 := rr2.ext x4
    cases b with
    | false =>
      have e8 : row = [] := (Option.some.inj (show some [] = some row from e7)).symm
      subst e8
      show _ ∧ _
      exact ⟨hlt, F4, rr, r3, st4, e3, by rw [hrs]; rfl⟩
    | true =>
      obtain ⟨es, e8, e9⟩ := bind_some (show (f1 ρ2).bind _ = some row from e7)
      show wi1 σ2 H4 _
      refine hi1 B F4 H4 σ2 ρ2 es _ rl4 e8 fun J1 F5 H5 x5 it1 => ?_
      have st5 := ext st4 x5
      have rl5 := rl4.ext x5
      refine ⟨fun j k H' => k = es.length - j ∧ j ≤ es.length ∧ ∃ F' done r4, St F' (rr ++ done) H' ∧ Rel K B F' H' σ2 ρ2 ∧ Same F5 F' ∧ lcL (fun e => (s1 e (wipeR ρ2 vs1)).bind ft1) (fun e => (s1 e (wipeR ρ2 vs1)).bind fe) (es.drop j) = some r4 ∧ row = done ++ r4,
        ⟨es.length, by simp, Nat.zero_le _, F5, [], row, by rw [List.append_nil]; exact st5, rl5, .refl _, by simpa using e9, rfl⟩, ?_⟩
      rintro j k H6 ⟨rfl, hjl, F6, done, r4, st6, rl6, f6, hl6, hrow⟩
      have st6' := st6
      obtain ⟨acc6, rel6, g6, s6, n6, fL6, hH6, ra6⟩ := st6'
      by_cases hjt : j < es.length
      · rw [List.drop_eq_getElem_cons hjt] at hl6
        obtain ⟨b1, u1, u2⟩ := bind_some (show ((s1 es[j] (wipeR ρ2 vs1)).bind ft1).bind _ = some r4 from hl6)
        obtain ⟨ρ3, u3, u4⟩ := bind_some u1
        refine .inr ⟨it1.go j F6 H6 hjt f6 rel6.fh trivial, fun H' => j + 1 ≤ es.length ∧ ∃ F' done r4, St F' (rr ++ done) H' ∧ Rel K B F' H' σ2 ρ2 ∧ Same F5 F' ∧ lcL (fun e => (s1 e (wipeR ρ2 vs1)).bind ft1) (fun e => (s1 e (wipeR ρ2 vs1)).bind fe) (es.drop (j + 1)) = some r4 ∧ row = done ++ r4, fun H' hn => ⟨es.length - (j + 1), by omega, rfl, hn⟩, fun x' H7 y' => ?_⟩
        obtain ⟨F7, x7, rb7⟩ := it1.yld j es[j] F6 H6 x' H7 (List.getElem?_eq_getElem hjt) f6 rel6.fh trivial y'
        refine hg1 B F7 H7 (wipe σ2 vs1) (wipeR ρ2 vs1) ρ3 x' es[j] _ ((rl6.ext x7).wiped vs1) rb7 u3 fun σ3 rl7 k3 l3 => ?_
        refine ⟨wipe_back (l3.trans (wipe_length σ2 vs1)) fun j' hj' => k3 j' fun z => hj' (hW2 j' z), ?_⟩
        refine ht1 B F7 H7 σ3 ρ3 b1 _ rl7 u4 fun F8 H8 x8 => ?_
        have x78 := x7.trans x8
        have st8 := ext st6 x78
        cases b1 with
        | false => exact ⟨hjt, F8, done, r4, st8, rl6.ext x78, f6.trans x78.f, u2, hrow⟩
        | true =>
          obtain ⟨y0, u5, u6⟩ := bind_some (show ((s1 es[j] (wipeR ρ2 vs1)).bind fe).bind _ = some r4 from u2)
          obtain ⟨ρ4, u7, u8⟩ := bind_some u5
          rw [u3] at u7
          cases u7
          obtain ⟨r5, u9, rfl⟩ := Option.map_eq_some_iff.mp u6
          show te σ3 H8 _
          refine he B F8 H8 σ3 ρ3 y0 _ (rl7.ext x8) u8 fun v F9 H9 x9 rv => ?_
          have x69 := x78.trans x9
          obtain ⟨acc9, b1', b2, b3, b4, b5, b6, b7⟩ := ext st6 x69
          have hlen : acc9.length < sizeLine := by
            have h6 : rs.length = rr.length + (row.length + r3.length) := by rw [hrs]; simp
            have h7 := b7.length
            rw [hrow] at h6
            simp at h6 h7
            omega
          refine ⟨acc9, b6, hlen, hjt, F9, done ++ [y0], r5, ⟨acc9 ++ [v], b1'.other b5 gL nL, b2, fun c u hc => ?_, b4, b5, upd_same, ?_⟩, (rl6.ext x69).other b5 gL nL2, f6.trans x69.f, u9, by rw [hrow]; simp⟩
          · rw [upd_ne (ne_of_none hc hL)]
            exact b3 _ _ hc
          · rw [← List.append_assoc]
            exact b7.append (.cons rv .nil)
      · have ej : j = es.length := by omega
        subst ej
        rw [List.drop_length] at hl6
        cases hl6
        rw [List.append_nil] at hrow
        subst hrow
        exact .inl ⟨it1.stop _ F6 H6 (Nat.le_refl _) f6 rel6.fh trivial, hlt, F6, rr ++ row, r3, st6, e3, by rw [hrs]; simp⟩
  · have ei : i = ds.length := by omega
    subst ei
    rw [List.drop_length] at hl
    cases hl
    rw [List.append_nil] at hrs
    subst hrs
    refine .inl ⟨it.stop _ F2 H2 (Nat.le_refl _) f2 rel2.fh s2, q _ F2 H2 ⟨x1.f.trans f2, x1.h.trans s2, fun a h => ?_, rel2.fh⟩ ⟨L, rfl, x1.h.free hL, fL, acc, hH, ra⟩⟩
    exact (n2 a h).elim (x1.n a) fun z => .inr (x1.h.free z)
end Q
end

/-! part: Q23 -/
section
set_option Elab.async false
set_option linter.all false
set_option maxRecDepth 100000
set_option maxHeartbeats 4000000
set_option autoImplicit false
namespace Q
open PySem PySem.Spec PySem.Calls PyProof.Rows L2
section
variable {X : Cx} {m : Md} {W1 W2 : List Nat} {pos : Pos} {w w1 : Bool} {elt tg iter tg1 iter1 : Expr} {ifs ifs1 : List Expr} {scope : Scope} {wi wi1 : TI} {g g1 : TG} {tt tt1 : TT} {te : TE} {f f1 : Rho → Option (List D)} {s s1 : D → Rho → Option Rho} {ft ft1 : Rho → Option Bool} {fe : Rho → Option D}
theorem de_lc2 {vs : List Nat} (own : List (Str × Nat)) (vs1 : List Nat) (hN : X.N.Nodup) (hi : DI w X m tg iter wi f) (ok : blkC X.N X.env.scope scope own = true)
    (hg : ∀ (s' : Shared) (H : Hp) (C : Addr) (cl : List (Str × Addr)) (fp : List Addr), DG w (X.blk s' H scope (compEnvC scope cl C X.env) fp) W1 tg g s) (ht : ∀ (s : Shared) (H : Hp) (C : Addr) (cl : List (Str × Addr)) (fp : List Addr), DTs (X.blk s H scope (compEnvC scope cl C X.env) fp) ifs tt ft)
    (hi1 : ∀ (s : Shared) (H : Hp) (C : Addr) (cl : List (Str × Addr)) (fp : List Addr), DI w1 (X.blk s H scope (compEnvC scope cl C X.env) fp) .fz tg1 iter1 wi1 f1)
    (hg1 : ∀ (s' : Shared) (H : Hp) (C : Addr) (cl : List (Str × Addr)) (fp : List Addr), DG w1 (X.blk s' H scope (compEnvC scope cl C X.env) fp) W2 tg1 g1 s1) (ht1 : ∀ (s : Shared) (H : Hp) (C : Addr) (cl : List (Str × Addr)) (fp : List Addr), DTs (X.blk s H scope (compEnvC scope cl C X.env) fp) ifs1 tt1 ft1)
    (he : ∀ (s : Shared) (H : Hp) (C : Addr) (cl : List (Str × Addr)) (fp : List Addr), DE (X.blk s H scope (compEnvC scope cl C X.env) fp) .fz elt te fe) (hW : ∀ j ∈ W1, j ∈ vs) (hW2 : ∀ j ∈ W2, j ∈ vs1) (ho : OwOk W1 s) (hv : ∀ i ∈ vs1, i ∈ own.map (·.2)) (hc : X.calm = true := by rfl) (hs : ∀ x, foldedSetIterable iter X.env x = pure x := by intro _; rfl) (hs1 : ∀ env x, foldedSetIterable iter1 env x = pure x := by intro _ _; rfl) (hvs : own.map (·.2) = vs := by rfl) :
    DE X .fr (.ListComp elt [⟨tg, iter, ifs, 0⟩, ⟨tg1, iter1, ifs1, 0⟩] scope pos) (tLc2 wi g tt wi1 g1 tt1 te vs vs1) (fLc2 f s ft f1 s1 ft1 fe vs vs1) := by
  subst hvs
  exact
  ⟨pe_lc2 hc hN hi.p (blkOk_by ok) hv (fun s H C cl fp => (hg s H C cl fp).p) (fun s H C cl fp => (ht s H C cl fp).p) (fun s H C cl fp => (hi1 s H C cl fp).p) (fun s H C cl fp => (hg1 s H C cl fp).p) (fun s H C cl fp => (ht1 s H C cl fp).p) (fun s H C cl fp => (he s H C cl fp).p) hs hs1,
    sem_lc2 hi.pk.s (hg X.s_0 (fun _ => none) 0 [] []).s (ht X.s_0 (fun _ => none) 0 [] []).s (hi1 X.s_0 (fun _ => none) 0 [] []).s (hg1 X.s_0 (fun _ => none) 0 [] []).s (ht1 X.s_0 (fun _ => none) 0 [] []).s (he X.s_0 (fun _ => none) 0 [] []).s hW hW2 ho⟩
theorem ds_asgLc2 {m1 : Md} {vs : List Nat} {i : Nat} {y : Str} {py spos : Pos} (own : List (Str × Nat)) (vs1 : List Nat) (hN : X.N.Nodup) (hi : DI w X m tg iter wi f) (ok : blkC X.N X.env.scope scope own = true)
    (hg : ∀ (s' : Shared) (H : Hp) (C : Addr) (cl : List (Str × Addr)) (fp : List Addr), DG w (X.blk s' H scope (compEnvC scope cl C X.env) fp) W1 tg g s) (ht : ∀ (s : Shared) (H : Hp) (C : Addr) (cl : List (Str × Addr)) (fp : List Addr), DTs (X.blk s H scope (compEnvC scope cl C X.env) fp) ifs tt ft)
    (hi1 : ∀ (s : Shared) (H : Hp) (C : Addr) (cl : List (Str × Addr)) (fp : List Addr), DI w1 (X.blk s H scope (compEnvC scope cl C X.env) fp) .fz tg1 iter1 wi1 f1)
    (hg1 : ∀ (s' : Shared) (H : Hp) (C : Addr) (cl : List (Str × Addr)) (fp : List Addr), DG w1 (X.blk s' H scope (compEnvC scope cl C X.env) fp) W2 tg1 g1 s1) (ht1 : ∀ (s : Shared) (H : Hp) (C : Addr) (cl : List (Str × Addr)) (fp : List Addr), DTs (X.blk s H scope (compEnvC scope cl C X.env) fp) ifs1 tt1 ft1)
    (he : ∀ (s : Shared) (H : Hp) (C : Addr) (cl : List (Str × Addr)) (fp : List Addr), DE (X.blk s H scope (compEnvC scope cl C X.env) fp) .fz elt te fe) (hW : ∀ j ∈ W1, j ∈ vs) (hW2 : ∀ j ∈ W2, j ∈ vs1) (ho : OwOk W1 s) (hv : ∀ i ∈ vs1, i ∈ own.map (·.2)) (hsw : swapsWith (.ListComp elt [⟨tg, iter, ifs, 0⟩, ⟨tg1, iter1, ifs1, 0⟩] scope pos) (some (.Name y py)) spos.line X.env = pure true)
    (hy : X.N[i]? = some y := by rfl) (hyl : X.env.scope.names.lookup y = some .local := by rfl) (hc : X.calm = true := by rfl) (hs : ∀ x, foldedSetIterable iter X.env x = pure x := by intro _; rfl) (hs1 : ∀ env x, foldedSetIterable iter1 env x = pure x := by intro _ _; rfl) (hvs : own.map (·.2) = vs := by rfl) :
    DS X m1 [i] (.Assign [.Name y py] (.ListComp elt [⟨tg, iter, ifs, 0⟩, ⟨tg1, iter1, ifs1, 0⟩] scope pos) spos) (tAsg (tLc2 wi g tt wi1 g1 tt1 te vs vs1) (gName i)) (bAsg i (fLc2 f s ft f1 s1 ft1 fe vs vs1)) := by
  subst hvs
  have d := de_lc2 (pos := pos) own vs1 hN hi ok hg ht hi1 hg1 ht1 he hW hW2 ho hv hc hs hs1
  exact ⟨ps_setLc2 hc hN hy hyl hsw hi.p (blkOk_by ok) hv (fun s H C cl fp => (hg s H C cl fp).p) (fun s H C cl fp => (ht s H C cl fp).p) (fun s H C cl fp => (hi1 s H C cl fp).p) (fun s H C cl fp => (hg1 s H C cl fp).p) (fun s H C cl fp => (ht1 s H C cl fp).p) (fun s H C cl fp => (he s H C cl fp).p) hs hs1, sem_asg d.frz.s⟩
theorem ds_ownLc2 {m1 : Md} {vs : List Nat} {i : Nat} {y : Str} {py spos : Pos} (own : List (Str × Nat)) (vs1 : List Nat) (hN : X.N.Nodup) (hi : DI w X m tg iter wi f) (ok : blkC X.N X.env.scope scope own = true)
    (hg : ∀ (s' : Shared) (H : Hp) (C : Addr) (cl : List (Str × Addr)) (fp : List Addr), DG w (X.blk s' H scope (compEnvC scope cl C X.env) fp) W1 tg g s) (ht : ∀ (s : Shared) (H : Hp) (C : Addr) (cl : List (Str × Addr)) (fp : List Addr), DTs (X.blk s H scope (compEnvC scope cl C X.env) fp) ifs tt ft)
    (hi1 : ∀ (s : Shared) (H : Hp) (C : Addr) (cl : List (Str × Addr)) (fp : List Addr), DI w1 (X.blk s H scope (compEnvC scope cl C X.env) fp) .fz tg1 iter1 wi1 f1)
    (hg1 : ∀ (s' : Shared) (H : Hp) (C : Addr) (cl : List (Str × Addr)) (fp : List Addr), DG w1 (X.blk s' H scope (compEnvC scope cl C X.env) fp) W2 tg1 g1 s1) (ht1 : ∀ (s : Shared) (H : Hp) (C : Addr) (cl : List (Str × Addr)) (fp : List Addr), DTs (X.blk s H scope (compEnvC scope cl C X.env) fp) ifs1 tt1 ft1)
    (he : ∀ (s : Shared) (H : Hp) (C : Addr) (cl : List (Str × Addr)) (fp : List Addr), DE (X.blk s H scope (compEnvC scope cl C X.env) fp) .fz elt te fe) (hW : ∀ j ∈ W1, j ∈ vs) (hW2 : ∀ j ∈ W2, j ∈ vs1) (ho : OwOk W1 s) (hv : ∀ i ∈ vs1, i ∈ own.map (·.2)) (hsw : swapsWith (.ListComp elt [⟨tg, iter, ifs, 0⟩, ⟨tg1, iter1, ifs1, 0⟩] scope pos) (some (.Name y py)) spos.line X.env = pure true)
    (hy : X.N[i]? = some y := by rfl) (hyl : X.env.scope.names.lookup y = some .local := by rfl) (hc : X.calm = true := by rfl) (hs : ∀ x, foldedSetIterable iter X.env x = pure x := by intro _; rfl) (hs1 : ∀ env x, foldedSetIterable iter1 env x = pure x := by intro _ _; rfl) (hvs : own.map (·.2) = vs := by rfl) :
    DS X m1 [i] (.Assign [.Name y py] (.ListComp elt [⟨tg, iter, ifs, 0⟩, ⟨tg1, iter1, ifs1, 0⟩] scope pos) spos) (tAsg (tLc2 wi g tt wi1 g1 tt1 te vs vs1) (gName i)) (bOwn i (fLc2 f s ft f1 s1 ft1 fe vs vs1)) := by
  subst hvs
  have d := de_lc2 (pos := pos) own vs1 hN hi ok hg ht hi1 hg1 ht1 he hW hW2 ho hv hc hs hs1
  exact ⟨ps_setLc2 hc hN hy hyl hsw hi.p (blkOk_by ok) hv (fun s H C cl fp => (hg s H C cl fp).p) (fun s H C cl fp => (ht s H C cl fp).p) (fun s H C cl fp => (hi1 s H C cl fp).p) (fun s H C cl fp => (hg1 s H C cl fp).p) (fun s H C cl fp => (ht1 s H C cl fp).p) (fun s H C cl fp => (he s H C cl fp).p) hs hs1, sem_own d.s⟩
@[simp] theorem fLc2_e {ρ : Rho} {vs vs1 : List Nat} : fLc2 f s ft f1 s1 ft1 fe vs vs1 ρ = (f ρ).bind fun ds => (lcM (rowL ρ vs vs1 s ft f1 s1 ft1 fe) ds).bind lcB := rfl
@[simp] theorem rowL_e {ρ : Rho} {vs vs1 : List Nat} {d : D} : rowL ρ vs vs1 s ft f1 s1 ft1 fe d = (s d (wipeR ρ vs)).bind fun ρ2 => (ft ρ2).bind fun b => if b = true then (f1 ρ2).bind fun es => lcL (fun e => (s1 e (wipeR ρ2 vs1)).bind ft1) (fun e => (s1 e (wipeR ρ2 vs1)).bind fe) es else some [] := rfl
theorem lcM_mk {α : Type} {mk : α → D} {row : D → Option (List D)} {g : α → List D} : ∀ {xs : List α}, (∀ x ∈ xs, row (mk x) = some (g x)) → lcM row (xs.map mk) = some (xs.flatMap g)
  | [], _ => rfl
  | x :: xs, h => by
    rw [List.map_cons, lcM, h x List.mem_cons_self, Option.bind_some, lcM_mk fun y hy => h y (List.mem_cons_of_mem _ hy)]
    rfl
end
/-! ### x[::-1], a list -/
theorem pick_rev (n : Nat) : sliceBounds none none (some (-1)) n = ((n : Int) - 1, -1, -1) := by
  unfold sliceBounds
  have h0 : ¬ ((-1 : Int) > 0) := by decide
  simp only [Option.getD_some, h0, if_false]
theorem range_rev (n : Nat) : sliceRange ((n : Int) - 1) (-1) (-1) = (List.range n).map fun k => n - 1 - k := by
  unfold sliceRange
  have h0 : ¬ ((-1 : Int) > 0) := by decide
  have e : (- -1 : Int) = 1 := by decide
  simp only [h0, if_false, e, Int.ediv_one]
  by_cases hn : (n : Int) - 1 > -1
  · rw [if_pos hn]
    have h1 : ((n : Int) - 1 - -1 - -1 - 1).toNat = n := by omega
    rw [h1]
    apply List.map_congr_left
    intro k hk
    have := List.mem_range.mp hk
    omega
  · rw [if_neg hn]
    have : n = 0 := by omega
    subst this
    rfl
theorem fm_congr {α β : Type} {f g : α → Option β} : ∀ {l : List α}, (∀ x ∈ l, f x = g x) → l.filterMap f = l.filterMap g
  | [], _ => rfl
  | x :: l, h => by
    rw [List.filterMap_cons, List.filterMap_cons, h x List.mem_cons_self, fm_congr fun y hy => h y (List.mem_cons_of_mem _ hy)]
theorem slicePick_rev (items : Array Value) : slicePick items none none (some (-1)) = items.toList.reverse.toArray := by
  unfold slicePick
  rw [pick_rev, range_rev]
  congr 1
  rw [List.filterMap_map]
  apply List.ext_getElem?
  intro i
  have key : (List.range items.size).filterMap ((fun j => items[j]?) ∘ fun k => items.size - 1 - k) = (List.range items.size).filterMap fun k => items.toList.reverse[k]? := by
    refine fm_congr ?_
    intro k hk
    have := List.mem_range.mp hk
    show items[items.size - 1 - k]? = _
    rw [List.getElem?_reverse (by simpa using this)]
    simp
  rw [key]
  have e2 : (List.range items.size).filterMap (fun k => items.toList.reverse[k]?) = items.toList.reverse := by
    have : items.size = items.toList.reverse.length := by simp
    rw [this]
    generalize items.toList.reverse = l
    induction l with
    | nil => rfl
    | cons x l ih =>
      rw [List.length_cons, List.range_succ_eq_map, List.filterMap_cons]
      simp only [List.getElem?_cons_zero, List.filterMap_map]
      congr 1
  rw [e2]
end Q
end

/-! part: Q24 -/
section
set_option Elab.async false
set_option linter.all false
set_option maxRecDepth 100000
set_option maxHeartbeats 4000000
set_option autoImplicit false
namespace Q
open PySem PySem.Spec PySem.Calls PyProof.Rows L2
section
variable {X : Cx} {m m1 m2 : Md} {e a : Expr} {te ta : TE} {f g : Rho → Option D} {p p2 pos apos : Pos} {j : Nat} {x : Str}
/-! ### xs[::-1], a list -/
def rRev (K : PySem.W.Frag) : V → Int → Hp → VK → Prop := fun x c H Q => ∃ a xs, x = .ref a ∧ c = -1 ∧ SqL K H a xs ∧ ∀ p, H p = none → Q (.ref p) (upd H p (.lst xs.reverse))
def tRev (K : PySem.W.Frag) (te tc : TE) : TE := fun σ H Q => te σ H fun x H1 => tc σ H1 fun y H2 => ∃ c, y = .int c ∧ rRev K x c H2 Q
theorem vals_rev : ∀ {xs : List V} {us : List Value}, Vals xs us → Vals xs.reverse us.reverse
  | _, _, .nil => .nil
  | _, _, .cons h r => by rw [List.reverse_cons, List.reverse_cons]; exact (vals_rev r).append (.cons h .nil)
theorem pe_rev {c : Expr} {tc : TE} (he : PE X e te) (hc : PE X c tc) : PE X (.Subscript e (.Slice none none (some c) p2) pos) (tRev X.K te tc) := by
  refine ⟨fun pins s σ H Q I h => ?_⟩
  refine Subscript_ (thn (he.run pins s σ H _ I h) fun v s1 ⟨x, H1, I1, r1, q1⟩ => ?_)
  refine wpAny_Slice ?_
  rw [evalPart_none]
  refine wpAny_pure (wpAny_pure ?_)
  rw [evalPart_some]
  refine thn (hc.run pins s1 σ H1 _ I1 q1) fun u s2 ⟨y, H2, I2, r2, i, ey, a, xs, ex, ei, sq, q2⟩ => ?_
  subst ey; subst ex; subst ei
  cases r1
  obtain ⟨t, rfl⟩ := r2
  have I4 : Inv X pins σ H2 { s2 with heap := s2.heap.push { cls := .type "slice", data := .fields #[.none, .none, .int (-1) t] } } := I2.kept (t' := s2.toks) fun b ob q => Heap.get?_push_of_some _ q
  obtain ⟨its, rv, pl, hz⟩ := I4.list sq
  show wpAny (model X.prog X.w) X.A (subscriptTail e (.Slice none none (some c) p2) (.ref a) (.ref s2.heap.objs.size)) (EP X pins σ Q) X.xe { s2 with heap := s2.heap.push { cls := .type "slice", data := .fields #[.none, .none, .int (-1) t] } }
  refine tail_any (ops := [.ref a, .ref s2.heap.objs.size]) pl.isList.typeIs PySem.list_getitem_lookup ?_ (by with_unfolding_all rfl)
  refine wpAny_getItem_list_slice pl.isList (Heap.IsSliceOf.new ..) .none .none (.int (-1) t) (by decide) ?_ (by rw [List.size_toArray]; rw [← rv.length]; exact hz)
  rw [slicePick_rev]
  refine ⟨.ref _, upd H2 _ (.lst xs.reverse), ?_, rfl, q2 _ I4.fresh⟩
  have h1 : (its.toArray.toList.reverse).toArray = its.reverse.toArray := by simp
  rw [h1]
  exact I4.lnew (its := its.reverse) (t' := s2.toks) (vals_rev rv) (by rw [List.length_reverse]; exact hz)
def revSD (d c : D) : Option D := match d, c with
  | .list ds, .int i => if i = -1 then some (.list ds.reverse) else none
  | _, _ => none
theorem RepA.rev {K : PySem.W.Frag} {F : Hp} : ∀ {vs : List V} {ds : List D}, RepA K F vs ds → RepA K F vs.reverse ds.reverse
  | _, _, .nil => .nil
  | _, _, .cons h r => by rw [List.reverse_cons, List.reverse_cons]; exact (RepA.rev r).append (.cons h .nil)
theorem de_rev {c : Expr} {tc : TE} (he : DE X m e te f) (hc : DE X m1 c tc g) : DE X .fr (.Subscript e (.Slice none none (some c) p2) pos) (tRev X.K te tc) (f2 revSD f g) := ⟨pe_rev he.p hc.p, fun B F H σ ρ z Q r hf q => by
  obtain ⟨d, h1, h2⟩ := bind_some hf
  obtain ⟨i, h3, h4⟩ := bind_some h2
  refine he.s B F H σ ρ d _ r h1 fun v F1 H1 x1 r1 => ?_
  refine hc.s B F1 H1 σ ρ i _ (r.ext x1) h3 fun w F2 H2 x2 r2 => ?_
  match d, i, h4, r1, r2 with
  | .list ds, .int i, h4, r1, r2 =>
    obtain ⟨hn, rfl⟩ := if_some (show (if i = -1 then some (PyData.list ds.reverse) else none) = some z from h4)
    obtain ⟨a, xs, rfl, s1, p1⟩ := (r1.mono x2).list x2.s
    exact ⟨i, r2.int, a, xs, rfl, hn, s1, newL_res (x1.trans x2) p1.rev q⟩⟩
theorem de_revK {c : Expr} {tc : TE} (K' : PySem.W.Frag) (he : DE X m e te f) (hc : DE X m1 c tc g) (hK : X.K = K' := by rfl) : DE X .fr (.Subscript e (.Slice none none (some c) p2) pos) (tRev K' te tc) (f2 revSD f g) := by
  subst hK
  exact de_rev he hc
/-! ### sep.join(texts) -/
def strsOf : List D → Option (List Str)
  | [] => some []
  | .str x :: ds => (strsOf ds).map (x :: ·)
  | _ :: _ => none
theorem strsOf_map : ∀ {ds : List D} {ns : List Str}, strsOf ds = some ns → ds = ns.map .str
  | [], _, h => by cases h; rfl
  | .str i :: ds, ns, h => by
    obtain ⟨ms, h1, rfl⟩ := Option.map_eq_some_iff.mp (show (strsOf ds).map (i :: ·) = some ns from h)
    rw [strsOf_map h1]; rfl
@[simp] theorem strsOf_strs : ∀ (ns : List Str), strsOf (ns.map .str) = some ns
  | [] => rfl
  | n :: ns => by show (strsOf (ns.map .str)).map (n :: ·) = _; rw [strsOf_strs ns]; rfl
def joinD (d e : D) : Option D := match d with
  | .str a => (itemsD e).bind fun ds => (strsOf ds).bind fun ys => if (ys.map (·.length)).sum + ys.length * a.length ≤ 16777216 then some (.str (Txt.join a ys)) else none
  | _ => none
def rJoin (K : PySem.W.Frag) : V → List V → Hp → VK → Prop := fun x xs H Q => ∃ a p, ∃ ys : List Str, x = .str a ∧ xs = [.ref p] ∧ (SqL K H p (ys.map V.str) ∨ SqT K H p (ys.map V.str)) ∧ (ys.map (·.length)).sum + ys.length * a.length ≤ 16777216 ∧ Q (.str (Txt.join a ys)) H
theorem de_join (K' : PySem.W.Frag) (ha : DE X m a ta f) (he : DE X m1 e te g) (hK : X.K = K' := by rfl) (hs : starEach [e] X.env = [(false, eval e X.env)] := by rfl) (hbase : attributeBase a "join" X.env (eval a X.env) = eval a X.env := by rfl) (hline : (apos.endLine == pos.line) = true := by rfl) :
    DE X .fz (.Call (.Attribute a "join" apos) [e] [] pos) (tM1 (rJoin K') ta te) (f2 joinD f g) := by
  subst hK
  exact ⟨pe_m1 F.slot_str_join F.type_str_join mt_join ha.p he.p hs hbase hline, fun B F H σ ρ z Q r hf q => by
    obtain ⟨d, h1, h2⟩ := bind_some hf
    obtain ⟨i, h3, h4⟩ := bind_some h2
    refine ha.s B F H σ ρ d _ r h1 fun v F1 H1 x1 r1 => ?_
    cases d with
    | str t =>
      refine ⟨⟨t, r1.str⟩, ?_⟩
      refine he.s B F1 H1 σ ρ i _ (r.ext x1) h3 fun w F2 H2 x2 r2 => ?_
      obtain ⟨ds, h5, h6⟩ := bind_some (show (itemsD i).bind _ = some z from h4)
      obtain ⟨ys, h7, h8⟩ := bind_some h6
      obtain ⟨h9, rfl⟩ := if_some h8
      obtain ⟨l, xs, rfl, s1, p1⟩ := r2.items x2.s h5
      have ed := strsOf_map h7
      subst ed
      have ex := RepA.strs p1
      subst ex
      exact ⟨t, l, ys, r1.str, rfl, s1, h9, q _ F2 H2 (x1.trans x2) (Rep.str _)⟩
    | _ => cases h4⟩
/-! ### xs.extend(a new list) -/
def bExt (j : Nat) (f : Rho → Option D) : Bd := fun ρ => (f ρ).bind fun d => match d with
  | .list es => (owL ρ[j]?).bind fun ds => if ds.length + es.length ≤ sizeLine then some (.nx (ρ.set j (.ow (.list (ds ++ es))))) else none
  | _ => none
theorem ext_some {ρ : Rho} {o : Out} (h : bExt j f ρ = some o) : ∃ ds es, ρ[j]? = some (.ow (.list ds)) ∧ f ρ = some (.list es) ∧ ds.length + es.length ≤ sizeLine ∧ o = .nx (ρ.set j (.ow (.list (ds ++ es)))) := by
  obtain ⟨d, h1, h2⟩ := bind_some h
  cases d with
  | list es =>
    obtain ⟨ds, h3, h4⟩ := bind_some (show (owL ρ[j]?).bind _ = some o from h2)
    obtain ⟨h5, rfl⟩ := if_some h4
    refine ⟨ds, es, ?_, h1, h5, rfl⟩
    revert h3
    cases hq : ρ[j]? with
    | none => intro h3; cases h3
    | some sl =>
      cases sl with
      | ow d =>
        cases d with
        | list l => intro h3; cases h3; rfl
        | _ => intro h3; cases h3
      | _ => intro h3; cases h3
  | _ => cases h2
theorem sem_ext {K : PySem.W.Frag} (h : SemE K .fr te f) : SemS K m [] (tDrop (tBM K "list" rExtend (tVar j) (tCons te tNil))) (bExt j f) := by
  intro B F H σ ρ o D r hb q
  obtain ⟨ds, es, e1, e2, hl, rfl⟩ := ext_some hb
  obtain ⟨a, vs, h1, h2, h3, h4, h5⟩ := r.own e1
  refine ⟨_, h1, tyL h4, ?_⟩
  refine h B F H σ ρ _ _ r e2 fun v F1 H1 x1 r1 => ?_
  obtain ⟨b, rfl, k1, k2, ys, k3, k4⟩ := r1
  have h6 := x1.h _ _ h4
  refine ⟨a, b, vs, ys, rfl, rfl, h6, k3, by rw [h5.length, k4.length]; exact hl, ?_⟩
  have hF1 : F1 a = none := x1.keepNone h2 (by rw [h4]; exact fun z => nomatch z)
  exact q σ F1 _ ((r.ext x1).write e1 h1 hF1 h3 ⟨vs ++ ys, upd_same, (h5.mono x1.f).append k4⟩) fun _ _ => rfl
theorem ds_ext {pn : Pos} (he : DE X .fr e te f) (hN : X.N[j]? = some x := by rfl) (hv : Vis X.env.scope x := by first | exact Or.inl rfl | exact Or.inr (Or.inl rfl) | exact Or.inr (Or.inr rfl)) (hd : (x == ("__debug__" : Str)) = false := by decide) (hcd : (x == ("__classdict__" : Str)) = false := by decide)
    (hbase : attributeBase (.Name x pn) "extend" X.env (eval (.Name x pn) X.env) = eval (.Name x pn) X.env := by rfl)
    (hfew : ((backTo p (starEach [e] X.env)).all (fun x => !x.1) && (backToKw p (keywordEach [] X.env)).all (fun x => x.1.isSome)
      && decide ([e].length + ([] : List Keyword).length + (if ([] : List Keyword).isEmpty then 0 else 1) < 30)) = true := by rfl)
    (hline : (apos.endLine == p.line) = true := by rfl) (hs : starEach [e] X.env = (false, eval e X.env) :: starEach [] X.env := by rfl) (hsw : swapsWith (.Call (.Attribute (.Name x pn) "extend" apos) [e] [] p) none pos.line X.env = pure false := by rfl) :
    DS X m [] (.Expr (.Call (.Attribute (.Name x pn) "extend" apos) [e] [] p) pos) (tDrop (tBM X.K "list" rExtend (tVar j) (tCons te tNil))) (bExt j f) :=
  ⟨ps_expr (pe_bm PySem.F.plainAttrs_list PySem.F.slot_list_extend PySem.F.type_list_extend mt_extend (pe_var hN hv hd hcd) (pa_cons he.p pa_nil hs) hbase hfew hline hs rfl) hsw, sem_ext he.s⟩
/-! ### min(xs, default=d) -/
def rMinDf (K : PySem.W.Frag) : List V → List V → Hp → VK → Prop := fun vs zs H Q => ∃ a xs F w ds, vs = [V.ref a] ∧ zs = [w] ∧ Same F H ∧ SqA K H a xs ∧ RepA K F xs ds ∧ (ds = [] → Q w H) ∧ (∀ y ys, ds = y :: ys → bestOk (y :: ys) = true ∧ ∀ v, Rep K F v (PySem.W.minD y ys) → Q v H)
theorem cr_minDf (K' : PySem.W.Frag) (hc : X.calm = true) (hu : X.A.units + 70 < cLine) (hK : X.K = K' := by rfl) : CallRK X (.builtin "min") [Str.ofString "default"] (rMinDf K') := by
  subst hK
  intro pins s σ H vs zs us ws Q I r rz h
  obtain ⟨a, xs, F, w, ds, rfl, rfl, fh, sq, rp, q0, q1⟩ := h
  obtain rfl := Vals.ref1 r
  obtain ⟨w1, rfl, e1⟩ := vals1 rz
  have key : PySem.W.AlikeAll ds ∧ PyData.depthAll ds ≤ 64 := by
    cases ds with
    | nil => exact ⟨⟨fun d hd => (nomatch hd), fun d hd => (nomatch hd)⟩, Nat.zero_le _⟩
    | cons y ys => exact bestOk_of (q1 y ys rfl).1
  obtain ⟨h1, h2⟩ := key
  rcases sq with sq | sq
  · obtain ⟨its, rv, pl, hz⟩ := I.list sq
    obtain ⟨as, hr⟩ := Dp.readsAll I ds xs its (rp.mono fh).dp rv
    refine PySem.W.min_list_default (I.ok.hd hc) pl.isList (show ReadsAll s.heap its.toArray.toList _ _ from hr) h1 (by omega) (fun e h' tk hk => ⟨w, H, I.kept hk, e1, q0 e⟩) fun y ys i v h' tk bs e hi hr' hk => ?_
    subst e
    obtain ⟨w, r1, r2⟩ := best_end (tk := tk) I fh rv rp h1 (minD_mem y ys) hi hr' hk
    exact ⟨w, H, I.kept hk, r1, (q1 y ys rfl).2 w r2⟩
  · obtain ⟨its, rv, pl, hz⟩ := I.tuple sq
    obtain ⟨as, hr⟩ := Dp.readsAll I ds xs its (rp.mono fh).dp rv
    refine PySem.W.min_tuple_default (I.ok.hd hc) pl (show ReadsAll s.heap its.toArray.toList _ _ from hr) h1 (by omega) (fun e h' tk hk => ⟨w, H, I.kept hk, e1, q0 e⟩) fun y ys i v h' tk bs e hi hr' hk => ?_
    subst e
    obtain ⟨w, r1, r2⟩ := best_end (tk := tk) I fh rv rp h1 (minD_mem y ys) hi hr' hk
    exact ⟨w, H, I.kept hk, r1, (q1 y ys rfl).2 w r2⟩
def minDf (d z : D) : Option D := (itemsD d).bind fun ds => match ds with
  | [] => some z
  | ds => minOf ds
theorem de_minDf (K' : PySem.W.Frag) {kpos : Pos} (hg : Gl X "min") (hm : X.mg "min" = none) (hu : X.A.units + 70 < cLine) (he : DE X m e te f) (hd : DE X .fz a ta g) (hc : X.calm = true := by rfl) (hK : X.K = K' := by rfl)
    (hs : backTo pos (starEach [e] X.env) = (false, eval e X.env) :: backTo pos (starEach [] X.env) := by rfl) (hpl : (backTo pos (starEach [e] X.env)).any (·.1) = false := by rfl)
    (hall : (backToKw pos (keywordEach [⟨some (Str.ofString "default"), a, kpos⟩] X.env)).all (·.1.isSome) = true := by rfl) (hnone : (backToKw pos (keywordEach [⟨some (Str.ofString "default"), a, kpos⟩] X.env)).any (·.1.isNone) = false := by rfl) (hks : (backToKw pos (keywordEach [⟨some (Str.ofString "default"), a, kpos⟩] X.env)).filterMap (·.1) = [Str.ofString "default"] := by rfl) (hn1 : starEach [e] X.env = (false, eval e X.env) :: starEach [] X.env := by rfl) :
    DE X .fz (.Call (.Name "min" p) [e] [⟨some (Str.ofString "default"), a, kpos⟩] pos) (tCKw (rMinDf K') (tCons te tNil) (tCons ta tNil)) (f2 minDf f g) := by
  have hcr := cr_minDf K' hc hu hK
  subst hK
  exact ⟨pe_callBK hcr hg hm bt_min (pa_cons he.p pa_nil hn1) (pk_cons hd.p pk_nil) (by decide) (by decide) hs hpl hall hnone hks, fun B F H σ ρ z Q r hf q => by
    obtain ⟨d, h1, h2⟩ := bind_some hf
    obtain ⟨i, h3, h4⟩ := bind_some h2
    obtain ⟨ds, h5, h6⟩ := bind_some (show (itemsD d).bind _ = some z from h4)
    refine he.s B F H σ ρ d _ r h1 fun v F1 H1 x1 r1 => ?_
    refine hd.s B F1 H1 σ ρ i _ (r.ext x1) h3 fun w F2 H2 x2 r2 => ?_
    obtain ⟨l, xs, rfl, s1, p1⟩ := (r1.mono x2).items x2.s h5
    refine ⟨l, xs, F2, w, ds, rfl, rfl, x2.s, s1, p1, fun e => ?_, fun y ys e => ?_⟩
    · subst e
      cases h6
      exact q _ F2 H2 (x1.trans x2) r2
    · subst e
      obtain ⟨ok, rfl⟩ := if_some (show (if bestOk (y :: ys) = true then some (PySem.W.minD y ys) else none) = some z from h6)
      exact ⟨ok, fun v rv => q v F2 H2 (x1.trans x2) rv⟩⟩
/-! ### min of three -/
def min3D : List D → Option D
  | [.int a, .int b, .int c] => some (.int (min (min a b) c))
  | _ => none
def rMin3 : List V → Hp → VK → Prop := fun xs H Q => ∃ a b c : Int, xs = [.int a, .int b, .int c] ∧ Q (.int (min (min a b) c)) H
theorem cr_min3 (hc : X.calm = true) : CallR X (.builtin "min") rMin3 := by
  intro pins s σ H xs us Q I r h
  obtain ⟨a, b, c, rfl, q⟩ := h
  cases r with
  | cons r1 r => cases r with
  | cons r2 r => cases r with
  | cons r3 r =>
  cases r
  obtain ⟨t1, rfl⟩ := r1
  obtain ⟨t2, rfl⟩ := r2
  obtain ⟨t3, rfl⟩ := r3
  refine min_three_ints (I.ok.hd hc) fun h' tk k => ⟨_, H, I.kept k, ?_, q⟩
  by_cases h1 : b < a
  · rw [if_pos h1]
    by_cases h2 : c < b
    · rw [if_pos h2]; exact ⟨t3, by congr 1; omega⟩
    · rw [if_neg h2]; exact ⟨t2, by congr 1; omega⟩
  · rw [if_neg h1]
    by_cases h2 : c < a
    · rw [if_pos h2]; exact ⟨t3, by congr 1; omega⟩
    · rw [if_neg h2]; exact ⟨t1, by congr 1; omega⟩
theorem cs_min3 {K : PySem.W.Frag} : CallS K .fz rMin3 min3D := by
  intro F H Ha vs ds z Q fh r hz q
  match ds, r, hz with
  | [.int a, .int b, .int c], r, hz =>
    cases hz
    obtain ⟨x, y, w, rfl, r1, r2, r3⟩ := resA3 r
    rw [r1.int, r2.int, r3.int]
    exact ⟨a, b, c, rfl, q _ F H (.refl fh) (Rep.int _)⟩
@[simp] theorem min3_i (a b c : Int) : min3D [.int a, .int b, .int c] = some (.int (min (min a b) c)) := rfl
@[simp] theorem revSD_e (ds : List D) : revSD (.list ds) (.int (-1)) = some (.list ds.reverse) := rfl
@[simp] theorem bExt_e {ρ : Rho} : bExt j f ρ = (f ρ).bind fun d => match d with
  | .list es => (owL ρ[j]?).bind fun ds => if ds.length + es.length ≤ sizeLine then some (.nx (ρ.set j (.ow (.list (ds ++ es))))) else none
  | _ => none := rfl
end
end Q
end

/-! part: Q25 -/
section
set_option Elab.async false
set_option linter.all false
set_option maxRecDepth 100000
set_option maxHeartbeats 4000000
set_option autoImplicit false
namespace Q
open PySem PySem.Spec PySem.Calls PyProof.Rows L2
/-! ### enumerate over a text -/
def IteS (z : Str) : It :=
  ⟨fun i _ => i < z.cps.size, fun i H v H' => ∃ T c, v = .ref T ∧ H T = none ∧ z.cps[i]? = some c ∧ H' = upd H T (.tup [.int (i : Nat), .str ⟨#[c]⟩]), fun i _ => z.cps.size ≤ i⟩
theorem turn_enumS {P : Program} {w : World} {K : PySem.W.Frag} {elts : List Expr} {kk : Nat} {tpos : Pos} (e it : Addr) (z : Str) (t : Tok) :
    Turn P w K (.Tuple elts kk tpos) (IteS z) [e, it] e (fun i h => i ≤ z.cps.size ∧ (∃ old, IsEnum h e it ((i : Nat) : Int) old) ∧ h.IsStrIter it (strIterType z) z t i ∧ e ≠ it) where
  mem := by simp
  obj := fun i h st b hb => by
    obtain ⟨_, ⟨old, he⟩, ⟨o, ho, hc, hd⟩, _⟩ := st
    have e' : b = e ∨ b = it := by simpa using hb
    rcases e' with z | z
    · rw [z]; exact ⟨_, he, fun v q => nomatch q⟩
    · rw [z]; exact ⟨o, ho, fun v q => by rw [hd] at q; cases q⟩
  keep := fun i h h' st k => let ⟨hn, ⟨old, he⟩, ⟨o, ho, r⟩, hne⟩ := st; ⟨hn, ⟨old, k e (by simp) _ he⟩, ⟨o, k it (by simp) o ho, r⟩, hne⟩
  item := by
    intro X hP hw hK hc i pins s σ H E I hf st hg
    subst hP hw hK
    obtain ⟨_, ⟨old, he⟩, hit, hne⟩ := st
    have hlt : i < z.cps.size := hg
    have hel : e < s.heap.objs.size := Heap.lt_size he
    have hil : it < s.heap.objs.size := by obtain ⟨_, q, _⟩ := hit; exact Heap.lt_size q
    have Dr := Draws.text (prog := X.prog) (w := X.w) (A := X.A.in1) (I.ok.hd hc) it z t
    refine wpAny_pyNext_enum_itemD Dr he hit hlt hne (by simp [hne]) fun u' h' tk hP' ho hit' hT hsz hk => ?_
    obtain ⟨c, u, hcx, rfl⟩ := hP'
    refine ⟨_, rfl, wpAny_letOwnedTupleGo_enum (s := { s with heap := h', toks := tk + 1 }) ho fun h'' he' sb => ?_⟩
    have hT2 : h''.get? s.heap.objs.size = some { cls := .type "tuple", data := .seq #[.int i tk, .str ⟨#[c]⟩ u] } := (sb.2 _ (Nat.ne_of_gt hel)).trans hT
    have new : ObjOk X.prog X.w (upd H s.heap.objs.size (.tup [.int (i : Nat), .str ⟨#[c]⟩])) h'' s.heap.objs.size (.tup [.int (i : Nat), .str ⟨#[c]⟩]) :=
      ⟨by show 2 ≤ sizeLine; decide, [.int i tk, .str ⟨#[c]⟩ u], .cons ⟨_, rfl⟩ (.cons ⟨_, rfl⟩ .nil), ⟨_, hT2, rfl, _, rfl⟩⟩
    have I1 : Inv X pins σ (upd H s.heap.objs.size (.tup [.int (i : Nat), .str ⟨#[c]⟩])) { s with heap := h'', toks := tk + 1 } :=
      I.turnedNew (ch := [e, it]) (fun b ob hb q => (sb.2 b (fun z => hb (by simp [z]))).trans (hk b ob (fun z => hb (by simp [z])) (fun z => hb (by simp [z])) q)) hf (Nat.le_refl _) new
    refine ⟨.ref s.heap.objs.size, _, I1, rfl, ⟨_, c, rfl, I.hok.fresh (Nat.le_refl _), hcx, rfl⟩, ⟨hlt, ⟨.str ⟨#[c]⟩ u, ?_⟩, ?_, hne⟩, fun b hb => ?_⟩
    · have e1 : ((i + 1 : Nat) : Int) = (i : Int) + 1 := by omega
      rw [e1]; exact he'
    · obtain ⟨o, ho', r⟩ := hit'
      exact ⟨o, (sb.2 it (Ne.symm hne)).trans ho', r⟩
    · have hb' : b < s.heap.objs.size := by
        have e' : b = e ∨ b = it := by simpa using hb
        rcases e' with z | z
        · rw [z]; exact hel
        · rw [z]; exact hil
      rw [upd_ne (Nat.ne_of_lt hb')]
      exact (hf b hb).1
  done := by
    intro X hP hw hK hc i pins s σ H E I hf st hg
    subst hP hw hK
    obtain ⟨hin, ⟨old, he⟩, hit, hne⟩ := st
    have hge : z.cps.size ≤ i := hg
    obtain ⟨f0, f1, f2, f3, f4, f5⟩ := hf it (by simp)
    have Dr := Draws.text (prog := X.prog) (w := X.w) (A := X.A.in1) (I.ok.hd hc) it z t
    have ei : i = z.cps.size := by omega
    subst ei
    exact wpAny_pyNext_enum_endD Dr he hit fun h' eb => ⟨rfl, I.turned (t' := s.toks) (fun b o hb q => eb b o hb q) f0 f1 f3 f4 f5⟩
  self := fun A i s Q E st h => let ⟨_, ⟨_, he⟩, _⟩ := st; wpAny_pyIter_enum he h
def iEnumS (te : TE) : TI := fun σ H R => te σ H fun v H1 => ∃ z, v = .str z ∧ R (IteS z) H1
theorem pi_enumS {X : Cx} {e : Expr} {te : TE} {p pos tpos : Pos} {elts : List Expr} {kk : Nat} (hg : Gl X "enumerate") (hm : X.mg "enumerate" = none) (he : PE X e te) (hs : starEach [e] X.env = (false, eval e X.env) :: starEach [] X.env := by rfl) :
    PI X (.Tuple elts kk tpos) (.Call (.Name "enumerate" p) [e] [] pos) (iEnumS te) := by
  refine ⟨fun pins s σ H R I h => ?_⟩
  refine Call_ (ld_blt I hg hm boot_enumerate (PyProof.Rows.callWith_type1 (args_cons (thn (he.run pins s σ H _ I h) fun u s1 ⟨v, H1, I1, r1, q1⟩ => args_nil ?_) hs) hs rfl))
  obtain ⟨z, ev, q⟩ := q1
  subst ev
  obtain ⟨t, rfl⟩ : ∃ t, u = .str z t := r1
  have fresh2 : ∀ b, b ∈ [s1.heap.objs.size + 1, s1.heap.objs.size] → FpOk X pins H1 b := fun b hb => by
    have e' : b = s1.heap.objs.size + 1 ∨ b = s1.heap.objs.size := by simpa using hb
    have hle : s1.heap.objs.size ≤ b := by
      rcases e' with z | z
      · rw [z]; exact Nat.le_add_right _ _
      · rw [z]; exact Nat.le_refl _
    exact I1.fpOk hle (I1.hok.fresh hle)
  refine enum_begins1 (begins_text z t) trivial fun h' he hit hsz hk => wpAny_pyIter_enum he ?_
  have I2 : Inv X pins σ H1 { s1 with heap := h' } := I1.kept (t' := s1.toks) hk
  exact ⟨s1.heap.objs.size + 1, [s1.heap.objs.size + 1, s1.heap.objs.size], _, _, H1, rfl, I2, turn_enumS (s1.heap.objs.size + 1) s1.heap.objs.size z t, ⟨Nat.zero_le _, ⟨.none, he⟩, ⟨_, hit, rfl, rfl⟩, Nat.succ_ne_self _⟩, fresh2, q⟩
theorem signs_at {z : Str} {i : Nat} {d : D} (h : (signsD z)[i]? = some d) : ∃ c, z.cps[i]? = some c ∧ d = .str ⟨#[c]⟩ := by
  unfold signsD at h
  rw [List.getElem?_map, Option.map_eq_some_iff] at h
  obtain ⟨c, h1, h2⟩ := h
  exact ⟨c, by rw [← h1]; simp, h2.symm⟩
theorem signs_length (z : Str) : (signsD z).length = z.cps.size := by simp [signsD]
theorem iteS_ok {K : PySem.W.Frag} {F : Hp} {z : Str} {st : Hp → Prop} : ItO true K (IteS z) F st (numL 0 (signsD z)) :=
  ⟨fun i F' H' hi s1 s2 s3 => by
    rw [numL_length, signs_length] at hi
    exact hi, fun i d F' H' v H3 hd s1 s2 s3 yy => by
    obtain ⟨T, c, rfl, hT, hc, rfl⟩ := yy
    obtain ⟨dx, h1, rfl⟩ := numL_at hd
    obtain ⟨c', h3, rfl⟩ := signs_at h1
    rw [hc] at h3
    cases h3
    rw [Nat.zero_add]
    exact pair_ok s2 hT (Rep.int _) (Rep.str _), fun i F' H' hi s1 s2 s3 => by
    rw [numL_length, signs_length] at hi
    exact hi⟩
def fEnumS (f : Rho → Option D) : Rho → Option (List D) := fun ρ => (f ρ).bind fun d => match d with
  | .str z => some (numL 0 (signsD z))
  | _ => none
section
variable {X : Cx} {m : Md} {e : Expr} {te : TE} {f : Rho → Option D} {p pos tpos : Pos} {elts : List Expr} {kk : Nat}
theorem sem_enumS {K : PySem.W.Frag} (h : SemE K m te f) : SemI true K .fz (iEnumS te) (fEnumS f) := by
  intro B F H σ ρ ds R rel hf q
  obtain ⟨d, h1, h2⟩ := bind_some hf
  refine h B F H σ ρ d _ rel h1 fun v F1 H1 x1 r1 => ?_
  cases d with
  | str z =>
    cases h2
    exact ⟨z, r1.str, q _ F1 H1 x1 iteS_ok⟩
  | _ => cases h2
theorem di_enumS (hg : Gl X "enumerate") (hm : X.mg "enumerate" = none) (he : DE X m e te f) (hs : starEach [e] X.env = (false, eval e X.env) :: starEach [] X.env := by rfl) :
    DI true X .fz (.Tuple elts kk tpos) (.Call (.Name "enumerate" p) [e] [] pos) (iEnumS te) (fEnumS f) := ⟨pi_enumS hg hm he.p hs, sem_enumS he.s⟩
def enumSD (d : D) : Option (List D) := match d with
  | .str z => some (numL 0 (signsD z))
  | _ => none
@[simp] theorem fEnumS_e {ρ : Rho} : fEnumS f ρ = (f ρ).bind enumSD := rfl
end
end Q
end

/-! part: HeadK35 -/
section
set_option Elab.async false
set_option linter.all false
set_option maxRecDepth 100000
set_option maxHeartbeats 0
namespace Hd
open PySem PySem.Spec PyProof.Rows L2
def top (i : Nat) : Stmt := PySem.Challenge.pw_playground_k35_whispers_by_tables_whole.main.body.getD i (.Pass ⟨0, 0, 0, 0⟩)
abbrev s_need : Stmt := top 5
abbrev s_is_int : Stmt := top 6
abbrev s_is_seq : Stmt := top 7
abbrev s_is_within : Stmt := top 8
abbrev s_need_within : Stmt := top 9
abbrev s_is_name : Stmt := top 10
abbrev s_rank_key : Stmt := top 11
abbrev s_is_rising : Stmt := top 12
abbrev s_is_told : Stmt := top 13
abbrev s_to_row : Stmt := top 14
abbrev s_to_names : Stmt := top 15
abbrev s_to_rising_names : Stmt := top 16
abbrev s_to_word : Stmt := top 18
abbrev s_to_words : Stmt := top 19
abbrev s_to_heard : Stmt := top 20
abbrev s_gap_of : Stmt := top 21
abbrev s_gap : Stmt := top 22
abbrev s_both_of : Stmt := top 23
abbrev s_floor_of : Stmt := top 24
abbrev s_least : Stmt := top 25
abbrev s_gaps_along : Stmt := top 26
abbrev s_slips_of : Stmt := top 27
abbrev s_filling : Stmt := top 28
abbrev s_floor : Stmt := top 29
abbrev s_who_slipped : Stmt := top 30
abbrev s_may_have : Stmt := top 31
abbrev s_gaps_of : Stmt := top 32
abbrev s_least_sum : Stmt := top 33
abbrev s_table_of : Stmt := top 34
abbrev s_three_of : Stmt := top 35
abbrev s_table : Stmt := top 36
abbrev s_table_holds : Stmt := top 37
abbrev s_rest_of : Stmt := top 38
abbrev s_least_by : Stmt := top 39
abbrev s_most_each : Stmt := top 40
abbrev s__law_cell : Stmt := top 42
abbrev s__law_numbers : Stmt := top 43
abbrev s__law_listed : Stmt := top 44
abbrev s__law_same : Stmt := top 45
abbrev s__law_word : Stmt := top 46
abbrev s__law_gap : Stmt := top 47
abbrev s__law_words : Stmt := top 48
abbrev s__law_table : Stmt := top 49
abbrev s__law_fillings : Stmt := top 50
abbrev s__law_slips : Stmt := top 51
abbrev s_law : Stmt := top 52
def d_need : He.DefD := ⟨("need", none), "need", "need", defArgs s_need, defBody s_need, defScope s_need, [], []⟩
def d_is_int : He.DefD := ⟨("is_int", none), "is_int", "is_int", defArgs s_is_int, defBody s_is_int, defScope s_is_int, [], []⟩
def d_is_seq : He.DefD := ⟨("is_seq", none), "is_seq", "is_seq", defArgs s_is_seq, defBody s_is_seq, defScope s_is_seq, [], []⟩
def d_is_within : He.DefD := ⟨("is_within", none), "is_within", "is_within", defArgs s_is_within, defBody s_is_within, defScope s_is_within, [], []⟩
def d_need_within : He.DefD := ⟨("need_within", none), "need_within", "need_within", defArgs s_need_within, defBody s_need_within, defScope s_need_within, [], []⟩
def d_is_name : He.DefD := ⟨("is_name", none), "is_name", "is_name", defArgs s_is_name, defBody s_is_name, defScope s_is_name, [], []⟩
def d_rank_key : He.DefD := ⟨("rank_key", none), "rank_key", "rank_key", defArgs s_rank_key, defBody s_rank_key, defScope s_rank_key, [], []⟩
def d_is_rising : He.DefD := ⟨("is_rising", none), "is_rising", "is_rising", defArgs s_is_rising, defBody s_is_rising, defScope s_is_rising, [], []⟩
def d_is_told : He.DefD := ⟨("is_told", none), "is_told", "is_told", defArgs s_is_told, defBody s_is_told, defScope s_is_told, [], []⟩
def d_to_row : He.DefD := ⟨("to_row", none), "to_row", "to_row", defArgs s_to_row, defBody s_to_row, defScope s_to_row, [], []⟩
def d_to_names : He.DefD := ⟨("to_names", none), "to_names", "to_names", defArgs s_to_names, defBody s_to_names, defScope s_to_names, [], []⟩
def d_to_rising_names : He.DefD := ⟨("to_rising_names", none), "to_rising_names", "to_rising_names", defArgs s_to_rising_names, defBody s_to_rising_names, defScope s_to_rising_names, [], []⟩
def d_to_word : He.DefD := ⟨("to_word", none), "to_word", "to_word", defArgs s_to_word, defBody s_to_word, defScope s_to_word, [], []⟩
def d_to_words : He.DefD := ⟨("to_words", none), "to_words", "to_words", defArgs s_to_words, defBody s_to_words, defScope s_to_words, [], []⟩
def d_to_heard : He.DefD := ⟨("to_heard", none), "to_heard", "to_heard", defArgs s_to_heard, defBody s_to_heard, defScope s_to_heard, [], []⟩
def d_gap_of : He.DefD := ⟨("gap_of", none), "gap_of", "gap_of", defArgs s_gap_of, defBody s_gap_of, defScope s_gap_of, [], []⟩
def d_gap : He.DefD := ⟨("gap", none), "gap", "gap", defArgs s_gap, defBody s_gap, defScope s_gap, [], []⟩
def d_both_of : He.DefD := ⟨("both_of", none), "both_of", "both_of", defArgs s_both_of, defBody s_both_of, defScope s_both_of, [], []⟩
def d_floor_of : He.DefD := ⟨("floor_of", none), "floor_of", "floor_of", defArgs s_floor_of, defBody s_floor_of, defScope s_floor_of, [], []⟩
def d_least : He.DefD := ⟨("least", none), "least", "least", defArgs s_least, defBody s_least, defScope s_least, [], []⟩
def d_gaps_along : He.DefD := ⟨("gaps_along", none), "gaps_along", "gaps_along", defArgs s_gaps_along, defBody s_gaps_along, defScope s_gaps_along, [], []⟩
def d_slips_of : He.DefD := ⟨("slips_of", none), "slips_of", "slips_of", defArgs s_slips_of, defBody s_slips_of, defScope s_slips_of, [], []⟩
def d_filling : He.DefD := ⟨("filling", none), "filling", "filling", defArgs s_filling, defBody s_filling, defScope s_filling, [], []⟩
def d_floor : He.DefD := ⟨("floor", none), "floor", "floor", defArgs s_floor, defBody s_floor, defScope s_floor, [], []⟩
def d_who_slipped : He.DefD := ⟨("who_slipped", none), "who_slipped", "who_slipped", defArgs s_who_slipped, defBody s_who_slipped, defScope s_who_slipped, [], []⟩
def d_may_have : He.DefD := ⟨("may_have", none), "may_have", "may_have", defArgs s_may_have, defBody s_may_have, defScope s_may_have, [], []⟩
def d_gaps_of : He.DefD := ⟨("gaps_of", none), "gaps_of", "gaps_of", defArgs s_gaps_of, defBody s_gaps_of, defScope s_gaps_of, [], []⟩
def d_least_sum : He.DefD := ⟨("least_sum", none), "least_sum", "least_sum", defArgs s_least_sum, defBody s_least_sum, defScope s_least_sum, [], []⟩
def d_table_of : He.DefD := ⟨("table_of", none), "table_of", "table_of", defArgs s_table_of, defBody s_table_of, defScope s_table_of, [], []⟩
def d_three_of : He.DefD := ⟨("three_of", none), "three_of", "three_of", defArgs s_three_of, defBody s_three_of, defScope s_three_of, [], []⟩
def d_table : He.DefD := ⟨("table", none), "table", "table", defArgs s_table, defBody s_table, defScope s_table, [], []⟩
def d_table_holds : He.DefD := ⟨("table_holds", none), "table_holds", "table_holds", defArgs s_table_holds, defBody s_table_holds, defScope s_table_holds, [], []⟩
def d_rest_of : He.DefD := ⟨("rest_of", none), "rest_of", "rest_of", defArgs s_rest_of, defBody s_rest_of, defScope s_rest_of, [], []⟩
def d_least_by : He.DefD := ⟨("least_by", none), "least_by", "least_by", defArgs s_least_by, defBody s_least_by, defScope s_least_by, [], []⟩
def d_most_each : He.DefD := ⟨("most_each", none), "most_each", "most_each", defArgs s_most_each, defBody s_most_each, defScope s_most_each, [], []⟩
def d__law_cell : He.DefD := ⟨("_law_cell", none), "_law_cell", "_law_cell", defArgs s__law_cell, defBody s__law_cell, defScope s__law_cell, [], []⟩
def d__law_numbers : He.DefD := ⟨("_law_numbers", none), "_law_numbers", "_law_numbers", defArgs s__law_numbers, defBody s__law_numbers, defScope s__law_numbers, [], []⟩
def d__law_listed : He.DefD := ⟨("_law_listed", none), "_law_listed", "_law_listed", defArgs s__law_listed, defBody s__law_listed, defScope s__law_listed, [], []⟩
def d__law_same : He.DefD := ⟨("_law_same", none), "_law_same", "_law_same", defArgs s__law_same, defBody s__law_same, defScope s__law_same, [], []⟩
def d__law_word : He.DefD := ⟨("_law_word", none), "_law_word", "_law_word", defArgs s__law_word, defBody s__law_word, defScope s__law_word, [], []⟩
def d__law_gap : He.DefD := ⟨("_law_gap", none), "_law_gap", "_law_gap", defArgs s__law_gap, defBody s__law_gap, defScope s__law_gap, [], []⟩
def d__law_words : He.DefD := ⟨("_law_words", none), "_law_words", "_law_words", defArgs s__law_words, defBody s__law_words, defScope s__law_words, [], []⟩
def d__law_table : He.DefD := ⟨("_law_table", none), "_law_table", "_law_table", defArgs s__law_table, defBody s__law_table, defScope s__law_table, [], []⟩
def d__law_fillings : He.DefD := ⟨("_law_fillings", none), "_law_fillings", "_law_fillings", defArgs s__law_fillings, defBody s__law_fillings, defScope s__law_fillings, [], []⟩
def d__law_slips : He.DefD := ⟨("_law_slips", none), "_law_slips", "_law_slips", defArgs s__law_slips, defBody s__law_slips, defScope s__law_slips, [], []⟩
def d_law : He.DefD := ⟨("law", none), "law", "law", defArgs s_law, defBody s_law, defScope s_law, [], []⟩
def fn_0 : List He.DefD := [d_need, d_is_int, d_is_seq, d_is_within, d_need_within, d_is_name, d_rank_key, d_is_rising, d_is_told, d_to_row, d_to_names, d_to_rising_names, d_to_word, d_to_words, d_to_heard, d_gap_of, d_gap, d_both_of, d_floor_of, d_least]
def fn_1 : List He.DefD := [d_gaps_along, d_slips_of, d_filling, d_floor, d_who_slipped, d_may_have, d_gaps_of, d_least_sum, d_table_of, d_three_of, d_table, d_table_holds, d_rest_of, d_least_by, d_most_each, d__law_cell, d__law_numbers, d__law_listed, d__law_same, d__law_word]
def fn_2 : List He.DefD := [d__law_gap, d__law_words, d__law_table, d__law_fillings, d__law_slips, d_law]
def fn : List He.DefD := fn_0 ++ fn_1 ++ fn_2
def fa_0 : List He.Fa := [.glo "need", .glo "is_int", .glo "is_seq", .glo "is_within", .glo "need_within", .glo "is_name", .glo "rank_key", .glo "is_rising", .glo "is_told", .glo "to_row", .glo "to_names", .glo "to_rising_names", .glo "to_word", .glo "to_words", .glo "to_heard", .glo "gap_of", .glo "gap", .glo "both_of", .glo "floor_of", .glo "least"]
def fa_1 : List He.Fa := [.glo "gaps_along", .glo "slips_of", .glo "filling", .glo "floor", .glo "who_slipped", .glo "may_have", .glo "gaps_of", .glo "least_sum", .glo "table_of", .glo "three_of", .glo "table", .glo "table_holds", .glo "rest_of", .glo "least_by", .glo "most_each", .glo "_law_cell", .glo "_law_numbers", .glo "_law_listed", .glo "_law_same", .glo "_law_word"]
def fa_2 : List He.Fa := [.glo "_law_gap", .glo "_law_words", .glo "_law_table", .glo "_law_fillings", .glo "_law_slips", .glo "law", .free "Exception", .free "isinstance", .free "all", .free "bool", .free "int", .free "str", .free "enumerate", .free "tuple", .free "list", .free "sum", .free "min", .free "reversed", .free "range", .free "sorted"]
def fa_3 : List He.Fa := [.free "len", .free "any", .free "max", .str "LETTERS" "abcdefghijklmnopqrstuvwxyz"]
def fa : List He.Fa := fa_0 ++ fa_1 ++ fa_2 ++ fa_3
abbrev R : PySem.W.OpenRow := PySem.W.OpenLaw.row PySem.Challenge.rw_playground_k35_whispers_by_tables_whole
def ck : List Q.Ck := []
abbrev hk : PySem.W.Hook := Q.hookQ 7 fa fn ck
def ob (s : PySem.W.SharedT) : He.AlD × Bool := Q.obsQ 7 fa fn ck (HandSHeadRun.getT s)
theorem ob_eq (s : PySem.W.SharedT) : ob s = hk.obs s.abs := Q.obsQ_eq (HandSHeadRun.getT_eq s)
def loose_0 : List PySem.Str := ["PlayError", "BadValue", "LETTERS", "need", "is_int", "is_seq", "is_within", "need_within", "is_name", "rank_key", "is_rising", "is_told", "to_row", "to_names", "to_rising_names", "to_word", "to_words", "to_heard", "gap_of", "gap"]
def loose_1 : List PySem.Str := ["both_of", "floor_of", "least", "gaps_along", "slips_of", "filling", "floor", "who_slipped", "may_have", "gaps_of", "least_sum", "table_of", "three_of", "table", "table_holds", "rest_of", "least_by", "most_each", "_law_cell", "_law_numbers"]
def loose_2 : List PySem.Str := ["_law_listed", "_law_same", "_law_word", "_law_gap", "_law_words", "_law_table", "_law_fillings", "_law_slips"]
def loose : List PySem.Str := loose_0 ++ loose_1 ++ loose_2
theorem run (w : World) : HandSHeadRun.RunEq R (PySem.W.view R.prog [52]) hk ob 4000 loose w := by
  intro os
  kernel_rfl
end Hd
end

/-! part: DenK35 -/
section
set_option Elab.async false
set_option linter.all false
set_option maxRecDepth 100000
set_option maxHeartbeats 0
namespace Hd
open PySem PySem.Spec PySem.Calls PyProof.Rows L2 Q
/-- what the head tells -/
structure Fx (K : PySem.W.Frag) (mg : Str → Option Value) : Prop where
  f__law_word : ∃ fd, FunD K "_law_word" "_law_word" (defArgs s__law_word) (defBody s__law_word) (defScope s__law_word) [] [] (He.ga K "_law_word") fd
  f__law_cell : ∃ fd, FunD K "_law_cell" "_law_cell" (defArgs s__law_cell) (defBody s__law_cell) (defScope s__law_cell) [] [] (He.ga K "_law_cell") fd
  f__law_numbers : ∃ fd, FunD K "_law_numbers" "_law_numbers" (defArgs s__law_numbers) (defBody s__law_numbers) (defScope s__law_numbers) [] [] (He.ga K "_law_numbers") fd
  f__law_words : ∃ fd, FunD K "_law_words" "_law_words" (defArgs s__law_words) (defBody s__law_words) (defScope s__law_words) [] [] (He.ga K "_law_words") fd
  f__law_gap : ∃ fd, FunD K "_law_gap" "_law_gap" (defArgs s__law_gap) (defBody s__law_gap) (defScope s__law_gap) [] [] (He.ga K "_law_gap") fd
  f__law_table : ∃ fd, FunD K "_law_table" "_law_table" (defArgs s__law_table) (defBody s__law_table) (defScope s__law_table) [] [] (He.ga K "_law_table") fd
  f__law_fillings : ∃ fd, FunD K "_law_fillings" "_law_fillings" (defArgs s__law_fillings) (defBody s__law_fillings) (defScope s__law_fillings) [] [] (He.ga K "_law_fillings") fd
  f__law_same : ∃ fd, FunD K "_law_same" "_law_same" (defArgs s__law_same) (defBody s__law_same) (defScope s__law_same) [] [] (He.ga K "_law_same") fd
  f_need : ∃ fd, FunD K "need" "need" (defArgs s_need) (defBody s_need) (defScope s_need) [] [] (He.ga K "need") fd
  f_is_int : ∃ fd, FunD K "is_int" "is_int" (defArgs s_is_int) (defBody s_is_int) (defScope s_is_int) [] [] (He.ga K "is_int") fd
  f_is_within : ∃ fd, FunD K "is_within" "is_within" (defArgs s_is_within) (defBody s_is_within) (defScope s_is_within) [] [] (He.ga K "is_within") fd
  f_need_within : ∃ fd, FunD K "need_within" "need_within" (defArgs s_need_within) (defBody s_need_within) (defScope s_need_within) [] [] (He.ga K "need_within") fd
  f_gap_of : ∃ fd, FunD K "gap_of" "gap_of" (defArgs s_gap_of) (defBody s_gap_of) (defScope s_gap_of) [] [] (He.ga K "gap_of") fd
  f_gaps_of : ∃ fd, FunD K "gaps_of" "gaps_of" (defArgs s_gaps_of) (defBody s_gaps_of) (defScope s_gaps_of) [] [] (He.ga K "gaps_of") fd
  f_is_seq : ∃ fd, FunD K "is_seq" "is_seq" (defArgs s_is_seq) (defBody s_is_seq) (defScope s_is_seq) [] [] (He.ga K "is_seq") fd
  f_to_row : ∃ fd, FunD K "to_row" "to_row" (defArgs s_to_row) (defBody s_to_row) (defScope s_to_row) [] [] (He.ga K "to_row") fd
  f_is_name : ∃ fd, FunD K "is_name" "is_name" (defArgs s_is_name) (defBody s_is_name) (defScope s_is_name) [] [] (He.ga K "is_name") fd
  f_to_names : ∃ fd, FunD K "to_names" "to_names" (defArgs s_to_names) (defBody s_to_names) (defScope s_to_names) [] [] (He.ga K "to_names") fd
  f_rank_key : ∃ fd, FunD K "rank_key" "rank_key" (defArgs s_rank_key) (defBody s_rank_key) (defScope s_rank_key) [] [] (He.ga K "rank_key") fd
  f_is_rising : ∃ fd, FunD K "is_rising" "is_rising" (defArgs s_is_rising) (defBody s_is_rising) (defScope s_is_rising) [] [] (He.ga K "is_rising") fd
  f_to_rising_names : ∃ fd, FunD K "to_rising_names" "to_rising_names" (defArgs s_to_rising_names) (defBody s_to_rising_names) (defScope s_to_rising_names) [] [] (He.ga K "to_rising_names") fd
  f_to_words : ∃ fd, FunD K "to_words" "to_words" (defArgs s_to_words) (defBody s_to_words) (defScope s_to_words) [] [] (He.ga K "to_words") fd
  f_to_word : ∃ fd, FunD K "to_word" "to_word" (defArgs s_to_word) (defBody s_to_word) (defScope s_to_word) [] [] (He.ga K "to_word") fd
  f_to_heard : ∃ fd, FunD K "to_heard" "to_heard" (defArgs s_to_heard) (defBody s_to_heard) (defScope s_to_heard) [] [] (He.ga K "to_heard") fd
  f_most_each : ∃ fd, FunD K "most_each" "most_each" (defArgs s_most_each) (defBody s_most_each) (defScope s_most_each) [] [] (He.ga K "most_each") fd
  f_gap : ∃ fd, FunD K "gap" "gap" (defArgs s_gap) (defBody s_gap) (defScope s_gap) [] [] (He.ga K "gap") fd
  f_both_of : ∃ fd, FunD K "both_of" "both_of" (defArgs s_both_of) (defBody s_both_of) (defScope s_both_of) [] [] (He.ga K "both_of") fd
  f_floor_of : ∃ fd, FunD K "floor_of" "floor_of" (defArgs s_floor_of) (defBody s_floor_of) (defScope s_floor_of) [] [] (He.ga K "floor_of") fd
  f_least : ∃ fd, FunD K "least" "least" (defArgs s_least) (defBody s_least) (defScope s_least) [] [] (He.ga K "least") fd
  f_gaps_along : ∃ fd, FunD K "gaps_along" "gaps_along" (defArgs s_gaps_along) (defBody s_gaps_along) (defScope s_gaps_along) [] [] (He.ga K "gaps_along") fd
  f_slips_of : ∃ fd, FunD K "slips_of" "slips_of" (defArgs s_slips_of) (defBody s_slips_of) (defScope s_slips_of) [] [] (He.ga K "slips_of") fd
  f_three_of : ∃ fd, FunD K "three_of" "three_of" (defArgs s_three_of) (defBody s_three_of) (defScope s_three_of) [] [] (He.ga K "three_of") fd
  f_is_told : ∃ fd, FunD K "is_told" "is_told" (defArgs s_is_told) (defBody s_is_told) (defScope s_is_told) [] [] (He.ga K "is_told") fd
  f_least_sum : ∃ fd, FunD K "least_sum" "least_sum" (defArgs s_least_sum) (defBody s_least_sum) (defScope s_least_sum) [] [] (He.ga K "least_sum") fd
  f_table_of : ∃ fd, FunD K "table_of" "table_of" (defArgs s_table_of) (defBody s_table_of) (defScope s_table_of) [] [] (He.ga K "table_of") fd
  f_table_holds : ∃ fd, FunD K "table_holds" "table_holds" (defArgs s_table_holds) (defBody s_table_holds) (defScope s_table_holds) [] [] (He.ga K "table_holds") fd
  f_rest_of : ∃ fd, FunD K "rest_of" "rest_of" (defArgs s_rest_of) (defBody s_rest_of) (defScope s_rest_of) [] [] (He.ga K "rest_of") fd
  f_least_by : ∃ fd, FunD K "least_by" "least_by" (defArgs s_least_by) (defBody s_least_by) (defScope s_least_by) [] [] (He.ga K "least_by") fd
  f__law_listed : ∃ fd, FunD K "_law_listed" "_law_listed" (defArgs s__law_listed) (defBody s__law_listed) (defScope s__law_listed) [] [] (He.ga K "_law_listed") fd
  f_floor : ∃ fd, FunD K "floor" "floor" (defArgs s_floor) (defBody s_floor) (defScope s_floor) [] [] (He.ga K "floor") fd
  f_filling : ∃ fd, FunD K "filling" "filling" (defArgs s_filling) (defBody s_filling) (defScope s_filling) [] [] (He.ga K "filling") fd
  f__law_slips : ∃ fd, FunD K "_law_slips" "_law_slips" (defArgs s__law_slips) (defBody s__law_slips) (defScope s__law_slips) [] [] (He.ga K "_law_slips") fd
  f_who_slipped : ∃ fd, FunD K "who_slipped" "who_slipped" (defArgs s_who_slipped) (defBody s_who_slipped) (defScope s_who_slipped) [] [] (He.ga K "who_slipped") fd
  f_may_have : ∃ fd, FunD K "may_have" "may_have" (defArgs s_may_have) (defBody s_may_have) (defScope s_may_have) [] [] (He.ga K "may_have") fd
  f_table : ∃ fd, FunD K "table" "table" (defArgs s_table) (defBody s_table) (defScope s_table) [] [] (He.ga K "table") fd
  f_law : ∃ fd, FunD K "law" "law" (defArgs s_law) (defBody s_law) (defScope s_law) [] [] (He.ga K "law") fd
  g__law_word : mg "_law_word" = some (.ref (He.ga K "_law_word"))
  g__law_cell : mg "_law_cell" = some (.ref (He.ga K "_law_cell"))
  g__law_numbers : mg "_law_numbers" = some (.ref (He.ga K "_law_numbers"))
  g__law_words : mg "_law_words" = some (.ref (He.ga K "_law_words"))
  g__law_gap : mg "_law_gap" = some (.ref (He.ga K "_law_gap"))
  g__law_table : mg "_law_table" = some (.ref (He.ga K "_law_table"))
  g__law_fillings : mg "_law_fillings" = some (.ref (He.ga K "_law_fillings"))
  g__law_same : mg "_law_same" = some (.ref (He.ga K "_law_same"))
  g_need : mg "need" = some (.ref (He.ga K "need"))
  g_is_int : mg "is_int" = some (.ref (He.ga K "is_int"))
  g_is_within : mg "is_within" = some (.ref (He.ga K "is_within"))
  g_need_within : mg "need_within" = some (.ref (He.ga K "need_within"))
  g_gap_of : mg "gap_of" = some (.ref (He.ga K "gap_of"))
  g_gaps_of : mg "gaps_of" = some (.ref (He.ga K "gaps_of"))
  g_is_seq : mg "is_seq" = some (.ref (He.ga K "is_seq"))
  g_to_row : mg "to_row" = some (.ref (He.ga K "to_row"))
  g_is_name : mg "is_name" = some (.ref (He.ga K "is_name"))
  g_to_names : mg "to_names" = some (.ref (He.ga K "to_names"))
  g_rank_key : mg "rank_key" = some (.ref (He.ga K "rank_key"))
  g_is_rising : mg "is_rising" = some (.ref (He.ga K "is_rising"))
  g_to_rising_names : mg "to_rising_names" = some (.ref (He.ga K "to_rising_names"))
  g_to_words : mg "to_words" = some (.ref (He.ga K "to_words"))
  g_to_word : mg "to_word" = some (.ref (He.ga K "to_word"))
  g_to_heard : mg "to_heard" = some (.ref (He.ga K "to_heard"))
  g_most_each : mg "most_each" = some (.ref (He.ga K "most_each"))
  g_gap : mg "gap" = some (.ref (He.ga K "gap"))
  g_both_of : mg "both_of" = some (.ref (He.ga K "both_of"))
  g_floor_of : mg "floor_of" = some (.ref (He.ga K "floor_of"))
  g_least : mg "least" = some (.ref (He.ga K "least"))
  g_gaps_along : mg "gaps_along" = some (.ref (He.ga K "gaps_along"))
  g_slips_of : mg "slips_of" = some (.ref (He.ga K "slips_of"))
  g_three_of : mg "three_of" = some (.ref (He.ga K "three_of"))
  g_is_told : mg "is_told" = some (.ref (He.ga K "is_told"))
  g_least_sum : mg "least_sum" = some (.ref (He.ga K "least_sum"))
  g_table_of : mg "table_of" = some (.ref (He.ga K "table_of"))
  g_table_holds : mg "table_holds" = some (.ref (He.ga K "table_holds"))
  g_rest_of : mg "rest_of" = some (.ref (He.ga K "rest_of"))
  g_least_by : mg "least_by" = some (.ref (He.ga K "least_by"))
  g__law_listed : mg "_law_listed" = some (.ref (He.ga K "_law_listed"))
  g_floor : mg "floor" = some (.ref (He.ga K "floor"))
  g_filling : mg "filling" = some (.ref (He.ga K "filling"))
  g__law_slips : mg "_law_slips" = some (.ref (He.ga K "_law_slips"))
  g_who_slipped : mg "who_slipped" = some (.ref (He.ga K "who_slipped"))
  g_may_have : mg "may_have" = some (.ref (He.ga K "may_have"))
  g_table : mg "table" = some (.ref (He.ga K "table"))
  g_law : mg "law" = some (.ref (He.ga K "law"))
  n_Exception : mg "Exception" = none
  n_isinstance : mg "isinstance" = none
  n_all : mg "all" = none
  n_bool : mg "bool" = none
  n_int : mg "int" = none
  n_str : mg "str" = none
  n_enumerate : mg "enumerate" = none
  n_tuple : mg "tuple" = none
  n_list : mg "list" = none
  n_sum : mg "sum" = none
  n_min : mg "min" = none
  n_reversed : mg "reversed" = none
  n_range : mg "range" = none
  n_sorted : mg "sorted" = none
  n_len : mg "len" = none
  n_any : mg "any" = none
  n_max : mg "max" = none
  c_LETTERS : ∃ t, mg "LETTERS" = some (.str "abcdefghijklmnopqrstuvwxyz" t)
theorem fx_ok {K : PySem.W.Frag} {h : Heap} {mg : Str → Option Value} (X : K.In h) (G : h.Ns mainGlobals mg) (c : He.SaysD fa fn K) (c2 : (ck.all fun c => c.ok K) = true) : Fx K mg where
  f__law_word := c.def_ 39 (d := d__law_word) rfl
  f__law_cell := c.def_ 35 (d := d__law_cell) rfl
  f__law_numbers := c.def_ 36 (d := d__law_numbers) rfl
  f__law_words := c.def_ 41 (d := d__law_words) rfl
  f__law_gap := c.def_ 40 (d := d__law_gap) rfl
  f__law_table := c.def_ 42 (d := d__law_table) rfl
  f__law_fillings := c.def_ 43 (d := d__law_fillings) rfl
  f__law_same := c.def_ 38 (d := d__law_same) rfl
  f_need := c.def_ 0 (d := d_need) rfl
  f_is_int := c.def_ 1 (d := d_is_int) rfl
  f_is_within := c.def_ 3 (d := d_is_within) rfl
  f_need_within := c.def_ 4 (d := d_need_within) rfl
  f_gap_of := c.def_ 15 (d := d_gap_of) rfl
  f_gaps_of := c.def_ 26 (d := d_gaps_of) rfl
  f_is_seq := c.def_ 2 (d := d_is_seq) rfl
  f_to_row := c.def_ 9 (d := d_to_row) rfl
  f_is_name := c.def_ 5 (d := d_is_name) rfl
  f_to_names := c.def_ 10 (d := d_to_names) rfl
  f_rank_key := c.def_ 6 (d := d_rank_key) rfl
  f_is_rising := c.def_ 7 (d := d_is_rising) rfl
  f_to_rising_names := c.def_ 11 (d := d_to_rising_names) rfl
  f_to_words := c.def_ 13 (d := d_to_words) rfl
  f_to_word := c.def_ 12 (d := d_to_word) rfl
  f_to_heard := c.def_ 14 (d := d_to_heard) rfl
  f_most_each := c.def_ 34 (d := d_most_each) rfl
  f_gap := c.def_ 16 (d := d_gap) rfl
  f_both_of := c.def_ 17 (d := d_both_of) rfl
  f_floor_of := c.def_ 18 (d := d_floor_of) rfl
  f_least := c.def_ 19 (d := d_least) rfl
  f_gaps_along := c.def_ 20 (d := d_gaps_along) rfl
  f_slips_of := c.def_ 21 (d := d_slips_of) rfl
  f_three_of := c.def_ 29 (d := d_three_of) rfl
  f_is_told := c.def_ 8 (d := d_is_told) rfl
  f_least_sum := c.def_ 27 (d := d_least_sum) rfl
  f_table_of := c.def_ 28 (d := d_table_of) rfl
  f_table_holds := c.def_ 31 (d := d_table_holds) rfl
  f_rest_of := c.def_ 32 (d := d_rest_of) rfl
  f_least_by := c.def_ 33 (d := d_least_by) rfl
  f__law_listed := c.def_ 37 (d := d__law_listed) rfl
  f_floor := c.def_ 23 (d := d_floor) rfl
  f_filling := c.def_ 22 (d := d_filling) rfl
  f__law_slips := c.def_ 44 (d := d__law_slips) rfl
  f_who_slipped := c.def_ 24 (d := d_who_slipped) rfl
  f_may_have := c.def_ 25 (d := d_may_have) rfl
  f_table := c.def_ 30 (d := d_table) rfl
  f_law := c.def_ 45 (d := d_law) rfl
  g__law_word := He.glo_ok X G (c.fact 39 (f := .glo "_law_word") rfl)
  g__law_cell := He.glo_ok X G (c.fact 35 (f := .glo "_law_cell") rfl)
  g__law_numbers := He.glo_ok X G (c.fact 36 (f := .glo "_law_numbers") rfl)
  g__law_words := He.glo_ok X G (c.fact 41 (f := .glo "_law_words") rfl)
  g__law_gap := He.glo_ok X G (c.fact 40 (f := .glo "_law_gap") rfl)
  g__law_table := He.glo_ok X G (c.fact 42 (f := .glo "_law_table") rfl)
  g__law_fillings := He.glo_ok X G (c.fact 43 (f := .glo "_law_fillings") rfl)
  g__law_same := He.glo_ok X G (c.fact 38 (f := .glo "_law_same") rfl)
  g_need := He.glo_ok X G (c.fact 0 (f := .glo "need") rfl)
  g_is_int := He.glo_ok X G (c.fact 1 (f := .glo "is_int") rfl)
  g_is_within := He.glo_ok X G (c.fact 3 (f := .glo "is_within") rfl)
  g_need_within := He.glo_ok X G (c.fact 4 (f := .glo "need_within") rfl)
  g_gap_of := He.glo_ok X G (c.fact 15 (f := .glo "gap_of") rfl)
  g_gaps_of := He.glo_ok X G (c.fact 26 (f := .glo "gaps_of") rfl)
  g_is_seq := He.glo_ok X G (c.fact 2 (f := .glo "is_seq") rfl)
  g_to_row := He.glo_ok X G (c.fact 9 (f := .glo "to_row") rfl)
  g_is_name := He.glo_ok X G (c.fact 5 (f := .glo "is_name") rfl)
  g_to_names := He.glo_ok X G (c.fact 10 (f := .glo "to_names") rfl)
  g_rank_key := He.glo_ok X G (c.fact 6 (f := .glo "rank_key") rfl)
  g_is_rising := He.glo_ok X G (c.fact 7 (f := .glo "is_rising") rfl)
  g_to_rising_names := He.glo_ok X G (c.fact 11 (f := .glo "to_rising_names") rfl)
  g_to_words := He.glo_ok X G (c.fact 13 (f := .glo "to_words") rfl)
  g_to_word := He.glo_ok X G (c.fact 12 (f := .glo "to_word") rfl)
  g_to_heard := He.glo_ok X G (c.fact 14 (f := .glo "to_heard") rfl)
  g_most_each := He.glo_ok X G (c.fact 34 (f := .glo "most_each") rfl)
  g_gap := He.glo_ok X G (c.fact 16 (f := .glo "gap") rfl)
  g_both_of := He.glo_ok X G (c.fact 17 (f := .glo "both_of") rfl)
  g_floor_of := He.glo_ok X G (c.fact 18 (f := .glo "floor_of") rfl)
  g_least := He.glo_ok X G (c.fact 19 (f := .glo "least") rfl)
  g_gaps_along := He.glo_ok X G (c.fact 20 (f := .glo "gaps_along") rfl)
  g_slips_of := He.glo_ok X G (c.fact 21 (f := .glo "slips_of") rfl)
  g_three_of := He.glo_ok X G (c.fact 29 (f := .glo "three_of") rfl)
  g_is_told := He.glo_ok X G (c.fact 8 (f := .glo "is_told") rfl)
  g_least_sum := He.glo_ok X G (c.fact 27 (f := .glo "least_sum") rfl)
  g_table_of := He.glo_ok X G (c.fact 28 (f := .glo "table_of") rfl)
  g_table_holds := He.glo_ok X G (c.fact 31 (f := .glo "table_holds") rfl)
  g_rest_of := He.glo_ok X G (c.fact 32 (f := .glo "rest_of") rfl)
  g_least_by := He.glo_ok X G (c.fact 33 (f := .glo "least_by") rfl)
  g__law_listed := He.glo_ok X G (c.fact 37 (f := .glo "_law_listed") rfl)
  g_floor := He.glo_ok X G (c.fact 23 (f := .glo "floor") rfl)
  g_filling := He.glo_ok X G (c.fact 22 (f := .glo "filling") rfl)
  g__law_slips := He.glo_ok X G (c.fact 44 (f := .glo "_law_slips") rfl)
  g_who_slipped := He.glo_ok X G (c.fact 24 (f := .glo "who_slipped") rfl)
  g_may_have := He.glo_ok X G (c.fact 25 (f := .glo "may_have") rfl)
  g_table := He.glo_ok X G (c.fact 30 (f := .glo "table") rfl)
  g_law := He.glo_ok X G (c.fact 45 (f := .glo "law") rfl)
  n_Exception := He.free_ok X G (c.fact 46 (f := .free "Exception") rfl)
  n_isinstance := He.free_ok X G (c.fact 47 (f := .free "isinstance") rfl)
  n_all := He.free_ok X G (c.fact 48 (f := .free "all") rfl)
  n_bool := He.free_ok X G (c.fact 49 (f := .free "bool") rfl)
  n_int := He.free_ok X G (c.fact 50 (f := .free "int") rfl)
  n_str := He.free_ok X G (c.fact 51 (f := .free "str") rfl)
  n_enumerate := He.free_ok X G (c.fact 52 (f := .free "enumerate") rfl)
  n_tuple := He.free_ok X G (c.fact 53 (f := .free "tuple") rfl)
  n_list := He.free_ok X G (c.fact 54 (f := .free "list") rfl)
  n_sum := He.free_ok X G (c.fact 55 (f := .free "sum") rfl)
  n_min := He.free_ok X G (c.fact 56 (f := .free "min") rfl)
  n_reversed := He.free_ok X G (c.fact 57 (f := .free "reversed") rfl)
  n_range := He.free_ok X G (c.fact 58 (f := .free "range") rfl)
  n_sorted := He.free_ok X G (c.fact 59 (f := .free "sorted") rfl)
  n_len := He.free_ok X G (c.fact 60 (f := .free "len") rfl)
  n_any := He.free_ok X G (c.fact 61 (f := .free "any") rfl)
  n_max := He.free_ok X G (c.fact 62 (f := .free "max") rfl)
  c_LETTERS := He.str_ok X G (c.fact 63 (f := .str "LETTERS" "abcdefghijklmnopqrstuvwxyz") rfl)
section
variable {P : Program} {w : World} {K : PySem.W.Frag} {mg : Str → Option Value} {base : Heap}
abbrev N__law_word : List Str := ["n", "k"]
theorem sc__law_word : FnScope N__law_word ["n"] (defScope s__law_word) := ⟨rfl, rfl, rfl, by decide +kernel, rfl, by decide +kernel, by decide +kernel⟩
theorem bi__law_word : ∀ (kV doc pm : Value) (an : Option Addr) (cdv ct : Value) (us : List Value), us.length = (["n"] : List Str).length → bindArgs (PySem.W.fnOf "_law_word" "_law_word" (defArgs s__law_word) (defBody s__law_word) (defScope s__law_word) .none kV doc pm an cdv ct) ⟨us, []⟩ = pure ((["n"] : List Str).zip us) :=
  fun _ _ _ _ _ _ us hl => match us, hl with | [_], _ => rfl
def b__law_word : Bd := bRet (f2 joinD (cD (.str "")) (fLc (fIs rg1D (aCons (f2 addD (cD (.int 1)) (f2 modD (vF 0) (cD (.int 4)))) (aNil))) (sN 1) (fYes) (f2 ixD (cD (.str "abt")) (f2 modD (fB intD (aCons (f2 fdivD (vF 0) (f2 addD (cD (.int 1)) (f2 mulD (cD (.int 4)) (vF 1)))) (aNil))) (cD (.int 3)))) [1]))
def Ph__law_word : List D → Option D := fnB (N__law_word).length (["n"] : List Str).length b__law_word
theorem dd__law_word (Z : Fx K mg) (cdv : Value) (A : Around) (outer : List Env) (s : Shared) (H : Hp) (E : XK) (hr : Room (0) (A.deeper (envOfC "_law_word" (defScope s__law_word) s.heap.objs.size (He.ga K "_law_word") cdv))) :
    ∃ W t, DSs (cxOf CX0 P w K mg base N__law_word "_law_word" (defScope s__law_word) (He.ga K "_law_word") cdv A outer s H E).nox .fz W (defBody s__law_word) t (b__law_word) := ⟨_, _,
  dss_one (ds_ret (de_join K (de_str) (de_lc [("k", 1)] sc__law_word.nd (di_rg1 rfl Z.n_range (da_cons (de_op (op_addAK K) ops_addA (de_int) (de_op op_modN ops_mod (de_v 0) (de_int))) (da_nil))) (blk_of (N := N__law_word) (sc := defScope s__law_word) (by decide +kernel)) (fun _ _ _ _ _ => dg_n sc__law_word.nd (i := 1)) (fun _ _ _ _ _ => dts_nil) (fun _ _ _ _ _ => de_ixK K (de_str) (de_op op_modN ops_mod (de_ct call_int1 cs_int rfl Z.n_int bt_int (da_cons (de_op op_fdivN ops_fdiv (de_v 0) (de_op (op_addAK K) ops_addA (de_int) (de_op op_mul ops_mul (de_int) (de_v 1)))) (da_nil))) (de_int))) (by decide))))⟩
theorem ok__law_word (Z : Fx K mg) : Ok P w K mg base 1 "_law_word" ["n"] .fz Ph__law_word := by
  obtain ⟨fd, F⟩ := Z.f__law_word
  exact ok_fz (P := P) (w := w) (mg := mg) (base := base) (b := b__law_word) (k := 0) (N := N__law_word) F sc__law_word bi__law_word Z.g__law_word (dd__law_word Z)
abbrev N__law_cell : List Str := ["script", "spot"]
theorem sc__law_cell : FnScope N__law_cell ["script", "spot"] (defScope s__law_cell) := ⟨rfl, rfl, rfl, by decide +kernel, rfl, by decide +kernel, by decide +kernel⟩
theorem bi__law_cell : ∀ (kV doc pm : Value) (an : Option Addr) (cdv ct : Value) (us : List Value), us.length = (["script", "spot"] : List Str).length → bindArgs (PySem.W.fnOf "_law_cell" "_law_cell" (defArgs s__law_cell) (defBody s__law_cell) (defScope s__law_cell) .none kV doc pm an cdv ct) ⟨us, []⟩ = pure ((["script", "spot"] : List Str).zip us) :=
  fun _ _ _ _ _ _ us hl => match us, hl with | [_, _], _ => rfl
def b__law_cell : Bd := bSeq (bIf (fT (f2 ltD (vF 1) (fB lenD (aCons (vF 0) (aNil))))) (bRet (fB intD (aCons (f2 ixD (vF 0) (vF 1)) (aNil)))) (bNext)) (bRet (cD (.int 0)))
def Ph__law_cell : List D → Option D := fnB (N__law_cell).length (["script", "spot"] : List Str).length b__law_cell
theorem dd__law_cell (Z : Fx K mg) (cdv : Value) (A : Around) (outer : List Env) (s : Shared) (H : Hp) (E : XK) (hr : Room (0) (A.deeper (envOfC "_law_cell" (defScope s__law_cell) s.heap.objs.size (He.ga K "_law_cell") cdv))) :
    ∃ W t, DSs (cxOf CX0 P w K mg base N__law_cell "_law_cell" (defScope s__law_cell) (He.ga K "_law_cell") cdv A outer s H E).nox .fz W (defBody s__law_cell) t (b__law_cell) := ⟨_, _,
  dss_cons (ds_if (dt_cmp (op_lt_K K hr.u64) ops_lt rfl (de_v 1) (de_cb (call_lenK K) cs_len rfl Z.n_len bt_len (da_cons (de_v 0) (da_nil)))) (dss_one (ds_ret (de_ct call_int1 cs_int rfl Z.n_int bt_int (da_cons (de_ixK K (de_v 0) (de_v 1)) (da_nil))))) (dss_nil)) (dss_one (ds_ret (de_int)))⟩
theorem ok__law_cell (Z : Fx K mg) : Ok P w K mg base 1 "_law_cell" ["script", "spot"] .fz Ph__law_cell := by
  obtain ⟨fd, F⟩ := Z.f__law_cell
  exact ok_fz (P := P) (w := w) (mg := mg) (base := base) (b := b__law_cell) (k := 0) (N := N__law_cell) F sc__law_cell bi__law_cell Z.g__law_cell (dd__law_cell Z)
abbrev N__law_numbers : List Str := ["script", "spot", "size", "cell", "numbers", "remains", "k", "spun"]
theorem sc__law_numbers : FnScope N__law_numbers ["script", "spot", "size"] (defScope s__law_numbers) := ⟨rfl, rfl, rfl, by decide +kernel, rfl, by decide +kernel, by decide +kernel⟩
def L__law_numbers_1 : Bd := bIf (fT (f2 geD (vF 3) (f2 powD (cD (.int 10)) (cD (.int 18))))) (bSeq (bApp 4 (f2 modD (fB intD (aCons (vF 5) (aNil))) (f2 powD (cD (.int 10)) (cD (.int 9))))) (bAsg 5 (f2 fdivD (vF 5) (f2 powD (cD (.int 10)) (cD (.int 9)))))) (bSeq (bAsg 7 (f2 modD (fB intD (aCons (f2 addD (f2 addD (f2 mulD (vF 3) (cD (.int 48271))) (f2 mulD (f2 addD (vF 6) (cD (.int 1))) (cD (.int 69621)))) (vF 1)) (aNil))) (cD (.int 2147483647)))) (bApp 4 (f2 modD (f2 modD (fB intD (aCons (f2 addD (f2 mulD (vF 7) (cD (.int 16807))) (f2 mulD (f2 addD (vF 6) (cD (.int 3))) (cD (.int 40692)))) (aNil))) (cD (.int 2147483399))) (f2 powD (cD (.int 10)) (cD (.int 9))))))
theorem bi__law_numbers : ∀ (kV doc pm : Value) (an : Option Addr) (cdv ct : Value) (us : List Value), us.length = (["script", "spot", "size"] : List Str).length → bindArgs (PySem.W.fnOf "_law_numbers" "_law_numbers" (defArgs s__law_numbers) (defBody s__law_numbers) (defScope s__law_numbers) .none kV doc pm an cdv ct) ⟨us, []⟩ = pure ((["script", "spot", "size"] : List Str).zip us) :=
  fun _ _ _ _ _ _ us hl => match us, hl with | [_, _, _], _ => rfl
def b__law_numbers : Bd := bSeq (bAsg 3 (fB (Ph__law_cell) (aCons (vF 0) (aCons (vF 1) (aNil))))) (bSeq (bOwn 4 (fLst (aNil))) (bSeq (bAsg 5 (vF 3)) (bSeq (bFor (fIs rg1D (aCons (vF 2) (aNil))) (sN 6) (L__law_numbers_1)) (bRet (vO 4)))))
def Ph__law_numbers : List D → Option D := fnR (N__law_numbers).length (["script", "spot", "size"] : List Str).length b__law_numbers
theorem dd__law_numbers (Z : Fx K mg) (cdv : Value) (A : Around) (outer : List Env) (s : Shared) (H : Hp) (E : XK) (hr : Room (1) (A.deeper (envOfC "_law_numbers" (defScope s__law_numbers) s.heap.objs.size (He.ga K "_law_numbers") cdv))) :
    ∃ W t, DSs (cxOf CX0 P w K mg base N__law_numbers "_law_numbers" (defScope s__law_numbers) (He.ga K "_law_numbers") cdv A outer s H E).nox .fr W (defBody s__law_numbers) t (b__law_numbers) := ⟨_, _,
  dss_cons (ds_asg (i := 3) (de_fnK K (ok__law_cell Z) hr (by omega) rfl (da_cons (de_v 0) (da_cons (de_v 1) (da_nil)))) sc__law_numbers.nd) (dss_cons (ds_own (i := 4) (de_lst (da_nil)) sc__law_numbers.nd) (dss_cons (ds_asg (i := 5) (de_v 3) sc__law_numbers.nd) (dss_cons (ds_for (di_rg1 rfl Z.n_range (da_cons (de_v 2) (da_nil))) (dg_n sc__law_numbers.nd (i := 6)) (dss_one (ds_if (dt_cmp (op_ge_K K hr.u64) ops_ge rfl (de_v 3) (de_op op_pow ops_pow (de_int) (de_int))) (dss_cons (ds_app (j := 4) (de_op op_modN ops_mod (de_ct call_int1 cs_int rfl Z.n_int bt_int (da_cons (de_v 5) (da_nil))) (de_op op_pow ops_pow (de_int) (de_int)))) (dss_one (ds_asg (i := 5) (de_op op_fdivN ops_fdiv (de_v 5) (de_op op_pow ops_pow (de_int) (de_int))) sc__law_numbers.nd))) (dss_cons (ds_asg (i := 7) (de_op op_modN ops_mod (de_ct call_int1 cs_int rfl Z.n_int bt_int (da_cons (de_op (op_addAK K) ops_addA (de_op (op_addAK K) ops_addA (de_op op_mul ops_mul (de_v 3) (de_int)) (de_op op_mul ops_mul (de_op (op_addAK K) ops_addA (de_v 6) (de_int)) (de_int))) (de_v 1)) (da_nil))) (de_int)) sc__law_numbers.nd) (dss_one (ds_app (j := 4) (de_op op_modN ops_mod (de_op op_modN ops_mod (de_ct call_int1 cs_int rfl Z.n_int bt_int (da_cons (de_op (op_addAK K) ops_addA (de_op op_mul ops_mul (de_v 7) (de_int)) (de_op op_mul ops_mul (de_op (op_addAK K) ops_addA (de_v 6) (de_int)) (de_int))) (da_nil))) (de_int)) (de_op op_pow ops_pow (de_int) (de_int))))))))) (dss_one (ds_retOwn (i := 4))))))⟩
theorem ok__law_numbers (Z : Fx K mg) : Ok P w K mg base 2 "_law_numbers" ["script", "spot", "size"] .fr Ph__law_numbers := by
  obtain ⟨fd, F⟩ := Z.f__law_numbers
  exact ok_fr (P := P) (w := w) (mg := mg) (base := base) (b := b__law_numbers) (k := 1) (N := N__law_numbers) F sc__law_numbers bi__law_numbers Z.g__law_numbers (dd__law_numbers Z)
abbrev N__law_words : List Str := ["numbers", "found", "n", "word"]
theorem sc__law_words : FnScope N__law_words ["numbers"] (defScope s__law_words) := ⟨rfl, rfl, rfl, by decide +kernel, rfl, by decide +kernel, by decide +kernel⟩
def L__law_words_1 : Bd := bSeq (bAsg 3 (fB (Ph__law_word) (aCons (fB intD (aCons (vF 2) (aNil))) (aNil)))) (bIf (fT (f2 notInD (vF 3) (vP 1))) (bApp 1 (vF 3)) (bNext))
theorem bi__law_words : ∀ (kV doc pm : Value) (an : Option Addr) (cdv ct : Value) (us : List Value), us.length = (["numbers"] : List Str).length → bindArgs (PySem.W.fnOf "_law_words" "_law_words" (defArgs s__law_words) (defBody s__law_words) (defScope s__law_words) .none kV doc pm an cdv ct) ⟨us, []⟩ = pure ((["numbers"] : List Str).zip us) :=
  fun _ _ _ _ _ _ us hl => match us, hl with | [_], _ => rfl
def b__law_words : Bd := bSeq (bOwn 1 (fLst (aNil))) (bSeq (bFor (fI (vF 0)) (sN 2) (L__law_words_1)) (bRet (fB tupD (aCons (fB sortedD (aCons (vP 1) (aNil))) (aNil)))))
def Ph__law_words : List D → Option D := fnB (N__law_words).length (["numbers"] : List Str).length b__law_words
theorem dd__law_words (Z : Fx K mg) (cdv : Value) (A : Around) (outer : List Env) (s : Shared) (H : Hp) (E : XK) (hr : Room (1) (A.deeper (envOfC "_law_words" (defScope s__law_words) s.heap.objs.size (He.ga K "_law_words") cdv))) :
    ∃ W t, DSs (cxOf CX0 P w K mg base N__law_words "_law_words" (defScope s__law_words) (He.ga K "_law_words") cdv A outer s H E).nox .fz W (defBody s__law_words) t (b__law_words) := ⟨_, _,
  dss_cons (ds_own (i := 1) (de_lst (da_nil)) sc__law_words.nd) (dss_cons (ds_for (di_anyK K (de_v 0)) (dg_n sc__law_words.nd (i := 2)) (dss_cons (ds_asg (i := 3) (de_fnK K (ok__law_word Z) hr (by omega) rfl (da_cons (de_ct call_int1 cs_int rfl Z.n_int bt_int (da_cons (de_v 2) (da_nil))) (da_nil))) sc__law_words.nd) (dss_one (ds_if (dt_cmp (op_notIn_K K hr.u65) ops_notIn rfl (de_v 3) (de_p 1)) (dss_one (ds_app (j := 1) (de_v 3))) (dss_nil))))) (dss_one (ds_ret (de_ct (cr_tupK K) cs_tup rfl Z.n_tuple bt_tuple (da_cons (de_cb (cr_srtK K hr.u70) cs_srt rfl Z.n_sorted bt_sorted (da_cons (de_p 1) (da_nil))) (da_nil))))))⟩
theorem ok__law_words (Z : Fx K mg) : Ok P w K mg base 2 "_law_words" ["numbers"] .fz Ph__law_words := by
  obtain ⟨fd, F⟩ := Z.f__law_words
  exact ok_fz (P := P) (w := w) (mg := mg) (base := base) (b := b__law_words) (k := 1) (N := N__law_words) F sc__law_words bi__law_words Z.g__law_words (dd__law_words Z)
abbrev N__law_gap : List Str := ["one", "other", "rows", "i", "row", "j"]
theorem sc__law_gap : FnScope N__law_gap ["one", "other"] (defScope s__law_gap) := ⟨rfl, rfl, rfl, by decide +kernel, rfl, by decide +kernel, by decide +kernel⟩
def L__law_gap_1 : Bd := bApp 4 (fB min3D (aCons (f2 addD (f2 ixD (f2 ixD (vP 2) (f1 negD (cD (.int 1)))) (f2 addD (vF 5) (cD (.int 1)))) (cD (.int 1))) (aCons (f2 addD (f2 ixD (vP 4) (vF 5)) (cD (.int 1))) (aCons (f2 addD (f2 ixD (f2 ixD (vP 2) (f1 negD (cD (.int 1)))) (vF 5)) (fIf (fT (f2 eqD (f2 ixD (vF 0) (vF 3)) (f2 ixD (vF 1) (vF 5)))) (cD (.int 0)) (cD (.int 1)))) (aNil)))))
def L__law_gap_2 : Bd := bSeq (bOwn 4 (fLst (aCons (f2 addD (vF 3) (cD (.int 1))) (aNil)))) (bSeq (bFor (fIs rg1D (aCons (fB lenD (aCons (vF 1) (aNil))) (aNil))) (sN 5) (L__law_gap_1)) (bAppMv 2 4))
theorem bi__law_gap : ∀ (kV doc pm : Value) (an : Option Addr) (cdv ct : Value) (us : List Value), us.length = (["one", "other"] : List Str).length → bindArgs (PySem.W.fnOf "_law_gap" "_law_gap" (defArgs s__law_gap) (defBody s__law_gap) (defScope s__law_gap) .none kV doc pm an cdv ct) ⟨us, []⟩ = pure ((["one", "other"] : List Str).zip us) :=
  fun _ _ _ _ _ _ us hl => match us, hl with | [_, _], _ => rfl
def b__law_gap : Bd := bSeq (bOwn 2 (fLst (aCons (fLr1 (f2 addD (fB lenD (aCons (vF 1) (aNil))) (cD (.int 1)))) (aNil)))) (bSeq (bFor (fIs rg1D (aCons (fB lenD (aCons (vF 0) (aNil))) (aNil))) (sN 3) (L__law_gap_2)) (bRet (f2 ixD (f2 ixD (vP 2) (f1 negD (cD (.int 1)))) (f1 negD (cD (.int 1))))))
def Ph__law_gap : List D → Option D := fnB (N__law_gap).length (["one", "other"] : List Str).length b__law_gap
theorem dd__law_gap (Z : Fx K mg) (cdv : Value) (A : Around) (outer : List Env) (s : Shared) (H : Hp) (E : XK) (hr : Room (0) (A.deeper (envOfC "_law_gap" (defScope s__law_gap) s.heap.objs.size (He.ga K "_law_gap") cdv))) :
    ∃ W t, DSs (cxOf CX0 P w K mg base N__law_gap "_law_gap" (defScope s__law_gap) (He.ga K "_law_gap") cdv A outer s H E).nox .fz W (defBody s__law_gap) t (b__law_gap) := ⟨_, _,
  dss_cons (ds_own (i := 2) (de_lst (da_cons (DE.frz (de_lr1 rfl Z.n_list rfl Z.n_range (de_op (op_addAK K) ops_addA (de_cb (call_lenK K) cs_len rfl Z.n_len bt_len (da_cons (de_v 1) (da_nil))) (de_int)))) (da_nil))) sc__law_gap.nd) (dss_cons (ds_for (di_rg1 rfl Z.n_range (da_cons (de_cb (call_lenK K) cs_len rfl Z.n_len bt_len (da_cons (de_v 0) (da_nil))) (da_nil))) (dg_n sc__law_gap.nd (i := 3)) (dss_cons (ds_own (i := 4) (de_lst (da_cons (de_op (op_addAK K) ops_addA (de_v 3) (de_int)) (da_nil))) sc__law_gap.nd) (dss_cons (ds_for (di_rg1 rfl Z.n_range (da_cons (de_cb (call_lenK K) cs_len rfl Z.n_len bt_len (da_cons (de_v 1) (da_nil))) (da_nil))) (dg_n sc__law_gap.nd (i := 5)) (dss_one (ds_app (j := 4) (de_cb (cr_min3 rfl) cs_min3 rfl Z.n_min bt_min (da_cons (de_op (op_addAK K) ops_addA (de_ixK K (de_ixK K (de_p 2) (de_neg (de_int))) (de_op (op_addAK K) ops_addA (de_v 5) (de_int))) (de_int)) (da_cons (de_op (op_addAK K) ops_addA (de_ixK K (de_p 4) (de_v 5)) (de_int)) (da_cons (de_op (op_addAK K) ops_addA (de_ixK K (de_ixK K (de_p 2) (de_neg (de_int))) (de_v 5)) (de_if (dt_cmp (op_eqDK K hr.u64) ops_eq rfl (de_ixK K (de_v 0) (de_v 3)) (de_ixK K (de_v 1) (de_v 5))) (de_int) (de_int))) (da_nil)))))))) (dss_one (ds_appMv (j := 2) (i := 4)))))) (dss_one (ds_ret (de_ixK K (de_ixK K (de_p 2) (de_neg (de_int))) (de_neg (de_int))))))⟩
theorem ok__law_gap (Z : Fx K mg) : Ok P w K mg base 1 "_law_gap" ["one", "other"] .fz Ph__law_gap := by
  obtain ⟨fd, F⟩ := Z.f__law_gap
  exact ok_fz (P := P) (w := w) (mg := mg) (base := base) (b := b__law_gap) (k := 0) (N := N__law_gap) F sc__law_gap bi__law_gap Z.g__law_gap (dd__law_gap Z)
abbrev N__law_table : List Str := ["word", "words", "heard", "rows", "k", "row", "one", "sums", "j"]
theorem sc__law_table : FnScope N__law_table ["word", "words", "heard"] (defScope s__law_table) := ⟨rfl, rfl, rfl, by decide +kernel, rfl, by decide +kernel, by decide +kernel⟩
def L__law_table_1 : Bd := bIf (fAndT (fT (f2 notND (f2 ixD (vF 2) (vF 4)) (cD .none))) (fT (f2 neD (f2 ixD (vF 2) (vF 4)) (vF 6)))) (bApp 5 (cD .none)) (bIf (fT (f2 eqD (vF 4) (cD (.int 0)))) (bApp 5 (fB (Ph__law_gap) (aCons (vF 0) (aCons (vF 6) (aNil))))) (bSeq (bAsg 7 (fLc (fIs rg1D (aCons (fB lenD (aCons (vF 1) (aNil))) (aNil))) (sN 8) (fT (f2 notND (f2 ixD (f2 ixD (vP 3) (f1 negD (cD (.int 1)))) (vF 8)) (cD .none))) (f2 addD (f2 ixD (f2 ixD (vP 3) (f1 negD (cD (.int 1)))) (vF 8)) (fB (Ph__law_gap) (aCons (f2 ixD (vF 1) (vF 8)) (aCons (vF 6) (aNil))))) [8])) (bApp 5 (fIf (fT (f2 neD (vF 7) (fLst (aNil)))) (fB minA (aCons (vF 7) (aNil))) (cD .none)))))
def L__law_table_2 : Bd := bSeq (bOwn 5 (fLst (aNil))) (bSeq (bFor (fI (vF 1)) (sN 6) (L__law_table_1)) (bApp 3 (fB tupD (aCons (vP 5) (aNil)))))
theorem bi__law_table : ∀ (kV doc pm : Value) (an : Option Addr) (cdv ct : Value) (us : List Value), us.length = (["word", "words", "heard"] : List Str).length → bindArgs (PySem.W.fnOf "_law_table" "_law_table" (defArgs s__law_table) (defBody s__law_table) (defScope s__law_table) .none kV doc pm an cdv ct) ⟨us, []⟩ = pure ((["word", "words", "heard"] : List Str).zip us) :=
  fun _ _ _ _ _ _ us hl => match us, hl with | [_, _, _], _ => rfl
def b__law_table : Bd := bSeq (bOwn 3 (fLst (aNil))) (bSeq (bFor (fIs rg1D (aCons (fB lenD (aCons (vF 2) (aNil))) (aNil))) (sN 4) (L__law_table_2)) (bRet (fB tupD (aCons (vP 3) (aNil)))))
def Ph__law_table : List D → Option D := fnB (N__law_table).length (["word", "words", "heard"] : List Str).length b__law_table
theorem dd__law_table (Z : Fx K mg) (cdv : Value) (A : Around) (outer : List Env) (s : Shared) (H : Hp) (E : XK) (hr : Room (1) (A.deeper (envOfC "_law_table" (defScope s__law_table) s.heap.objs.size (He.ga K "_law_table") cdv))) :
    ∃ W t, DSs (cxOf CX0 P w K mg base N__law_table "_law_table" (defScope s__law_table) (He.ga K "_law_table") cdv A outer s H E).nox .fz W (defBody s__law_table) t (b__law_table) := ⟨_, _,
  dss_cons (ds_own (i := 3) (de_lst (da_nil)) sc__law_table.nd) (dss_cons (ds_for (di_rg1 rfl Z.n_range (da_cons (de_cb (call_lenK K) cs_len rfl Z.n_len bt_len (da_cons (de_v 2) (da_nil))) (da_nil))) (dg_n sc__law_table.nd (i := 4)) (dss_cons (ds_own (i := 5) (de_lst (da_nil)) sc__law_table.nd) (dss_cons (ds_for (di_anyK K (de_v 1)) (dg_n sc__law_table.nd (i := 6)) (dss_one (ds_if (dt_w (dw_and (dt_cmp L2.op_notN ops_notN rfl (de_ixK K (de_v 2) (de_v 4)) (de_non)) (dw_and1 (dt_cmp (op_neDK K hr.u64) ops_ne rfl (de_ixK K (de_v 2) (de_v 4)) (de_v 6))))) (dss_one (ds_app (j := 5) (de_non))) (dss_one (ds_if (dt_cmp (op_eqDK K hr.u64) ops_eq rfl (de_v 4) (de_int)) (dss_one (ds_app (j := 5) (de_fnK K (ok__law_gap Z) hr (by omega) rfl (da_cons (de_v 0) (da_cons (de_v 6) (da_nil)))))) (dss_cons (ds_asgLc (i := 7) [("j", 8)] sc__law_table.nd (di_rg1 rfl Z.n_range (da_cons (de_cb (call_lenK K) cs_len rfl Z.n_len bt_len (da_cons (de_v 1) (da_nil))) (da_nil))) (blk_of (N := N__law_table) (sc := defScope s__law_table) (by decide +kernel)) (fun _ _ _ _ _ => dg_n sc__law_table.nd (i := 8)) (fun _ _ _ _ _ => dts_one (dt_cmp L2.op_notN ops_notN rfl (de_ixK K (de_ixK K (de_p 3) (de_neg (de_int))) (de_v 8)) (de_non))) (fun _ _ _ _ _ => de_op (op_addAK K) ops_addA (de_ixK K (de_ixK K (de_p 3) (de_neg (de_int))) (de_v 8)) (de_fnK K (ok__law_gap Z) hr (by omega) rfl (da_cons (de_ixK K (de_v 1) (de_v 8)) (da_cons (de_v 6) (da_nil))))) (by decide) (sw_true rfl rfl rfl (by decide +kernel))) (dss_one (ds_app (j := 5) (de_if (dt_cmp (op_neDK K hr.u64) ops_ne rfl (de_v 7) (de_lst (da_nil))) (de_cb (cr_minAK K rfl hr.u70) cs_minA rfl Z.n_min bt_min (da_cons (de_v 7) (da_nil))) (de_non)))))))))) (dss_one (ds_app (j := 3) (de_ct (cr_tupK K) cs_tup rfl Z.n_tuple bt_tuple (da_cons (de_p 5) (da_nil)))))))) (dss_one (ds_ret (de_ct (cr_tupK K) cs_tup rfl Z.n_tuple bt_tuple (da_cons (de_p 3) (da_nil))))))⟩
theorem ok__law_table (Z : Fx K mg) : Ok P w K mg base 2 "_law_table" ["word", "words", "heard"] .fz Ph__law_table := by
  obtain ⟨fd, F⟩ := Z.f__law_table
  exact ok_fz (P := P) (w := w) (mg := mg) (base := base) (b := b__law_table) (k := 1) (N := N__law_table) F sc__law_table bi__law_table Z.g__law_table (dd__law_table Z)
abbrev N__law_fillings : List Str := ["words", "heard", "rows", "one", "longer", "row", "word"]
theorem sc__law_fillings : FnScope N__law_fillings ["words", "heard"] (defScope s__law_fillings) := ⟨rfl, rfl, rfl, by decide +kernel, rfl, by decide +kernel, by decide +kernel⟩
def L__law_fillings_1 : Bd := bAsg 4 (f2 addD (vF 4) (fLc (fI (vF 0)) (sN 6) (fOrT (fT (f2 isND (vF 3) (cD .none))) (fT (f2 eqD (vF 3) (vF 6)))) (f2 addD (vF 5) (fTup (aCons (vF 6) (aNil)))) [6]))
def L__law_fillings_2 : Bd := bSeq (bAsg 4 (fLst (aNil))) (bSeq (bFor (fI (vF 2)) (sN 5) (L__law_fillings_1)) (bAsg 2 (vF 4)))
theorem bi__law_fillings : ∀ (kV doc pm : Value) (an : Option Addr) (cdv ct : Value) (us : List Value), us.length = (["words", "heard"] : List Str).length → bindArgs (PySem.W.fnOf "_law_fillings" "_law_fillings" (defArgs s__law_fillings) (defBody s__law_fillings) (defScope s__law_fillings) .none kV doc pm an cdv ct) ⟨us, []⟩ = pure ((["words", "heard"] : List Str).zip us) :=
  fun _ _ _ _ _ _ us hl => match us, hl with | [_, _], _ => rfl
def b__law_fillings : Bd := bSeq (bAsg 2 (fLst (aCons (fTup (aNil)) (aNil)))) (bSeq (bFor (fI (vF 1)) (sN 3) (L__law_fillings_2)) (bRet (vF 2)))
def Ph__law_fillings : List D → Option D := fnB (N__law_fillings).length (["words", "heard"] : List Str).length b__law_fillings
theorem dd__law_fillings (Z : Fx K mg) (cdv : Value) (A : Around) (outer : List Env) (s : Shared) (H : Hp) (E : XK) (hr : Room (0) (A.deeper (envOfC "_law_fillings" (defScope s__law_fillings) s.heap.objs.size (He.ga K "_law_fillings") cdv))) :
    ∃ W t, DSs (cxOf CX0 P w K mg base N__law_fillings "_law_fillings" (defScope s__law_fillings) (He.ga K "_law_fillings") cdv A outer s H E).nox .fz W (defBody s__law_fillings) t (b__law_fillings) := ⟨_, _,
  dss_cons (ds_asg (i := 2) (DE.frz (de_lst (da_cons (de_tup (da_nil)) (da_nil)))) sc__law_fillings.nd) (dss_cons (ds_for (di_anyK K (de_v 1)) (dg_n sc__law_fillings.nd (i := 3)) (dss_cons (ds_asg (i := 4) (DE.frz (de_lst (da_nil))) sc__law_fillings.nd) (dss_cons (ds_for (di_anyK K (de_v 2)) (dg_n sc__law_fillings.nd (i := 5)) (dss_one (ds_asg (i := 4) (de_op (op_addAK K) ops_addA (de_v 4) (de_lc [("word", 6)] sc__law_fillings.nd (di_anyK K (de_v 0)) (blk_of (N := N__law_fillings) (sc := defScope s__law_fillings) (by decide +kernel)) (fun _ _ _ _ _ => dg_n sc__law_fillings.nd (i := 6)) (fun _ _ _ _ _ => dts_one (dt_w (dw_or (dt_cmp L2.op_isN ops_isN rfl (de_v 3) (de_non)) (dw_or1 (dt_cmp (op_eqDK K hr.u64) ops_eq rfl (de_v 3) (de_v 6)))))) (fun _ _ _ _ _ => de_op (op_addAK K) ops_addA (de_v 5) (de_tup (da_cons (de_v 6) (da_nil)))) (by decide))) sc__law_fillings.nd))) (dss_one (ds_asg (i := 2) (de_v 4) sc__law_fillings.nd))))) (dss_one (ds_ret (de_v 2))))⟩
theorem ok__law_fillings (Z : Fx K mg) : Ok P w K mg base 1 "_law_fillings" ["words", "heard"] .fz Ph__law_fillings := by
  obtain ⟨fd, F⟩ := Z.f__law_fillings
  exact ok_fz (P := P) (w := w) (mg := mg) (base := base) (b := b__law_fillings) (k := 0) (N := N__law_fillings) F sc__law_fillings bi__law_fillings Z.g__law_fillings (dd__law_fillings Z)
abbrev N__law_same : List Str := ["one", "other", "k"]
theorem sc__law_same : FnScope N__law_same ["one", "other"] (defScope s__law_same) := ⟨rfl, rfl, rfl, by decide +kernel, rfl, by decide +kernel, by decide +kernel⟩
theorem bi__law_same : ∀ (kV doc pm : Value) (an : Option Addr) (cdv ct : Value) (us : List Value), us.length = (["one", "other"] : List Str).length → bindArgs (PySem.W.fnOf "_law_same" "_law_same" (defArgs s__law_same) (defBody s__law_same) (defScope s__law_same) .none kV doc pm an cdv ct) ⟨us, []⟩ = pure ((["one", "other"] : List Str).zip us) :=
  fun _ _ _ _ _ _ us hl => match us, hl with | [_, _], _ => rfl
def b__law_same (φ : List D → Option D) : Bd := bSeq (bIf (fAndT (fTr (fIsi "tuple" (vF 0))) (fTr (fIsi "tuple" (vF 1)))) (bRet (fAnd (f2 eqD (fB lenD (aCons (vF 0) (aNil))) (fB lenD (aCons (vF 1) (aNil)))) (f2 eqD (fLc (fIs rg1D (aCons (fB lenD (aCons (vF 0) (aNil))) (aNil))) (sN 2) (fNotT (fTr (fB φ (aCons (f2 ixD (vF 0) (vF 2)) (aCons (f2 ixD (vF 1) (vF 2)) (aNil)))))) (vF 2) [2]) (fLst (aNil))))) (bNext)) (bSeq (bIf (fOrT (fT (f2 isND (vF 0) (cD .none))) (fT (f2 isND (vF 1) (cD .none)))) (bRet (fAnd (f2 isND (vF 0) (cD .none)) (f2 isND (vF 1) (cD .none)))) (bNext)) (bSeq (bIf (fOrT (fTr (fIsi "bool" (vF 0))) (fTr (fIsi "bool" (vF 1)))) (bRet (fAnd (fIsi "bool" (vF 0)) (fAnd (fIsi "bool" (vF 1)) (f2 eqD (vF 0) (vF 1))))) (bNext)) (bRet (fAnd (fIsi2 "int" "str" (vF 0)) (fAnd (f2 eqD (fIsi "int" (vF 0)) (fIsi "int" (vF 1))) (f2 eqD (vF 0) (vF 1)))))))
def Ph__law_same : Nat → List D → Option D
  | 0 => fun _ => none
  | n + 1 => fnB (N__law_same).length (["one", "other"] : List Str).length (b__law_same (Ph__law_same n))
theorem dd__law_same (Z : Fx K mg) {φ : List D → Option D} (n : Nat) (ih : Ok P w K mg base (n + 0) "_law_same" ["one", "other"] .fz φ) (cdv : Value) (A : Around) (outer : List Env) (s : Shared) (H : Hp) (E : XK) (hr : Room (n + 0) (A.deeper (envOfC "_law_same" (defScope s__law_same) s.heap.objs.size (He.ga K "_law_same") cdv))) :
    ∃ W t, DSs (cxOf CX0 P w K mg base N__law_same "_law_same" (defScope s__law_same) (He.ga K "_law_same") cdv A outer s H E).nox .fz W (defBody s__law_same) t (b__law_same φ) := ⟨_, _,
  dss_cons (ds_if (dt_w (dw_and (dt_truK K (de_isiK K rfl rfl Z.n_isinstance bt_isinstance rfl Z.n_tuple bt_tuple (de_v 0))) (dw_and1 (dt_truK K (de_isiK K rfl rfl Z.n_isinstance bt_isinstance rfl Z.n_tuple bt_tuple (de_v 1)))))) (dss_one (ds_ret (de_andK K (de_cmp (op_eqDK K hr.u64) ops_eq rfl (de_cb (call_lenK K) cs_len rfl Z.n_len bt_len (da_cons (de_v 0) (da_nil))) (de_cb (call_lenK K) cs_len rfl Z.n_len bt_len (da_cons (de_v 1) (da_nil)))) (de_one (de_cmp (op_eqDK K hr.u64) ops_eq rfl (de_lc [("k", 2)] sc__law_same.nd (di_rg1 rfl Z.n_range (da_cons (de_cb (call_lenK K) cs_len rfl Z.n_len bt_len (da_cons (de_v 0) (da_nil))) (da_nil))) (blk_of (N := N__law_same) (sc := defScope s__law_same) (by decide +kernel)) (fun _ _ _ _ _ => dg_n sc__law_same.nd (i := 2)) (fun _ _ _ _ _ => dts_one (dt_not (dt_truK K (de_fnK K ih hr (by omega) rfl (da_cons (de_ixK K (de_v 0) (de_v 2)) (da_cons (de_ixK K (de_v 1) (de_v 2)) (da_nil))))))) (fun _ _ _ _ _ => de_v 2) (by decide)) (de_lst (da_nil))))))) (dss_nil)) (dss_cons (ds_if (dt_w (dw_or (dt_cmp L2.op_isN ops_isN rfl (de_v 0) (de_non)) (dw_or1 (dt_cmp L2.op_isN ops_isN rfl (de_v 1) (de_non))))) (dss_one (ds_ret (de_andK K (de_cmp L2.op_isN ops_isN rfl (de_v 0) (de_non)) (de_one (de_cmp L2.op_isN ops_isN rfl (de_v 1) (de_non)))))) (dss_nil)) (dss_cons (ds_if (dt_w (dw_or (dt_truK K (de_isiK K rfl rfl Z.n_isinstance bt_isinstance rfl Z.n_bool bt_bool (de_v 0))) (dw_or1 (dt_truK K (de_isiK K rfl rfl Z.n_isinstance bt_isinstance rfl Z.n_bool bt_bool (de_v 1)))))) (dss_one (ds_ret (de_andK K (de_isiK K rfl rfl Z.n_isinstance bt_isinstance rfl Z.n_bool bt_bool (de_v 0)) (de_andK K (de_isiK K rfl rfl Z.n_isinstance bt_isinstance rfl Z.n_bool bt_bool (de_v 1)) (de_one (de_cmp (op_eqDK K hr.u64) ops_eq rfl (de_v 0) (de_v 1))))))) (dss_nil)) (dss_one (ds_ret (de_andK K (de_isi2K K rfl rfl Z.n_isinstance bt_isinstance rfl Z.n_int bt_int rfl Z.n_str bt_str (de_v 0)) (de_andK K (de_cmp (op_eqDK K hr.u64) ops_eq rfl (de_isiK K rfl rfl Z.n_isinstance bt_isinstance rfl Z.n_int bt_int (de_v 0)) (de_isiK K rfl rfl Z.n_isinstance bt_isinstance rfl Z.n_int bt_int (de_v 1))) (de_one (de_cmp (op_eqDK K hr.u64) ops_eq rfl (de_v 0) (de_v 1)))))))))⟩
theorem ok__law_same (Z : Fx K mg) : ∀ n : Nat, Ok P w K mg base (n + 0) "_law_same" ["one", "other"] .fz (Ph__law_same n)
  | 0 => by obtain ⟨fd, F⟩ := Z.f__law_same; exact ok_zero F bi__law_same Z.g__law_same
  | n + 1 => by
    obtain ⟨fd, F⟩ := Z.f__law_same
    have e : n + 1 + 0 = n + 0 + 1 := by omega
    rw [e]
    exact ok_fz (P := P) (w := w) (mg := mg) (base := base) (b := b__law_same (Ph__law_same n)) (k := n + 0) (N := N__law_same) F sc__law_same bi__law_same Z.g__law_same (dd__law_same Z n (ok__law_same Z n))
abbrev N_need : List Str := ["at", "value"]
theorem sc_need : FnScope N_need ["at", "value"] (defScope s_need) := ⟨rfl, rfl, rfl, by decide +kernel, rfl, by decide +kernel, by decide +kernel⟩
theorem bi_need : ∀ (kV doc pm : Value) (an : Option Addr) (cdv ct : Value) (us : List Value), us.length = (["at", "value"] : List Str).length → bindArgs (PySem.W.fnOf "need" "need" (defArgs s_need) (defBody s_need) (defScope s_need) .none kV doc pm an cdv ct) ⟨us, []⟩ = pure ((["at", "value"] : List Str).zip us) :=
  fun _ _ _ _ _ _ us hl => match us, hl with | [_, _], _ => rfl
def b_need : Bd := bSeq (bIf (fT (f2 isND (vF 1) (cD .none))) (bNever) (bNext)) (bRet (vF 1))
def Ph_need : List D → Option D := fnB (N_need).length (["at", "value"] : List Str).length b_need
theorem dd_need (Z : Fx K mg) (cdv : Value) (A : Around) (outer : List Env) (s : Shared) (H : Hp) (E : XK) (hr : Room (0) (A.deeper (envOfC "need" (defScope s_need) s.heap.objs.size (He.ga K "need") cdv))) :
    ∃ W t, DSs (cxOf CX0 P w K mg base N_need "need" (defScope s_need) (He.ga K "need") cdv A outer s H E).nox .fz W (defBody s_need) t (b_need) := ⟨_, _,
  dss_cons (ds_if (dt_cmp L2.op_isN ops_isN rfl (de_v 1) (de_non)) (dss_one (ds_never)) (dss_nil)) (dss_one (ds_ret (de_v 1)))⟩
theorem ok_need (Z : Fx K mg) : Ok P w K mg base 1 "need" ["at", "value"] .fz Ph_need := by
  obtain ⟨fd, F⟩ := Z.f_need
  exact ok_fz (P := P) (w := w) (mg := mg) (base := base) (b := b_need) (k := 0) (N := N_need) F sc_need bi_need Z.g_need (dd_need Z)
abbrev N_is_int : List Str := ["value"]
theorem sc_is_int : FnScope N_is_int ["value"] (defScope s_is_int) := ⟨rfl, rfl, rfl, by decide +kernel, rfl, by decide +kernel, by decide +kernel⟩
theorem bi_is_int : ∀ (kV doc pm : Value) (an : Option Addr) (cdv ct : Value) (us : List Value), us.length = (["value"] : List Str).length → bindArgs (PySem.W.fnOf "is_int" "is_int" (defArgs s_is_int) (defBody s_is_int) (defScope s_is_int) .none kV doc pm an cdv ct) ⟨us, []⟩ = pure ((["value"] : List Str).zip us) :=
  fun _ _ _ _ _ _ us hl => match us, hl with | [_], _ => rfl
def b_is_int : Bd := bRet (fAnd (fIsi "int" (vF 0)) (fNot (fIsi "bool" (vF 0))))
def Ph_is_int : List D → Option D := fnB (N_is_int).length (["value"] : List Str).length b_is_int
theorem dd_is_int (Z : Fx K mg) (cdv : Value) (A : Around) (outer : List Env) (s : Shared) (H : Hp) (E : XK) (hr : Room (0) (A.deeper (envOfC "is_int" (defScope s_is_int) s.heap.objs.size (He.ga K "is_int") cdv))) :
    ∃ W t, DSs (cxOf CX0 P w K mg base N_is_int "is_int" (defScope s_is_int) (He.ga K "is_int") cdv A outer s H E).nox .fz W (defBody s_is_int) t (b_is_int) := ⟨_, _,
  dss_one (ds_ret (de_andK K (de_isiK K rfl rfl Z.n_isinstance bt_isinstance rfl Z.n_int bt_int (de_v 0)) (de_one (de_notK K (de_isiK K rfl rfl Z.n_isinstance bt_isinstance rfl Z.n_bool bt_bool (de_v 0))))))⟩
theorem ok_is_int (Z : Fx K mg) : Ok P w K mg base 1 "is_int" ["value"] .fz Ph_is_int := by
  obtain ⟨fd, F⟩ := Z.f_is_int
  exact ok_fz (P := P) (w := w) (mg := mg) (base := base) (b := b_is_int) (k := 0) (N := N_is_int) F sc_is_int bi_is_int Z.g_is_int (dd_is_int Z)
abbrev N_is_within : List Str := ["value", "low", "high"]
theorem sc_is_within : FnScope N_is_within ["value", "low", "high"] (defScope s_is_within) := ⟨rfl, rfl, rfl, by decide +kernel, rfl, by decide +kernel, by decide +kernel⟩
theorem bi_is_within : ∀ (kV doc pm : Value) (an : Option Addr) (cdv ct : Value) (us : List Value), us.length = (["value", "low", "high"] : List Str).length → bindArgs (PySem.W.fnOf "is_within" "is_within" (defArgs s_is_within) (defBody s_is_within) (defScope s_is_within) .none kV doc pm an cdv ct) ⟨us, []⟩ = pure ((["value", "low", "high"] : List Str).zip us) :=
  fun _ _ _ _ _ _ us hl => match us, hl with | [_, _, _], _ => rfl
def b_is_within : Bd := bRet (fAnd (fB (Ph_is_int) (aCons (vF 0) (aNil))) (f3 leD leD (vF 1) (vF 0) (vF 2)))
def Ph_is_within : List D → Option D := fnB (N_is_within).length (["value", "low", "high"] : List Str).length b_is_within
theorem dd_is_within (Z : Fx K mg) (cdv : Value) (A : Around) (outer : List Env) (s : Shared) (H : Hp) (E : XK) (hr : Room (1) (A.deeper (envOfC "is_within" (defScope s_is_within) s.heap.objs.size (He.ga K "is_within") cdv))) :
    ∃ W t, DSs (cxOf CX0 P w K mg base N_is_within "is_within" (defScope s_is_within) (He.ga K "is_within") cdv A outer s H E).nox .fz W (defBody s_is_within) t (b_is_within) := ⟨_, _,
  dss_one (ds_ret (de_andK K (de_fnK K (ok_is_int Z) hr (by omega) rfl (da_cons (de_v 0) (da_nil))) (de_one (de_chain (op_le_K K hr.u64) (op_le_K K hr.u64) ops_le ops_le (de_v 1) (de_v 0) (de_v 2)))))⟩
theorem ok_is_within (Z : Fx K mg) : Ok P w K mg base 2 "is_within" ["value", "low", "high"] .fz Ph_is_within := by
  obtain ⟨fd, F⟩ := Z.f_is_within
  exact ok_fz (P := P) (w := w) (mg := mg) (base := base) (b := b_is_within) (k := 1) (N := N_is_within) F sc_is_within bi_is_within Z.g_is_within (dd_is_within Z)
abbrev N_need_within : List Str := ["at", "value", "low", "high"]
theorem sc_need_within : FnScope N_need_within ["at", "value", "low", "high"] (defScope s_need_within) := ⟨rfl, rfl, rfl, by decide +kernel, rfl, by decide +kernel, by decide +kernel⟩
theorem bi_need_within : ∀ (kV doc pm : Value) (an : Option Addr) (cdv ct : Value) (us : List Value), us.length = (["at", "value", "low", "high"] : List Str).length → bindArgs (PySem.W.fnOf "need_within" "need_within" (defArgs s_need_within) (defBody s_need_within) (defScope s_need_within) .none kV doc pm an cdv ct) ⟨us, []⟩ = pure ((["at", "value", "low", "high"] : List Str).zip us) :=
  fun _ _ _ _ _ _ us hl => match us, hl with | [_, _, _, _], _ => rfl
def b_need_within : Bd := bSeq (bIf (fNotT (fTr (fB (Ph_is_within) (aCons (vF 1) (aCons (vF 2) (aCons (vF 3) (aNil))))))) (bNever) (bNext)) (bRet (vF 1))
def Ph_need_within : List D → Option D := fnB (N_need_within).length (["at", "value", "low", "high"] : List Str).length b_need_within
theorem dd_need_within (Z : Fx K mg) (cdv : Value) (A : Around) (outer : List Env) (s : Shared) (H : Hp) (E : XK) (hr : Room (2) (A.deeper (envOfC "need_within" (defScope s_need_within) s.heap.objs.size (He.ga K "need_within") cdv))) :
    ∃ W t, DSs (cxOf CX0 P w K mg base N_need_within "need_within" (defScope s_need_within) (He.ga K "need_within") cdv A outer s H E).nox .fz W (defBody s_need_within) t (b_need_within) := ⟨_, _,
  dss_cons (ds_if (dt_not (dt_truK K (de_fnK K (ok_is_within Z) hr (by omega) rfl (da_cons (de_v 1) (da_cons (de_v 2) (da_cons (de_v 3) (da_nil))))))) (dss_one (ds_never)) (dss_nil)) (dss_one (ds_ret (de_v 1)))⟩
theorem ok_need_within (Z : Fx K mg) : Ok P w K mg base 3 "need_within" ["at", "value", "low", "high"] .fz Ph_need_within := by
  obtain ⟨fd, F⟩ := Z.f_need_within
  exact ok_fz (P := P) (w := w) (mg := mg) (base := base) (b := b_need_within) (k := 2) (N := N_need_within) F sc_need_within bi_need_within Z.g_need_within (dd_need_within Z)
abbrev N_gap_of : List Str := ["word", "other", "row", "at", "letter", "below", "place", "sign", "changed"]
theorem sc_gap_of : FnScope N_gap_of ["word", "other"] (defScope s_gap_of) := ⟨rfl, rfl, rfl, by decide +kernel, rfl, by decide +kernel, by decide +kernel⟩
def L_gap_of_1 : Bd := bSeq (bAsg 8 (fIf (fT (f2 eqD (vF 4) (vF 7))) (f2 ixD (vF 2) (vF 6)) (f2 addD (f2 ixD (vF 2) (vF 6)) (cD (.int 1))))) (bApp 5 (fB min3D (aCons (vF 8) (aCons (f2 addD (f2 ixD (vF 2) (f2 addD (vF 6) (cD (.int 1)))) (cD (.int 1))) (aCons (f2 addD (f2 ixD (vP 5) (vF 6)) (cD (.int 1))) (aNil))))))
def L_gap_of_2 : Bd := bSeq (bOwn 5 (fLst (aCons (f2 addD (vF 3) (cD (.int 1))) (aNil)))) (bSeq (bFor (fEnumS (vF 1)) (sT 2 (sCons (sN 6) (sCons (sN 7) (sNil)))) (L_gap_of_1)) (bMove 2 5))
theorem bi_gap_of : ∀ (kV doc pm : Value) (an : Option Addr) (cdv ct : Value) (us : List Value), us.length = (["word", "other"] : List Str).length → bindArgs (PySem.W.fnOf "gap_of" "gap_of" (defArgs s_gap_of) (defBody s_gap_of) (defScope s_gap_of) .none kV doc pm an cdv ct) ⟨us, []⟩ = pure ((["word", "other"] : List Str).zip us) :=
  fun _ _ _ _ _ _ us hl => match us, hl with | [_, _], _ => rfl
def b_gap_of : Bd := bSeq (bAsg 2 (fLr1 (f2 addD (fB lenD (aCons (vF 1) (aNil))) (cD (.int 1))))) (bSeq (bFor (fEnumS (vF 0)) (sT 2 (sCons (sN 3) (sCons (sN 4) (sNil)))) (L_gap_of_2)) (bRet (f2 ixD (vF 2) (f1 negD (cD (.int 1))))))
def Ph_gap_of : List D → Option D := fnB (N_gap_of).length (["word", "other"] : List Str).length b_gap_of
theorem dd_gap_of (Z : Fx K mg) (cdv : Value) (A : Around) (outer : List Env) (s : Shared) (H : Hp) (E : XK) (hr : Room (0) (A.deeper (envOfC "gap_of" (defScope s_gap_of) s.heap.objs.size (He.ga K "gap_of") cdv))) :
    ∃ W t, DSs (cxOf CX0 P w K mg base N_gap_of "gap_of" (defScope s_gap_of) (He.ga K "gap_of") cdv A outer s H E).nox .fz W (defBody s_gap_of) t (b_gap_of) := ⟨_, _,
  dss_cons (ds_asg (i := 2) (DE.frz (de_lr1 rfl Z.n_list rfl Z.n_range (de_op (op_addAK K) ops_addA (de_cb (call_lenK K) cs_len rfl Z.n_len bt_len (da_cons (de_v 1) (da_nil))) (de_int)))) sc_gap_of.nd) (dss_cons (ds_for (di_enumS rfl Z.n_enumerate (de_v 0)) (dg_tK K (n := 2) (dgs_cons (dg_n sc_gap_of.nd (i := 3)) (dgs_cons (dg_n sc_gap_of.nd (i := 4)) (dgs_nil)))) (dss_cons (ds_own (i := 5) (de_lst (da_cons (de_op (op_addAK K) ops_addA (de_v 3) (de_int)) (da_nil))) sc_gap_of.nd) (dss_cons (ds_for (di_enumS rfl Z.n_enumerate (de_v 1)) (dg_tK K (n := 2) (dgs_cons (dg_n sc_gap_of.nd (i := 6)) (dgs_cons (dg_n sc_gap_of.nd (i := 7)) (dgs_nil)))) (dss_cons (ds_asg (i := 8) (de_if (dt_cmp (op_eqDK K hr.u64) ops_eq rfl (de_v 4) (de_v 7)) (de_ixK K (de_v 2) (de_v 6)) (de_op (op_addAK K) ops_addA (de_ixK K (de_v 2) (de_v 6)) (de_int))) sc_gap_of.nd) (dss_one (ds_app (j := 5) (de_cb (cr_min3 rfl) cs_min3 rfl Z.n_min bt_min (da_cons (de_v 8) (da_cons (de_op (op_addAK K) ops_addA (de_ixK K (de_v 2) (de_op (op_addAK K) ops_addA (de_v 6) (de_int))) (de_int)) (da_cons (de_op (op_addAK K) ops_addA (de_ixK K (de_p 5) (de_v 6)) (de_int)) (da_nil))))))))) (dss_one (ds_move sc_gap_of.nd (i := 2) (j := 5)))))) (dss_one (ds_ret (de_ixK K (de_v 2) (de_neg (de_int))))))⟩
theorem ok_gap_of (Z : Fx K mg) : Ok P w K mg base 1 "gap_of" ["word", "other"] .fz Ph_gap_of := by
  obtain ⟨fd, F⟩ := Z.f_gap_of
  exact ok_fz (P := P) (w := w) (mg := mg) (base := base) (b := b_gap_of) (k := 0) (N := N_gap_of) F sc_gap_of bi_gap_of Z.g_gap_of (dd_gap_of Z)
abbrev N_gaps_of : List Str := ["words", "one", "other"]
theorem sc_gaps_of : FnScope N_gaps_of ["words"] (defScope s_gaps_of) := ⟨rfl, rfl, rfl, by decide +kernel, rfl, by decide +kernel, by decide +kernel⟩
theorem bi_gaps_of : ∀ (kV doc pm : Value) (an : Option Addr) (cdv ct : Value) (us : List Value), us.length = (["words"] : List Str).length → bindArgs (PySem.W.fnOf "gaps_of" "gaps_of" (defArgs s_gaps_of) (defBody s_gaps_of) (defScope s_gaps_of) .none kV doc pm an cdv ct) ⟨us, []⟩ = pure ((["words"] : List Str).zip us) :=
  fun _ _ _ _ _ _ us hl => match us, hl with | [_], _ => rfl
def b_gaps_of : Bd := bRet (fLc (fI (vF 0)) (sN 1) (fYes) (fB tupD (aCons (fLc (fI (vF 0)) (sN 2) (fYes) (fB (Ph_gap_of) (aCons (vF 1) (aCons (vF 2) (aNil)))) [2]) (aNil))) [1])
def Ph_gaps_of : List D → Option D := fnR (N_gaps_of).length (["words"] : List Str).length b_gaps_of
theorem dd_gaps_of (Z : Fx K mg) (cdv : Value) (A : Around) (outer : List Env) (s : Shared) (H : Hp) (E : XK) (hr : Room (1) (A.deeper (envOfC "gaps_of" (defScope s_gaps_of) s.heap.objs.size (He.ga K "gaps_of") cdv))) :
    ∃ W t, DSs (cxOf CX0 P w K mg base N_gaps_of "gaps_of" (defScope s_gaps_of) (He.ga K "gaps_of") cdv A outer s H E).nox .fr W (defBody s_gaps_of) t (b_gaps_of) := ⟨_, _,
  dss_one (ds_ret (de_lc [("one", 1)] sc_gaps_of.nd (di_anyK K (de_v 0)) (blk_of (N := N_gaps_of) (sc := defScope s_gaps_of) (by decide +kernel)) (fun _ _ _ _ _ => dg_n sc_gaps_of.nd (i := 1)) (fun _ _ _ _ _ => dts_nil) (fun _ _ _ _ _ => de_ct (cr_tupK K) cs_tup rfl Z.n_tuple bt_tuple (da_cons (de_lc [("other", 2)] sc_gaps_of.nd (di_anyK K (de_v 0)) (blk_of (by with_unfolding_all rfl)) (fun _ _ _ _ _ => dg_n sc_gaps_of.nd (i := 2)) (fun _ _ _ _ _ => dts_nil) (fun _ _ _ _ _ => de_fnK K (ok_gap_of Z) hr (by omega) rfl (da_cons (de_v 1) (da_cons (de_v 2) (da_nil)))) (by decide)) (da_nil))) (by decide)))⟩
theorem ok_gaps_of (Z : Fx K mg) : Ok P w K mg base 2 "gaps_of" ["words"] .fr Ph_gaps_of := by
  obtain ⟨fd, F⟩ := Z.f_gaps_of
  exact ok_fr (P := P) (w := w) (mg := mg) (base := base) (b := b_gaps_of) (k := 1) (N := N_gaps_of) F sc_gaps_of bi_gaps_of Z.g_gaps_of (dd_gaps_of Z)
abbrev N_is_seq : List Str := ["value"]
theorem sc_is_seq : FnScope N_is_seq ["value"] (defScope s_is_seq) := ⟨rfl, rfl, rfl, by decide +kernel, rfl, by decide +kernel, by decide +kernel⟩
theorem bi_is_seq : ∀ (kV doc pm : Value) (an : Option Addr) (cdv ct : Value) (us : List Value), us.length = (["value"] : List Str).length → bindArgs (PySem.W.fnOf "is_seq" "is_seq" (defArgs s_is_seq) (defBody s_is_seq) (defScope s_is_seq) .none kV doc pm an cdv ct) ⟨us, []⟩ = pure ((["value"] : List Str).zip us) :=
  fun _ _ _ _ _ _ us hl => match us, hl with | [_], _ => rfl
def b_is_seq : Bd := bRet (fIsi2 "list" "tuple" (vF 0))
def Ph_is_seq : List D → Option D := fnB (N_is_seq).length (["value"] : List Str).length b_is_seq
theorem dd_is_seq (Z : Fx K mg) (cdv : Value) (A : Around) (outer : List Env) (s : Shared) (H : Hp) (E : XK) (hr : Room (0) (A.deeper (envOfC "is_seq" (defScope s_is_seq) s.heap.objs.size (He.ga K "is_seq") cdv))) :
    ∃ W t, DSs (cxOf CX0 P w K mg base N_is_seq "is_seq" (defScope s_is_seq) (He.ga K "is_seq") cdv A outer s H E).nox .fz W (defBody s_is_seq) t (b_is_seq) := ⟨_, _,
  dss_one (ds_ret (de_isi2K K rfl rfl Z.n_isinstance bt_isinstance rfl Z.n_list bt_list rfl Z.n_tuple bt_tuple (de_v 0)))⟩
theorem ok_is_seq (Z : Fx K mg) : Ok P w K mg base 1 "is_seq" ["value"] .fz Ph_is_seq := by
  obtain ⟨fd, F⟩ := Z.f_is_seq
  exact ok_fz (P := P) (w := w) (mg := mg) (base := base) (b := b_is_seq) (k := 0) (N := N_is_seq) F sc_is_seq bi_is_seq Z.g_is_seq (dd_is_seq Z)
abbrev N_to_row : List Str := ["value", "least", "most"]
theorem sc_to_row : FnScope N_to_row ["value", "least", "most"] (defScope s_to_row) := ⟨rfl, rfl, rfl, by decide +kernel, rfl, by decide +kernel, by decide +kernel⟩
theorem bi_to_row : ∀ (kV doc pm : Value) (an : Option Addr) (cdv ct : Value) (us : List Value), us.length = (["value", "least", "most"] : List Str).length → bindArgs (PySem.W.fnOf "to_row" "to_row" (defArgs s_to_row) (defBody s_to_row) (defScope s_to_row) .none kV doc pm an cdv ct) ⟨us, []⟩ = pure ((["value", "least", "most"] : List Str).zip us) :=
  fun _ _ _ _ _ _ us hl => match us, hl with | [_, _, _], _ => rfl
def b_to_row : Bd := bSeq (bIf (fOrT (fNotT (fTr (fB (Ph_is_seq) (aCons (vF 0) (aNil))))) (fNotT (fT (f3 leD leD (vF 1) (fB lenD (aCons (vF 0) (aNil))) (vF 2))))) (bRet (cD .none)) (bNext)) (bRet (fB tupD (aCons (vF 0) (aNil))))
def Ph_to_row : List D → Option D := fnB (N_to_row).length (["value", "least", "most"] : List Str).length b_to_row
theorem dd_to_row (Z : Fx K mg) (cdv : Value) (A : Around) (outer : List Env) (s : Shared) (H : Hp) (E : XK) (hr : Room (1) (A.deeper (envOfC "to_row" (defScope s_to_row) s.heap.objs.size (He.ga K "to_row") cdv))) :
    ∃ W t, DSs (cxOf CX0 P w K mg base N_to_row "to_row" (defScope s_to_row) (He.ga K "to_row") cdv A outer s H E).nox .fz W (defBody s_to_row) t (b_to_row) := ⟨_, _,
  dss_cons (ds_if (dt_w (dw_or (dt_not (dt_truK K (de_fnK K (ok_is_seq Z) hr (by omega) rfl (da_cons (de_v 0) (da_nil))))) (dw_or1 (dt_not (dt_chain (op_le_K K hr.u64) (op_le_K K hr.u64) ops_le ops_le (de_v 1) (de_cb (call_lenK K) cs_len rfl Z.n_len bt_len (da_cons (de_v 0) (da_nil))) (de_v 2)))))) (dss_one (ds_ret (de_non))) (dss_nil)) (dss_one (ds_ret (de_ct (cr_tupK K) cs_tup rfl Z.n_tuple bt_tuple (da_cons (de_v 0) (da_nil)))))⟩
theorem ok_to_row (Z : Fx K mg) : Ok P w K mg base 2 "to_row" ["value", "least", "most"] .fz Ph_to_row := by
  obtain ⟨fd, F⟩ := Z.f_to_row
  exact ok_fz (P := P) (w := w) (mg := mg) (base := base) (b := b_to_row) (k := 1) (N := N_to_row) F sc_to_row bi_to_row Z.g_to_row (dd_to_row Z)
abbrev N_is_name : List Str := ["value", "letter"]
theorem sc_is_name : FnScope N_is_name ["value"] (defScope s_is_name) := ⟨rfl, rfl, rfl, by decide +kernel, rfl, by decide +kernel, by decide +kernel⟩
theorem bi_is_name : ∀ (kV doc pm : Value) (an : Option Addr) (cdv ct : Value) (us : List Value), us.length = (["value"] : List Str).length → bindArgs (PySem.W.fnOf "is_name" "is_name" (defArgs s_is_name) (defBody s_is_name) (defScope s_is_name) .none kV doc pm an cdv ct) ⟨us, []⟩ = pure ((["value"] : List Str).zip us) :=
  fun _ _ _ _ _ _ us hl => match us, hl with | [_], _ => rfl
def b_is_name : Bd := bSeq (bIf (fOrT (fNotT (fTr (fIsi "str" (vF 0)))) (fNotT (fT (f3 leD leD (cD (.int 1)) (fB lenD (aCons (vF 0) (aNil))) (cD (.int 8)))))) (bRet (cD (.bool false))) (bNext)) (bRet (fB allD (aCons (fLc (fI (vF 0)) (sN 1) (fYes) (f2 (sgnD id) (vF 1) (cD (.str "abcdefghijklmnopqrstuvwxyz"))) [1]) (aNil))))
def Ph_is_name : List D → Option D := fnB (N_is_name).length (["value"] : List Str).length b_is_name
theorem dd_is_name (Z : Fx K mg) (cdv : Value) (A : Around) (outer : List Env) (s : Shared) (H : Hp) (E : XK) (hr : Room (0) (A.deeper (envOfC "is_name" (defScope s_is_name) s.heap.objs.size (He.ga K "is_name") cdv))) :
    ∃ W t, DSs (cxOf CX0 P w K mg base N_is_name "is_name" (defScope s_is_name) (He.ga K "is_name") cdv A outer s H E).nox .fz W (defBody s_is_name) t (b_is_name) := ⟨_, _,
  dss_cons (ds_if (dt_w (dw_or (dt_not (dt_truK K (de_isiK K rfl rfl Z.n_isinstance bt_isinstance rfl Z.n_str bt_str (de_v 0)))) (dw_or1 (dt_not (dt_chain (op_le_K K hr.u64) (op_le_K K hr.u64) ops_le ops_le (de_int) (de_cb (call_lenK K) cs_len rfl Z.n_len bt_len (da_cons (de_v 0) (da_nil))) (de_int)))))) (dss_one (ds_ret (de_bl))) (dss_nil)) (dss_one (ds_ret (de_cb (cr_allK K rfl) cs_all rfl Z.n_all bt_all (da_cons (de_lc [("letter", 1)] sc_is_name.nd (di_anyK K (de_v 0)) (blk_of (N := N_is_name) (sc := defScope s_is_name) (by decide +kernel)) (fun _ _ _ _ _ => dg_n sc_is_name.nd (i := 1)) (fun _ _ _ _ _ => dts_nil) (fun _ _ _ _ _ => de_cmp op_sgn ops_sgn rfl (de_v 1) (de_globS rfl Z.c_LETTERS)) (by decide)) (da_nil)))))⟩
theorem ok_is_name (Z : Fx K mg) : Ok P w K mg base 1 "is_name" ["value"] .fz Ph_is_name := by
  obtain ⟨fd, F⟩ := Z.f_is_name
  exact ok_fz (P := P) (w := w) (mg := mg) (base := base) (b := b_is_name) (k := 0) (N := N_is_name) F sc_is_name bi_is_name Z.g_is_name (dd_is_name Z)
abbrev N_to_names : List Str := ["value", "least", "most", "row", "member"]
theorem sc_to_names : FnScope N_to_names ["value", "least", "most"] (defScope s_to_names) := ⟨rfl, rfl, rfl, by decide +kernel, rfl, by decide +kernel, by decide +kernel⟩
theorem bi_to_names : ∀ (kV doc pm : Value) (an : Option Addr) (cdv ct : Value) (us : List Value), us.length = (["value", "least", "most"] : List Str).length → bindArgs (PySem.W.fnOf "to_names" "to_names" (defArgs s_to_names) (defBody s_to_names) (defScope s_to_names) .none kV doc pm an cdv ct) ⟨us, []⟩ = pure ((["value", "least", "most"] : List Str).zip us) :=
  fun _ _ _ _ _ _ us hl => match us, hl with | [_, _, _], _ => rfl
def b_to_names : Bd := bSeq (bAsg 3 (fB (Ph_to_row) (aCons (vF 0) (aCons (vF 1) (aCons (vF 2) (aNil)))))) (bSeq (bIf (fOrT (fT (f2 isND (vF 3) (cD .none))) (fNotT (fTr (fB allD (aCons (fLc (fI (vF 3)) (sN 4) (fYes) (fB (Ph_is_name) (aCons (vF 4) (aNil))) [4]) (aNil)))))) (bRet (cD .none)) (bNext)) (bRet (vF 3)))
def Ph_to_names : List D → Option D := fnB (N_to_names).length (["value", "least", "most"] : List Str).length b_to_names
theorem dd_to_names (Z : Fx K mg) (cdv : Value) (A : Around) (outer : List Env) (s : Shared) (H : Hp) (E : XK) (hr : Room (2) (A.deeper (envOfC "to_names" (defScope s_to_names) s.heap.objs.size (He.ga K "to_names") cdv))) :
    ∃ W t, DSs (cxOf CX0 P w K mg base N_to_names "to_names" (defScope s_to_names) (He.ga K "to_names") cdv A outer s H E).nox .fz W (defBody s_to_names) t (b_to_names) := ⟨_, _,
  dss_cons (ds_asg (i := 3) (de_fnK K (ok_to_row Z) hr (by omega) rfl (da_cons (de_v 0) (da_cons (de_v 1) (da_cons (de_v 2) (da_nil))))) sc_to_names.nd) (dss_cons (ds_if (dt_w (dw_or (dt_cmp L2.op_isN ops_isN rfl (de_v 3) (de_non)) (dw_or1 (dt_not (dt_truK K (de_cb (cr_allK K rfl) cs_all rfl Z.n_all bt_all (da_cons (de_lc [("member", 4)] sc_to_names.nd (di_anyK K (de_v 3)) (blk_of (N := N_to_names) (sc := defScope s_to_names) (by decide +kernel)) (fun _ _ _ _ _ => dg_n sc_to_names.nd (i := 4)) (fun _ _ _ _ _ => dts_nil) (fun _ _ _ _ _ => de_fnK K (ok_is_name Z) hr (by omega) rfl (da_cons (de_v 4) (da_nil))) (by decide)) (da_nil)))))))) (dss_one (ds_ret (de_non))) (dss_nil)) (dss_one (ds_ret (de_v 3))))⟩
theorem ok_to_names (Z : Fx K mg) : Ok P w K mg base 3 "to_names" ["value", "least", "most"] .fz Ph_to_names := by
  obtain ⟨fd, F⟩ := Z.f_to_names
  exact ok_fz (P := P) (w := w) (mg := mg) (base := base) (b := b_to_names) (k := 2) (N := N_to_names) F sc_to_names bi_to_names Z.g_to_names (dd_to_names Z)
abbrev N_rank_key : List Str := ["value", "member"]
theorem sc_rank_key : FnScope N_rank_key ["value"] (defScope s_rank_key) := ⟨rfl, rfl, rfl, by decide +kernel, rfl, by decide +kernel, by decide +kernel⟩
theorem bi_rank_key : ∀ (kV doc pm : Value) (an : Option Addr) (cdv ct : Value) (us : List Value), us.length = (["value"] : List Str).length → bindArgs (PySem.W.fnOf "rank_key" "rank_key" (defArgs s_rank_key) (defBody s_rank_key) (defScope s_rank_key) .none kV doc pm an cdv ct) ⟨us, []⟩ = pure ((["value"] : List Str).zip us) :=
  fun _ _ _ _ _ _ us hl => match us, hl with | [_], _ => rfl
def b_rank_key (φ : List D → Option D) : Bd := bSeq (bIf (fT (f2 isND (vF 0) (cD .none))) (bRet (fTup (aCons (cD (.int 0)) (aNil)))) (bNext)) (bSeq (bIf (fTr (fIsi "bool" (vF 0))) (bRet (fTup (aCons (cD (.int 1)) (aCons (fB intD (aCons (vF 0) (aNil))) (aNil))))) (bNext)) (bSeq (bIf (fTr (fIsi "int" (vF 0))) (bRet (fTup (aCons (cD (.int 2)) (aCons (vF 0) (aNil))))) (bNext)) (bSeq (bIf (fTr (fIsi "str" (vF 0))) (bRet (fTup (aCons (cD (.int 3)) (aCons (vF 0) (aNil))))) (bNext)) (bRet (fTupS (aCons (cD (.int 4)) (aStar (fLc (fI (vF 0)) (sN 1) (fYes) (fB φ (aCons (vF 1) (aNil))) [1]) (aNil))))))))
def Ph_rank_key : Nat → List D → Option D
  | 0 => fun _ => none
  | n + 1 => fnB (N_rank_key).length (["value"] : List Str).length (b_rank_key (Ph_rank_key n))
theorem dd_rank_key (Z : Fx K mg) {φ : List D → Option D} (n : Nat) (ih : Ok P w K mg base (n + 0) "rank_key" ["value"] .fz φ) (cdv : Value) (A : Around) (outer : List Env) (s : Shared) (H : Hp) (E : XK) (hr : Room (n + 0) (A.deeper (envOfC "rank_key" (defScope s_rank_key) s.heap.objs.size (He.ga K "rank_key") cdv))) :
    ∃ W t, DSs (cxOf CX0 P w K mg base N_rank_key "rank_key" (defScope s_rank_key) (He.ga K "rank_key") cdv A outer s H E).nox .fz W (defBody s_rank_key) t (b_rank_key φ) := ⟨_, _,
  dss_cons (ds_if (dt_cmp L2.op_isN ops_isN rfl (de_v 0) (de_non)) (dss_one (ds_ret (de_tup (da_cons (de_int) (da_nil))))) (dss_nil)) (dss_cons (ds_if (dt_truK K (de_isiK K rfl rfl Z.n_isinstance bt_isinstance rfl Z.n_bool bt_bool (de_v 0))) (dss_one (ds_ret (de_tup (da_cons (de_int) (da_cons (de_ct call_int1 cs_int rfl Z.n_int bt_int (da_cons (de_v 0) (da_nil))) (da_nil)))))) (dss_nil)) (dss_cons (ds_if (dt_truK K (de_isiK K rfl rfl Z.n_isinstance bt_isinstance rfl Z.n_int bt_int (de_v 0))) (dss_one (ds_ret (de_tup (da_cons (de_int) (da_cons (de_v 0) (da_nil)))))) (dss_nil)) (dss_cons (ds_if (dt_truK K (de_isiK K rfl rfl Z.n_isinstance bt_isinstance rfl Z.n_str bt_str (de_v 0))) (dss_one (ds_ret (de_tup (da_cons (de_int) (da_cons (de_v 0) (da_nil)))))) (dss_nil)) (dss_one (ds_ret (de_tupS (das_cons (de_int) (das_starK K (de_lc [("member", 1)] sc_rank_key.nd (di_anyK K (de_v 0)) (blk_of (N := N_rank_key) (sc := defScope s_rank_key) (by decide +kernel)) (fun _ _ _ _ _ => dg_n sc_rank_key.nd (i := 1)) (fun _ _ _ _ _ => dts_nil) (fun _ _ _ _ _ => de_fnK K ih hr (by omega) rfl (da_cons (de_v 1) (da_nil))) (by decide)) (das_nil)))))))))⟩
theorem ok_rank_key (Z : Fx K mg) : ∀ n : Nat, Ok P w K mg base (n + 0) "rank_key" ["value"] .fz (Ph_rank_key n)
  | 0 => by obtain ⟨fd, F⟩ := Z.f_rank_key; exact ok_zero F bi_rank_key Z.g_rank_key
  | n + 1 => by
    obtain ⟨fd, F⟩ := Z.f_rank_key
    have e : n + 1 + 0 = n + 0 + 1 := by omega
    rw [e]
    exact ok_fz (P := P) (w := w) (mg := mg) (base := base) (b := b_rank_key (Ph_rank_key n)) (k := n + 0) (N := N_rank_key) F sc_rank_key bi_rank_key Z.g_rank_key (dd_rank_key Z n (ok_rank_key Z n))
abbrev N_is_rising : List Str := ["values", "keys", "value", "at"]
theorem sc_is_rising : FnScope N_is_rising ["values"] (defScope s_is_rising) := ⟨rfl, rfl, rfl, by decide +kernel, rfl, by decide +kernel, by decide +kernel⟩
theorem bi_is_rising : ∀ (kV doc pm : Value) (an : Option Addr) (cdv ct : Value) (us : List Value), us.length = (["values"] : List Str).length → bindArgs (PySem.W.fnOf "is_rising" "is_rising" (defArgs s_is_rising) (defBody s_is_rising) (defScope s_is_rising) .none kV doc pm an cdv ct) ⟨us, []⟩ = pure ((["values"] : List Str).zip us) :=
  fun _ _ _ _ _ _ us hl => match us, hl with | [_], _ => rfl
def b_is_rising : Bd := bSeq (bAsg 1 (fLc (fI (vF 0)) (sN 2) (fYes) (fB (Ph_rank_key 4) (aCons (vF 2) (aNil))) [2])) (bRet (fB allD (aCons (fLc (fIs rg1D (aCons (f2 subD (fB lenD (aCons (vF 1) (aNil))) (cD (.int 1))) (aNil))) (sN 3) (fYes) (f2 ltD (f2 ixD (vF 1) (vF 3)) (f2 ixD (vF 1) (f2 addD (vF 3) (cD (.int 1))))) [3]) (aNil))))
def Ph_is_rising : List D → Option D := fnB (N_is_rising).length (["values"] : List Str).length b_is_rising
theorem dd_is_rising (Z : Fx K mg) (cdv : Value) (A : Around) (outer : List Env) (s : Shared) (H : Hp) (E : XK) (hr : Room (4) (A.deeper (envOfC "is_rising" (defScope s_is_rising) s.heap.objs.size (He.ga K "is_rising") cdv))) :
    ∃ W t, DSs (cxOf CX0 P w K mg base N_is_rising "is_rising" (defScope s_is_rising) (He.ga K "is_rising") cdv A outer s H E).nox .fz W (defBody s_is_rising) t (b_is_rising) := ⟨_, _,
  dss_cons (ds_asg (i := 1) (DE.frz (de_lc [("value", 2)] sc_is_rising.nd (di_anyK K (de_v 0)) (blk_of (N := N_is_rising) (sc := defScope s_is_rising) (by decide +kernel)) (fun _ _ _ _ _ => dg_n sc_is_rising.nd (i := 2)) (fun _ _ _ _ _ => dts_nil) (fun _ _ _ _ _ => de_fnK K (ok_rank_key Z 4) hr (by omega) rfl (da_cons (de_v 2) (da_nil))) (by decide))) sc_is_rising.nd) (dss_one (ds_ret (de_cb (cr_allK K rfl) cs_all rfl Z.n_all bt_all (da_cons (de_lc [("at", 3)] sc_is_rising.nd (di_rg1 rfl Z.n_range (da_cons (de_op op_sub ops_sub (de_cb (call_lenK K) cs_len rfl Z.n_len bt_len (da_cons (de_v 1) (da_nil))) (de_int)) (da_nil))) (blk_of (N := N_is_rising) (sc := defScope s_is_rising) (by decide +kernel)) (fun _ _ _ _ _ => dg_n sc_is_rising.nd (i := 3)) (fun _ _ _ _ _ => dts_nil) (fun _ _ _ _ _ => de_cmp (op_lt_K K hr.u64) ops_lt rfl (de_ixK K (de_v 1) (de_v 3)) (de_ixK K (de_v 1) (de_op (op_addAK K) ops_addA (de_v 3) (de_int)))) (by decide)) (da_nil)))))⟩
theorem ok_is_rising (Z : Fx K mg) : Ok P w K mg base 5 "is_rising" ["values"] .fz Ph_is_rising := by
  obtain ⟨fd, F⟩ := Z.f_is_rising
  exact ok_fz (P := P) (w := w) (mg := mg) (base := base) (b := b_is_rising) (k := 4) (N := N_is_rising) F sc_is_rising bi_is_rising Z.g_is_rising (dd_is_rising Z)
abbrev N_to_rising_names : List Str := ["value", "least", "most", "row"]
theorem sc_to_rising_names : FnScope N_to_rising_names ["value", "least", "most"] (defScope s_to_rising_names) := ⟨rfl, rfl, rfl, by decide +kernel, rfl, by decide +kernel, by decide +kernel⟩
theorem bi_to_rising_names : ∀ (kV doc pm : Value) (an : Option Addr) (cdv ct : Value) (us : List Value), us.length = (["value", "least", "most"] : List Str).length → bindArgs (PySem.W.fnOf "to_rising_names" "to_rising_names" (defArgs s_to_rising_names) (defBody s_to_rising_names) (defScope s_to_rising_names) .none kV doc pm an cdv ct) ⟨us, []⟩ = pure ((["value", "least", "most"] : List Str).zip us) :=
  fun _ _ _ _ _ _ us hl => match us, hl with | [_, _, _], _ => rfl
def b_to_rising_names : Bd := bSeq (bAsg 3 (fB (Ph_to_names) (aCons (vF 0) (aCons (vF 1) (aCons (vF 2) (aNil)))))) (bSeq (bIf (fOrT (fT (f2 isND (vF 3) (cD .none))) (fNotT (fTr (fB (Ph_is_rising) (aCons (vF 3) (aNil)))))) (bRet (cD .none)) (bNext)) (bRet (vF 3)))
def Ph_to_rising_names : List D → Option D := fnB (N_to_rising_names).length (["value", "least", "most"] : List Str).length b_to_rising_names
theorem dd_to_rising_names (Z : Fx K mg) (cdv : Value) (A : Around) (outer : List Env) (s : Shared) (H : Hp) (E : XK) (hr : Room (5) (A.deeper (envOfC "to_rising_names" (defScope s_to_rising_names) s.heap.objs.size (He.ga K "to_rising_names") cdv))) :
    ∃ W t, DSs (cxOf CX0 P w K mg base N_to_rising_names "to_rising_names" (defScope s_to_rising_names) (He.ga K "to_rising_names") cdv A outer s H E).nox .fz W (defBody s_to_rising_names) t (b_to_rising_names) := ⟨_, _,
  dss_cons (ds_asg (i := 3) (de_fnK K (ok_to_names Z) hr (by omega) rfl (da_cons (de_v 0) (da_cons (de_v 1) (da_cons (de_v 2) (da_nil))))) sc_to_rising_names.nd) (dss_cons (ds_if (dt_w (dw_or (dt_cmp L2.op_isN ops_isN rfl (de_v 3) (de_non)) (dw_or1 (dt_not (dt_truK K (de_fnK K (ok_is_rising Z) hr (by omega) rfl (da_cons (de_v 3) (da_nil)))))))) (dss_one (ds_ret (de_non))) (dss_nil)) (dss_one (ds_ret (de_v 3))))⟩
theorem ok_to_rising_names (Z : Fx K mg) : Ok P w K mg base 6 "to_rising_names" ["value", "least", "most"] .fz Ph_to_rising_names := by
  obtain ⟨fd, F⟩ := Z.f_to_rising_names
  exact ok_fz (P := P) (w := w) (mg := mg) (base := base) (b := b_to_rising_names) (k := 5) (N := N_to_rising_names) F sc_to_rising_names bi_to_rising_names Z.g_to_rising_names (dd_to_rising_names Z)
abbrev N_to_words : List Str := ["value"]
theorem sc_to_words : FnScope N_to_words ["value"] (defScope s_to_words) := ⟨rfl, rfl, rfl, by decide +kernel, rfl, by decide +kernel, by decide +kernel⟩
theorem bi_to_words : ∀ (kV doc pm : Value) (an : Option Addr) (cdv ct : Value) (us : List Value), us.length = (["value"] : List Str).length → bindArgs (PySem.W.fnOf "to_words" "to_words" (defArgs s_to_words) (defBody s_to_words) (defScope s_to_words) .none kV doc pm an cdv ct) ⟨us, []⟩ = pure ((["value"] : List Str).zip us) :=
  fun _ _ _ _ _ _ us hl => match us, hl with | [_], _ => rfl
def b_to_words : Bd := bRet (fB (Ph_to_rising_names) (aCons (vF 0) (aCons (cD (.int 1)) (aCons (cD (.int 40)) (aNil)))))
def Ph_to_words : List D → Option D := fnB (N_to_words).length (["value"] : List Str).length b_to_words
theorem dd_to_words (Z : Fx K mg) (cdv : Value) (A : Around) (outer : List Env) (s : Shared) (H : Hp) (E : XK) (hr : Room (6) (A.deeper (envOfC "to_words" (defScope s_to_words) s.heap.objs.size (He.ga K "to_words") cdv))) :
    ∃ W t, DSs (cxOf CX0 P w K mg base N_to_words "to_words" (defScope s_to_words) (He.ga K "to_words") cdv A outer s H E).nox .fz W (defBody s_to_words) t (b_to_words) := ⟨_, _,
  dss_one (ds_ret (de_fnK K (ok_to_rising_names Z) hr (by omega) rfl (da_cons (de_v 0) (da_cons (de_int) (da_cons (de_int) (da_nil))))))⟩
theorem ok_to_words (Z : Fx K mg) : Ok P w K mg base 7 "to_words" ["value"] .fz Ph_to_words := by
  obtain ⟨fd, F⟩ := Z.f_to_words
  exact ok_fz (P := P) (w := w) (mg := mg) (base := base) (b := b_to_words) (k := 6) (N := N_to_words) F sc_to_words bi_to_words Z.g_to_words (dd_to_words Z)
abbrev N_to_word : List Str := ["value"]
theorem sc_to_word : FnScope N_to_word ["value"] (defScope s_to_word) := ⟨rfl, rfl, rfl, by decide +kernel, rfl, by decide +kernel, by decide +kernel⟩
theorem bi_to_word : ∀ (kV doc pm : Value) (an : Option Addr) (cdv ct : Value) (us : List Value), us.length = (["value"] : List Str).length → bindArgs (PySem.W.fnOf "to_word" "to_word" (defArgs s_to_word) (defBody s_to_word) (defScope s_to_word) .none kV doc pm an cdv ct) ⟨us, []⟩ = pure ((["value"] : List Str).zip us) :=
  fun _ _ _ _ _ _ us hl => match us, hl with | [_], _ => rfl
def b_to_word : Bd := bRet (fIf (fTr (fB (Ph_is_name) (aCons (vF 0) (aNil)))) (vF 0) (cD .none))
def Ph_to_word : List D → Option D := fnB (N_to_word).length (["value"] : List Str).length b_to_word
theorem dd_to_word (Z : Fx K mg) (cdv : Value) (A : Around) (outer : List Env) (s : Shared) (H : Hp) (E : XK) (hr : Room (1) (A.deeper (envOfC "to_word" (defScope s_to_word) s.heap.objs.size (He.ga K "to_word") cdv))) :
    ∃ W t, DSs (cxOf CX0 P w K mg base N_to_word "to_word" (defScope s_to_word) (He.ga K "to_word") cdv A outer s H E).nox .fz W (defBody s_to_word) t (b_to_word) := ⟨_, _,
  dss_one (ds_ret (de_if (dt_truK K (de_fnK K (ok_is_name Z) hr (by omega) rfl (da_cons (de_v 0) (da_nil)))) (de_v 0) (de_non)))⟩
theorem ok_to_word (Z : Fx K mg) : Ok P w K mg base 2 "to_word" ["value"] .fz Ph_to_word := by
  obtain ⟨fd, F⟩ := Z.f_to_word
  exact ok_fz (P := P) (w := w) (mg := mg) (base := base) (b := b_to_word) (k := 1) (N := N_to_word) F sc_to_word bi_to_word Z.g_to_word (dd_to_word Z)
abbrev N_to_heard : List Str := ["value", "row", "known"]
theorem sc_to_heard : FnScope N_to_heard ["value"] (defScope s_to_heard) := ⟨rfl, rfl, rfl, by decide +kernel, rfl, by decide +kernel, by decide +kernel⟩
theorem bi_to_heard : ∀ (kV doc pm : Value) (an : Option Addr) (cdv ct : Value) (us : List Value), us.length = (["value"] : List Str).length → bindArgs (PySem.W.fnOf "to_heard" "to_heard" (defArgs s_to_heard) (defBody s_to_heard) (defScope s_to_heard) .none kV doc pm an cdv ct) ⟨us, []⟩ = pure ((["value"] : List Str).zip us) :=
  fun _ _ _ _ _ _ us hl => match us, hl with | [_], _ => rfl
def b_to_heard : Bd := bSeq (bAsg 1 (fB (Ph_to_row) (aCons (vF 0) (aCons (cD (.int 1)) (aCons (cD (.int 10)) (aNil)))))) (bSeq (bIf (fOrT (fT (f2 isND (vF 1) (cD .none))) (fNotT (fTr (fB allD (aCons (fLc (fI (vF 1)) (sN 2) (fYes) (fOr (f2 isND (vF 2) (cD .none)) (fB (Ph_is_name) (aCons (vF 2) (aNil)))) [2]) (aNil)))))) (bRet (cD .none)) (bNext)) (bRet (vF 1)))
def Ph_to_heard : List D → Option D := fnB (N_to_heard).length (["value"] : List Str).length b_to_heard
theorem dd_to_heard (Z : Fx K mg) (cdv : Value) (A : Around) (outer : List Env) (s : Shared) (H : Hp) (E : XK) (hr : Room (2) (A.deeper (envOfC "to_heard" (defScope s_to_heard) s.heap.objs.size (He.ga K "to_heard") cdv))) :
    ∃ W t, DSs (cxOf CX0 P w K mg base N_to_heard "to_heard" (defScope s_to_heard) (He.ga K "to_heard") cdv A outer s H E).nox .fz W (defBody s_to_heard) t (b_to_heard) := ⟨_, _,
  dss_cons (ds_asg (i := 1) (de_fnK K (ok_to_row Z) hr (by omega) rfl (da_cons (de_v 0) (da_cons (de_int) (da_cons (de_int) (da_nil))))) sc_to_heard.nd) (dss_cons (ds_if (dt_w (dw_or (dt_cmp L2.op_isN ops_isN rfl (de_v 1) (de_non)) (dw_or1 (dt_not (dt_truK K (de_cb (cr_allK K rfl) cs_all rfl Z.n_all bt_all (da_cons (de_lc [("known", 2)] sc_to_heard.nd (di_anyK K (de_v 1)) (blk_of (N := N_to_heard) (sc := defScope s_to_heard) (by decide +kernel)) (fun _ _ _ _ _ => dg_n sc_to_heard.nd (i := 2)) (fun _ _ _ _ _ => dts_nil) (fun _ _ _ _ _ => de_orK K (de_cmp L2.op_isN ops_isN rfl (de_v 2) (de_non)) (de_one (de_fnK K (ok_is_name Z) hr (by omega) rfl (da_cons (de_v 2) (da_nil))))) (by decide)) (da_nil)))))))) (dss_one (ds_ret (de_non))) (dss_nil)) (dss_one (ds_ret (de_v 1))))⟩
theorem ok_to_heard (Z : Fx K mg) : Ok P w K mg base 3 "to_heard" ["value"] .fz Ph_to_heard := by
  obtain ⟨fd, F⟩ := Z.f_to_heard
  exact ok_fz (P := P) (w := w) (mg := mg) (base := base) (b := b_to_heard) (k := 2) (N := N_to_heard) F sc_to_heard bi_to_heard Z.g_to_heard (dd_to_heard Z)
abbrev N_most_each : List Str := ["words", "word", "heard", "most", "gaps", "row", "rows", "known", "told", "now", "can", "line", "place", "at", "other", "far"]
theorem sc_most_each : FnScope N_most_each ["words", "word", "heard", "most"] (defScope s_most_each) := ⟨rfl, rfl, rfl, by decide +kernel, rfl, by decide +kernel, by decide +kernel⟩
def L_most_each_1 : Bd := bSeq (bAsg 9 (fLc (fEnum (vF 5)) (sT 2 (sCons (sN 12) (sCons (sN 10) (sNil)))) (fYes) (fAnd (vF 10) (f2 inD (vF 7) (fTup (aCons (cD .none) (aCons (f2 ixD (vF 0) (vF 12)) (aNil)))))) [12, 10])) (bSeq (bApp 6 (vF 9)) (bAsg 5 (fLc (fI (vF 4)) (sN 11) (fYes) (fB anyD (aCons (fLc (fEnum (vF 11)) (sT 2 (sCons (sN 13) (sCons (sN 15) (sNil)))) (fYes) (fAnd (f2 ixD (vF 9) (vF 13)) (f2 leD (vF 15) (vF 3))) [13, 15]) (aNil))) [11])))
def L_most_each_2 : Bd := bSeq (bAsg 10 (fLc (fEnum (vF 0)) (sT 2 (sCons (sN 13) (sCons (sN 14) (sNil)))) (fAndT (fTr (f2 ixD (vF 5) (vF 13))) (fT (f2 leD (fB (Ph_gap_of) (aCons (vF 1) (aCons (vF 14) (aNil)))) (vF 3)))) (vF 14) [13, 14])) (bSeq (bIf (fNotT (fTr (vF 10))) (bRet (cD .none)) (bNext)) (bSeq (bAsg 1 (f2 ixD (vF 10) (cD (.int 0)))) (bApp 8 (vF 1))))
theorem bi_most_each : ∀ (kV doc pm : Value) (an : Option Addr) (cdv ct : Value) (us : List Value), us.length = (["words", "word", "heard", "most"] : List Str).length → bindArgs (PySem.W.fnOf "most_each" "most_each" (defArgs s_most_each) (defBody s_most_each) (defScope s_most_each) .none kV doc pm an cdv ct) ⟨us, []⟩ = pure ((["words", "word", "heard", "most"] : List Str).zip us) :=
  fun _ _ _ _ _ _ us hl => match us, hl with | [_, _, _, _], _ => rfl
def b_most_each : Bd := bSeq (bAsg 0 (fB (Ph_need) (aCons (cD (.int 1)) (aCons (fB (Ph_to_words) (aCons (vF 0) (aNil))) (aNil))))) (bSeq (bAsg 1 (fB (Ph_need) (aCons (cD (.int 2)) (aCons (fB (Ph_to_word) (aCons (vF 1) (aNil))) (aNil))))) (bSeq (bAsg 2 (fB (Ph_need) (aCons (cD (.int 3)) (aCons (fB (Ph_to_heard) (aCons (vF 2) (aNil))) (aNil))))) (bSeq (bAsg 3 (fB (Ph_need_within) (aCons (cD (.int 4)) (aCons (vF 3) (aCons (cD (.int 0)) (aCons (cD (.int 8)) (aNil))))))) (bSeq (bAsg 4 (fB (Ph_gaps_of) (aCons (vF 0) (aNil)))) (bSeq (bAsg 5 (f2 repLD (fLst (aCons (cD (.bool true)) (aNil))) (fB lenD (aCons (vF 0) (aNil))))) (bSeq (bOwn 6 (fLst (aNil))) (bSeq (bFor (fRev (vF 2)) (sN 7) (L_most_each_1)) (bSeq (bOwn 8 (fLst (aNil))) (bSeq (bFor (fI (f2 revSD (vP 6) (f1 negD (cD (.int 1))))) (sN 5) (L_most_each_2)) (bRet (fB tupD (aCons (vP 8) (aNil)))))))))))))
def Ph_most_each : List D → Option D := fnB (N_most_each).length (["words", "word", "heard", "most"] : List Str).length b_most_each
theorem dd_most_each (Z : Fx K mg) (cdv : Value) (A : Around) (outer : List Env) (s : Shared) (H : Hp) (E : XK) (hr : Room (7) (A.deeper (envOfC "most_each" (defScope s_most_each) s.heap.objs.size (He.ga K "most_each") cdv))) :
    ∃ W t, DSs (cxOf CX0 P w K mg base N_most_each "most_each" (defScope s_most_each) (He.ga K "most_each") cdv A outer s H E).nox .fz W (defBody s_most_each) t (b_most_each) := ⟨_, _,
  dss_cons (ds_asg (i := 0) (de_fnK K (ok_need Z) hr (by omega) rfl (da_cons (de_int) (da_cons (de_fnK K (ok_to_words Z) hr (by omega) rfl (da_cons (de_v 0) (da_nil))) (da_nil)))) sc_most_each.nd) (dss_cons (ds_asg (i := 1) (de_fnK K (ok_need Z) hr (by omega) rfl (da_cons (de_int) (da_cons (de_fnK K (ok_to_word Z) hr (by omega) rfl (da_cons (de_v 1) (da_nil))) (da_nil)))) sc_most_each.nd) (dss_cons (ds_asg (i := 2) (de_fnK K (ok_need Z) hr (by omega) rfl (da_cons (de_int) (da_cons (de_fnK K (ok_to_heard Z) hr (by omega) rfl (da_cons (de_v 2) (da_nil))) (da_nil)))) sc_most_each.nd) (dss_cons (ds_asg (i := 3) (de_fnK K (ok_need_within Z) hr (by omega) rfl (da_cons (de_int) (da_cons (de_v 3) (da_cons (de_int) (da_cons (de_int) (da_nil)))))) sc_most_each.nd) (dss_cons (ds_asg (i := 4) (DE.frz (de_fnK K (ok_gaps_of Z) hr (by omega) rfl (da_cons (de_v 0) (da_nil)))) sc_most_each.nd) (dss_cons (ds_asg (i := 5) (DE.frz (de_repL (de_lst (da_cons (de_bl) (da_nil))) (de_cb (call_lenK K) cs_len rfl Z.n_len bt_len (da_cons (de_v 0) (da_nil))))) sc_most_each.nd) (dss_cons (ds_own (i := 6) (de_lst (da_nil)) sc_most_each.nd) (dss_cons (ds_for (di_revK K rfl Z.n_reversed (de_v 2)) (dg_n sc_most_each.nd (i := 7)) (dss_cons (ds_asg (i := 9) (DE.frz (de_lc [("place", 12), ("can", 10)] sc_most_each.nd (di_enumK K rfl Z.n_enumerate (de_v 5)) (blk_of (N := N_most_each) (sc := defScope s_most_each) (by decide +kernel)) (fun _ _ _ _ _ => dg_tK K (n := 2) (dgs_cons (dg_n sc_most_each.nd (i := 12)) (dgs_cons (dg_n sc_most_each.nd (i := 10)) (dgs_nil)))) (fun _ _ _ _ _ => dts_nil) (fun _ _ _ _ _ => de_andK K (de_v 10) (de_one (de_cmp (op_in_K K hr.u65) ops_in rfl (de_v 7) (de_tup (da_cons (de_non) (da_cons (de_ixK K (de_v 0) (de_v 12)) (da_nil))))))) (by decide))) sc_most_each.nd) (dss_cons (ds_app (j := 6) (de_v 9)) (dss_one (ds_asg (i := 5) (DE.frz (de_lc [("line", 11)] sc_most_each.nd (di_anyK K (de_v 4)) (blk_of (N := N_most_each) (sc := defScope s_most_each) (by decide +kernel)) (fun _ _ _ _ _ => dg_n sc_most_each.nd (i := 11)) (fun _ _ _ _ _ => dts_nil) (fun _ _ _ _ _ => de_cb (cr_anyK K rfl) cs_any rfl Z.n_any bt_any (da_cons (de_lc [("at", 13), ("far", 15)] sc_most_each.nd (di_enumK K rfl Z.n_enumerate (de_v 11)) (blk_of (by with_unfolding_all rfl)) (fun _ _ _ _ _ => dg_tK K (n := 2) (dgs_cons (dg_n sc_most_each.nd (i := 13)) (dgs_cons (dg_n sc_most_each.nd (i := 15)) (dgs_nil)))) (fun _ _ _ _ _ => dts_nil) (fun _ _ _ _ _ => de_andK K (de_ixK K (de_v 9) (de_v 13)) (de_one (de_cmp (op_le_K K hr.u64) ops_le rfl (de_v 15) (de_v 3)))) (by decide)) (da_nil))) (by decide))) sc_most_each.nd))))) (dss_cons (ds_own (i := 8) (de_lst (da_nil)) sc_most_each.nd) (dss_cons (ds_for (di_anyK K (DE.frz (de_revK K (de_p 6) (de_neg (de_int))))) (dg_n sc_most_each.nd (i := 5)) (dss_cons (ds_asgLc (i := 10) [("at", 13), ("other", 14)] sc_most_each.nd (di_enumK K rfl Z.n_enumerate (de_v 0)) (blk_of (N := N_most_each) (sc := defScope s_most_each) (by decide +kernel)) (fun _ _ _ _ _ => dg_tK K (n := 2) (dgs_cons (dg_n sc_most_each.nd (i := 13)) (dgs_cons (dg_n sc_most_each.nd (i := 14)) (dgs_nil)))) (fun _ _ _ _ _ => dts_one (dt_w (dw_and (dt_truK K (de_ixK K (de_v 5) (de_v 13))) (dw_and1 (dt_cmp (op_le_K K hr.u64) ops_le rfl (de_fnK K (ok_gap_of Z) hr (by omega) rfl (da_cons (de_v 1) (da_cons (de_v 14) (da_nil)))) (de_v 3)))))) (fun _ _ _ _ _ => de_v 14) (by decide) (sw_true rfl rfl rfl (by decide +kernel))) (dss_cons (ds_if (dt_not (dt_truK K (de_v 10))) (dss_one (ds_ret (de_non))) (dss_nil)) (dss_cons (ds_asg (i := 1) (de_ixK K (de_v 10) (de_int)) sc_most_each.nd) (dss_one (ds_app (j := 8) (de_v 1))))))) (dss_one (ds_ret (de_ct (cr_tupK K) cs_tup rfl Z.n_tuple bt_tuple (da_cons (de_p 8) (da_nil))))))))))))))⟩
theorem ok_most_each (Z : Fx K mg) : Ok P w K mg base 8 "most_each" ["words", "word", "heard", "most"] .fz Ph_most_each := by
  obtain ⟨fd, F⟩ := Z.f_most_each
  exact ok_fz (P := P) (w := w) (mg := mg) (base := base) (b := b_most_each) (k := 7) (N := N_most_each) F sc_most_each bi_most_each Z.g_most_each (dd_most_each Z)
abbrev N_gap : List Str := ["word", "other"]
theorem sc_gap : FnScope N_gap ["word", "other"] (defScope s_gap) := ⟨rfl, rfl, rfl, by decide +kernel, rfl, by decide +kernel, by decide +kernel⟩
theorem bi_gap : ∀ (kV doc pm : Value) (an : Option Addr) (cdv ct : Value) (us : List Value), us.length = (["word", "other"] : List Str).length → bindArgs (PySem.W.fnOf "gap" "gap" (defArgs s_gap) (defBody s_gap) (defScope s_gap) .none kV doc pm an cdv ct) ⟨us, []⟩ = pure ((["word", "other"] : List Str).zip us) :=
  fun _ _ _ _ _ _ us hl => match us, hl with | [_, _], _ => rfl
def b_gap : Bd := bSeq (bAsg 0 (fB (Ph_need) (aCons (cD (.int 1)) (aCons (fB (Ph_to_word) (aCons (vF 0) (aNil))) (aNil))))) (bSeq (bAsg 1 (fB (Ph_need) (aCons (cD (.int 2)) (aCons (fB (Ph_to_word) (aCons (vF 1) (aNil))) (aNil))))) (bRet (fB (Ph_gap_of) (aCons (vF 0) (aCons (vF 1) (aNil))))))
def Ph_gap : List D → Option D := fnB (N_gap).length (["word", "other"] : List Str).length b_gap
theorem dd_gap (Z : Fx K mg) (cdv : Value) (A : Around) (outer : List Env) (s : Shared) (H : Hp) (E : XK) (hr : Room (2) (A.deeper (envOfC "gap" (defScope s_gap) s.heap.objs.size (He.ga K "gap") cdv))) :
    ∃ W t, DSs (cxOf CX0 P w K mg base N_gap "gap" (defScope s_gap) (He.ga K "gap") cdv A outer s H E).nox .fz W (defBody s_gap) t (b_gap) := ⟨_, _,
  dss_cons (ds_asg (i := 0) (de_fnK K (ok_need Z) hr (by omega) rfl (da_cons (de_int) (da_cons (de_fnK K (ok_to_word Z) hr (by omega) rfl (da_cons (de_v 0) (da_nil))) (da_nil)))) sc_gap.nd) (dss_cons (ds_asg (i := 1) (de_fnK K (ok_need Z) hr (by omega) rfl (da_cons (de_int) (da_cons (de_fnK K (ok_to_word Z) hr (by omega) rfl (da_cons (de_v 1) (da_nil))) (da_nil)))) sc_gap.nd) (dss_one (ds_ret (de_fnK K (ok_gap_of Z) hr (by omega) rfl (da_cons (de_v 0) (da_cons (de_v 1) (da_nil)))))))⟩
theorem ok_gap (Z : Fx K mg) : Ok P w K mg base 3 "gap" ["word", "other"] .fz Ph_gap := by
  obtain ⟨fd, F⟩ := Z.f_gap
  exact ok_fz (P := P) (w := w) (mg := mg) (base := base) (b := b_gap) (k := 2) (N := N_gap) F sc_gap bi_gap Z.g_gap (dd_gap Z)
abbrev N_both_of : List Str := ["word", "heard"]
theorem sc_both_of : FnScope N_both_of ["word", "heard"] (defScope s_both_of) := ⟨rfl, rfl, rfl, by decide +kernel, rfl, by decide +kernel, by decide +kernel⟩
theorem bi_both_of : ∀ (kV doc pm : Value) (an : Option Addr) (cdv ct : Value) (us : List Value), us.length = (["word", "heard"] : List Str).length → bindArgs (PySem.W.fnOf "both_of" "both_of" (defArgs s_both_of) (defBody s_both_of) (defScope s_both_of) .none kV doc pm an cdv ct) ⟨us, []⟩ = pure ((["word", "heard"] : List Str).zip us) :=
  fun _ _ _ _ _ _ us hl => match us, hl with | [_, _], _ => rfl
def b_both_of : Bd := bSeq (bAsg 0 (fB (Ph_need) (aCons (cD (.int 1)) (aCons (fB (Ph_to_word) (aCons (vF 0) (aNil))) (aNil))))) (bSeq (bAsg 1 (fB (Ph_need) (aCons (cD (.int 2)) (aCons (fB (Ph_to_heard) (aCons (vF 1) (aNil))) (aNil))))) (bRet (fTup (aCons (vF 0) (aCons (vF 1) (aNil))))))
def Ph_both_of : List D → Option D := fnB (N_both_of).length (["word", "heard"] : List Str).length b_both_of
theorem dd_both_of (Z : Fx K mg) (cdv : Value) (A : Around) (outer : List Env) (s : Shared) (H : Hp) (E : XK) (hr : Room (3) (A.deeper (envOfC "both_of" (defScope s_both_of) s.heap.objs.size (He.ga K "both_of") cdv))) :
    ∃ W t, DSs (cxOf CX0 P w K mg base N_both_of "both_of" (defScope s_both_of) (He.ga K "both_of") cdv A outer s H E).nox .fz W (defBody s_both_of) t (b_both_of) := ⟨_, _,
  dss_cons (ds_asg (i := 0) (de_fnK K (ok_need Z) hr (by omega) rfl (da_cons (de_int) (da_cons (de_fnK K (ok_to_word Z) hr (by omega) rfl (da_cons (de_v 0) (da_nil))) (da_nil)))) sc_both_of.nd) (dss_cons (ds_asg (i := 1) (de_fnK K (ok_need Z) hr (by omega) rfl (da_cons (de_int) (da_cons (de_fnK K (ok_to_heard Z) hr (by omega) rfl (da_cons (de_v 1) (da_nil))) (da_nil)))) sc_both_of.nd) (dss_one (ds_ret (de_tup (da_cons (de_v 0) (da_cons (de_v 1) (da_nil)))))))⟩
theorem ok_both_of (Z : Fx K mg) : Ok P w K mg base 4 "both_of" ["word", "heard"] .fz Ph_both_of := by
  obtain ⟨fd, F⟩ := Z.f_both_of
  exact ok_fz (P := P) (w := w) (mg := mg) (base := base) (b := b_both_of) (k := 3) (N := N_both_of) F sc_both_of bi_both_of Z.g_both_of (dd_both_of Z)
abbrev N_floor_of : List Str := ["word", "heard", "told", "known"]
theorem sc_floor_of : FnScope N_floor_of ["word", "heard"] (defScope s_floor_of) := ⟨rfl, rfl, rfl, by decide +kernel, rfl, by decide +kernel, by decide +kernel⟩
def L_floor_of_1 : Bd := bIf (fT (f2 notND (vF 3) (cD .none))) (bSeq (bApp 2 (fB (Ph_gap_of) (aCons (vF 0) (aCons (vF 3) (aNil))))) (bAsg 0 (vF 3))) (bNext)
theorem bi_floor_of : ∀ (kV doc pm : Value) (an : Option Addr) (cdv ct : Value) (us : List Value), us.length = (["word", "heard"] : List Str).length → bindArgs (PySem.W.fnOf "floor_of" "floor_of" (defArgs s_floor_of) (defBody s_floor_of) (defScope s_floor_of) .none kV doc pm an cdv ct) ⟨us, []⟩ = pure ((["word", "heard"] : List Str).zip us) :=
  fun _ _ _ _ _ _ us hl => match us, hl with | [_, _], _ => rfl
def b_floor_of : Bd := bSeq (bOwn 2 (fLst (aNil))) (bSeq (bFor (fI (vF 1)) (sN 3) (L_floor_of_1)) (bRet (fB tupD (aCons (vP 2) (aNil)))))
def Ph_floor_of : List D → Option D := fnB (N_floor_of).length (["word", "heard"] : List Str).length b_floor_of
theorem dd_floor_of (Z : Fx K mg) (cdv : Value) (A : Around) (outer : List Env) (s : Shared) (H : Hp) (E : XK) (hr : Room (1) (A.deeper (envOfC "floor_of" (defScope s_floor_of) s.heap.objs.size (He.ga K "floor_of") cdv))) :
    ∃ W t, DSs (cxOf CX0 P w K mg base N_floor_of "floor_of" (defScope s_floor_of) (He.ga K "floor_of") cdv A outer s H E).nox .fz W (defBody s_floor_of) t (b_floor_of) := ⟨_, _,
  dss_cons (ds_own (i := 2) (de_lst (da_nil)) sc_floor_of.nd) (dss_cons (ds_for (di_anyK K (de_v 1)) (dg_n sc_floor_of.nd (i := 3)) (dss_one (ds_if (dt_cmp L2.op_notN ops_notN rfl (de_v 3) (de_non)) (dss_cons (ds_app (j := 2) (de_fnK K (ok_gap_of Z) hr (by omega) rfl (da_cons (de_v 0) (da_cons (de_v 3) (da_nil))))) (dss_one (ds_asg (i := 0) (de_v 3) sc_floor_of.nd))) (dss_nil)))) (dss_one (ds_ret (de_ct (cr_tupK K) cs_tup rfl Z.n_tuple bt_tuple (da_cons (de_p 2) (da_nil))))))⟩
theorem ok_floor_of (Z : Fx K mg) : Ok P w K mg base 2 "floor_of" ["word", "heard"] .fz Ph_floor_of := by
  obtain ⟨fd, F⟩ := Z.f_floor_of
  exact ok_fz (P := P) (w := w) (mg := mg) (base := base) (b := b_floor_of) (k := 1) (N := N_floor_of) F sc_floor_of bi_floor_of Z.g_floor_of (dd_floor_of Z)
abbrev N_least : List Str := ["word", "heard"]
theorem sc_least : FnScope N_least ["word", "heard"] (defScope s_least) := ⟨rfl, rfl, rfl, by decide +kernel, rfl, by decide +kernel, by decide +kernel⟩
theorem bi_least : ∀ (kV doc pm : Value) (an : Option Addr) (cdv ct : Value) (us : List Value), us.length = (["word", "heard"] : List Str).length → bindArgs (PySem.W.fnOf "least" "least" (defArgs s_least) (defBody s_least) (defScope s_least) .none kV doc pm an cdv ct) ⟨us, []⟩ = pure ((["word", "heard"] : List Str).zip us) :=
  fun _ _ _ _ _ _ us hl => match us, hl with | [_, _], _ => rfl
def b_least : Bd := bSeq (bAsgG (fB (Ph_both_of) (aCons (vF 0) (aCons (vF 1) (aNil)))) (sT 2 (sCons (sN 0) (sCons (sN 1) (sNil))))) (bRet (fB sumD (aCons (fB (Ph_floor_of) (aCons (vF 0) (aCons (vF 1) (aNil)))) (aNil))))
def Ph_least : List D → Option D := fnB (N_least).length (["word", "heard"] : List Str).length b_least
theorem dd_least (Z : Fx K mg) (cdv : Value) (A : Around) (outer : List Env) (s : Shared) (H : Hp) (E : XK) (hr : Room (4) (A.deeper (envOfC "least" (defScope s_least) s.heap.objs.size (He.ga K "least") cdv))) :
    ∃ W t, DSs (cxOf CX0 P w K mg base N_least "least" (defScope s_least) (He.ga K "least") cdv A outer s H E).nox .fz W (defBody s_least) t (b_least) := ⟨_, _,
  dss_cons (ds_asgG (de_fnK K (ok_both_of Z) hr (by omega) rfl (da_cons (de_v 0) (da_cons (de_v 1) (da_nil)))) (dg_tK K (n := 2) (dgs_cons (dg_n sc_least.nd (i := 0)) (dgs_cons (dg_n sc_least.nd (i := 1)) (dgs_nil))))) (dss_one (ds_ret (de_cb (cr_sumAK K rfl) cs_sum rfl Z.n_sum bt_sum (da_cons (de_fnK K (ok_floor_of Z) hr (by omega) rfl (da_cons (de_v 0) (da_cons (de_v 1) (da_nil)))) (da_nil)))))⟩
theorem ok_least (Z : Fx K mg) : Ok P w K mg base 5 "least" ["word", "heard"] .fz Ph_least := by
  obtain ⟨fd, F⟩ := Z.f_least
  exact ok_fz (P := P) (w := w) (mg := mg) (base := base) (b := b_least) (k := 4) (N := N_least) F sc_least bi_least Z.g_least (dd_least Z)
abbrev N_gaps_along : List Str := ["word", "row", "at", "other"]
theorem sc_gaps_along : FnScope N_gaps_along ["word", "row"] (defScope s_gaps_along) := ⟨rfl, rfl, rfl, by decide +kernel, rfl, by decide +kernel, by decide +kernel⟩
theorem bi_gaps_along : ∀ (kV doc pm : Value) (an : Option Addr) (cdv ct : Value) (us : List Value), us.length = (["word", "row"] : List Str).length → bindArgs (PySem.W.fnOf "gaps_along" "gaps_along" (defArgs s_gaps_along) (defBody s_gaps_along) (defScope s_gaps_along) .none kV doc pm an cdv ct) ⟨us, []⟩ = pure ((["word", "row"] : List Str).zip us) :=
  fun _ _ _ _ _ _ us hl => match us, hl with | [_, _], _ => rfl
def b_gaps_along : Bd := bRet (fB tupD (aCons (fLc (fEnum (vF 1)) (sT 2 (sCons (sN 2) (sCons (sN 3) (sNil)))) (fYes) (fB (Ph_gap_of) (aCons (fIf (fT (f2 gtD (vF 2) (cD (.int 0)))) (f2 ixD (vF 1) (f2 subD (vF 2) (cD (.int 1)))) (vF 0)) (aCons (vF 3) (aNil)))) [2, 3]) (aNil)))
def Ph_gaps_along : List D → Option D := fnB (N_gaps_along).length (["word", "row"] : List Str).length b_gaps_along
theorem dd_gaps_along (Z : Fx K mg) (cdv : Value) (A : Around) (outer : List Env) (s : Shared) (H : Hp) (E : XK) (hr : Room (1) (A.deeper (envOfC "gaps_along" (defScope s_gaps_along) s.heap.objs.size (He.ga K "gaps_along") cdv))) :
    ∃ W t, DSs (cxOf CX0 P w K mg base N_gaps_along "gaps_along" (defScope s_gaps_along) (He.ga K "gaps_along") cdv A outer s H E).nox .fz W (defBody s_gaps_along) t (b_gaps_along) := ⟨_, _,
  dss_one (ds_ret (de_ct (cr_tupK K) cs_tup rfl Z.n_tuple bt_tuple (da_cons (de_lc [("at", 2), ("other", 3)] sc_gaps_along.nd (di_enumK K rfl Z.n_enumerate (de_v 1)) (blk_of (N := N_gaps_along) (sc := defScope s_gaps_along) (by decide +kernel)) (fun _ _ _ _ _ => dg_tK K (n := 2) (dgs_cons (dg_n sc_gaps_along.nd (i := 2)) (dgs_cons (dg_n sc_gaps_along.nd (i := 3)) (dgs_nil)))) (fun _ _ _ _ _ => dts_nil) (fun _ _ _ _ _ => de_fnK K (ok_gap_of Z) hr (by omega) rfl (da_cons (de_if (dt_cmp (op_gt_K K hr.u64) ops_gt rfl (de_v 2) (de_int)) (de_ixK K (de_v 1) (de_op op_sub ops_sub (de_v 2) (de_int))) (de_v 0)) (da_cons (de_v 3) (da_nil)))) (by decide)) (da_nil))))⟩
theorem ok_gaps_along (Z : Fx K mg) : Ok P w K mg base 2 "gaps_along" ["word", "row"] .fz Ph_gaps_along := by
  obtain ⟨fd, F⟩ := Z.f_gaps_along
  exact ok_fz (P := P) (w := w) (mg := mg) (base := base) (b := b_gaps_along) (k := 1) (N := N_gaps_along) F sc_gaps_along bi_gaps_along Z.g_gaps_along (dd_gaps_along Z)
abbrev N_slips_of : List Str := ["word", "filling"]
theorem sc_slips_of : FnScope N_slips_of ["word", "filling"] (defScope s_slips_of) := ⟨rfl, rfl, rfl, by decide +kernel, rfl, by decide +kernel, by decide +kernel⟩
theorem bi_slips_of : ∀ (kV doc pm : Value) (an : Option Addr) (cdv ct : Value) (us : List Value), us.length = (["word", "filling"] : List Str).length → bindArgs (PySem.W.fnOf "slips_of" "slips_of" (defArgs s_slips_of) (defBody s_slips_of) (defScope s_slips_of) .none kV doc pm an cdv ct) ⟨us, []⟩ = pure ((["word", "filling"] : List Str).zip us) :=
  fun _ _ _ _ _ _ us hl => match us, hl with | [_, _], _ => rfl
def b_slips_of : Bd := bSeq (bAsg 0 (fB (Ph_need) (aCons (cD (.int 1)) (aCons (fB (Ph_to_word) (aCons (vF 0) (aNil))) (aNil))))) (bSeq (bAsg 1 (fB (Ph_need) (aCons (cD (.int 2)) (aCons (fB (Ph_to_names) (aCons (vF 1) (aCons (cD (.int 1)) (aCons (cD (.int 10)) (aNil))))) (aNil))))) (bRet (fB (Ph_gaps_along) (aCons (vF 0) (aCons (vF 1) (aNil))))))
def Ph_slips_of : List D → Option D := fnB (N_slips_of).length (["word", "filling"] : List Str).length b_slips_of
theorem dd_slips_of (Z : Fx K mg) (cdv : Value) (A : Around) (outer : List Env) (s : Shared) (H : Hp) (E : XK) (hr : Room (3) (A.deeper (envOfC "slips_of" (defScope s_slips_of) s.heap.objs.size (He.ga K "slips_of") cdv))) :
    ∃ W t, DSs (cxOf CX0 P w K mg base N_slips_of "slips_of" (defScope s_slips_of) (He.ga K "slips_of") cdv A outer s H E).nox .fz W (defBody s_slips_of) t (b_slips_of) := ⟨_, _,
  dss_cons (ds_asg (i := 0) (de_fnK K (ok_need Z) hr (by omega) rfl (da_cons (de_int) (da_cons (de_fnK K (ok_to_word Z) hr (by omega) rfl (da_cons (de_v 0) (da_nil))) (da_nil)))) sc_slips_of.nd) (dss_cons (ds_asg (i := 1) (de_fnK K (ok_need Z) hr (by omega) rfl (da_cons (de_int) (da_cons (de_fnK K (ok_to_names Z) hr (by omega) rfl (da_cons (de_v 1) (da_cons (de_int) (da_cons (de_int) (da_nil))))) (da_nil)))) sc_slips_of.nd) (dss_one (ds_ret (de_fnK K (ok_gaps_along Z) hr (by omega) rfl (da_cons (de_v 0) (da_cons (de_v 1) (da_nil)))))))⟩
theorem ok_slips_of (Z : Fx K mg) : Ok P w K mg base 4 "slips_of" ["word", "filling"] .fz Ph_slips_of := by
  obtain ⟨fd, F⟩ := Z.f_slips_of
  exact ok_fz (P := P) (w := w) (mg := mg) (base := base) (b := b_slips_of) (k := 3) (N := N_slips_of) F sc_slips_of bi_slips_of Z.g_slips_of (dd_slips_of Z)
abbrev N_three_of : List Str := ["word", "words", "heard"]
theorem sc_three_of : FnScope N_three_of ["word", "words", "heard"] (defScope s_three_of) := ⟨rfl, rfl, rfl, by decide +kernel, rfl, by decide +kernel, by decide +kernel⟩
theorem bi_three_of : ∀ (kV doc pm : Value) (an : Option Addr) (cdv ct : Value) (us : List Value), us.length = (["word", "words", "heard"] : List Str).length → bindArgs (PySem.W.fnOf "three_of" "three_of" (defArgs s_three_of) (defBody s_three_of) (defScope s_three_of) .none kV doc pm an cdv ct) ⟨us, []⟩ = pure ((["word", "words", "heard"] : List Str).zip us) :=
  fun _ _ _ _ _ _ us hl => match us, hl with | [_, _, _], _ => rfl
def b_three_of : Bd := bSeq (bAsg 0 (fB (Ph_need) (aCons (cD (.int 1)) (aCons (fB (Ph_to_word) (aCons (vF 0) (aNil))) (aNil))))) (bSeq (bAsg 1 (fB (Ph_need) (aCons (cD (.int 2)) (aCons (fB (Ph_to_words) (aCons (vF 1) (aNil))) (aNil))))) (bSeq (bAsg 2 (fB (Ph_need) (aCons (cD (.int 3)) (aCons (fB (Ph_to_heard) (aCons (vF 2) (aNil))) (aNil))))) (bRet (fTup (aCons (vF 0) (aCons (vF 1) (aCons (vF 2) (aNil))))))))
def Ph_three_of : List D → Option D := fnB (N_three_of).length (["word", "words", "heard"] : List Str).length b_three_of
theorem dd_three_of (Z : Fx K mg) (cdv : Value) (A : Around) (outer : List Env) (s : Shared) (H : Hp) (E : XK) (hr : Room (7) (A.deeper (envOfC "three_of" (defScope s_three_of) s.heap.objs.size (He.ga K "three_of") cdv))) :
    ∃ W t, DSs (cxOf CX0 P w K mg base N_three_of "three_of" (defScope s_three_of) (He.ga K "three_of") cdv A outer s H E).nox .fz W (defBody s_three_of) t (b_three_of) := ⟨_, _,
  dss_cons (ds_asg (i := 0) (de_fnK K (ok_need Z) hr (by omega) rfl (da_cons (de_int) (da_cons (de_fnK K (ok_to_word Z) hr (by omega) rfl (da_cons (de_v 0) (da_nil))) (da_nil)))) sc_three_of.nd) (dss_cons (ds_asg (i := 1) (de_fnK K (ok_need Z) hr (by omega) rfl (da_cons (de_int) (da_cons (de_fnK K (ok_to_words Z) hr (by omega) rfl (da_cons (de_v 1) (da_nil))) (da_nil)))) sc_three_of.nd) (dss_cons (ds_asg (i := 2) (de_fnK K (ok_need Z) hr (by omega) rfl (da_cons (de_int) (da_cons (de_fnK K (ok_to_heard Z) hr (by omega) rfl (da_cons (de_v 2) (da_nil))) (da_nil)))) sc_three_of.nd) (dss_one (ds_ret (de_tup (da_cons (de_v 0) (da_cons (de_v 1) (da_cons (de_v 2) (da_nil)))))))))⟩
theorem ok_three_of (Z : Fx K mg) : Ok P w K mg base 8 "three_of" ["word", "words", "heard"] .fz Ph_three_of := by
  obtain ⟨fd, F⟩ := Z.f_three_of
  exact ok_fz (P := P) (w := w) (mg := mg) (base := base) (b := b_three_of) (k := 7) (N := N_three_of) F sc_three_of bi_three_of Z.g_three_of (dd_three_of Z)
abbrev N_is_told : List Str := ["value", "told", "at", "member"]
theorem sc_is_told : FnScope N_is_told ["value", "told"] (defScope s_is_told) := ⟨rfl, rfl, rfl, by decide +kernel, rfl, by decide +kernel, by decide +kernel⟩
def L_is_told_1 (φ : List D → Option D) : Bd := bIf (fNotT (fTr (fB φ (aCons (f2 ixD (vF 0) (vF 2)) (aCons (vF 3) (aNil)))))) (bRet (cD (.bool false))) (bNext)
theorem bi_is_told : ∀ (kV doc pm : Value) (an : Option Addr) (cdv ct : Value) (us : List Value), us.length = (["value", "told"] : List Str).length → bindArgs (PySem.W.fnOf "is_told" "is_told" (defArgs s_is_told) (defBody s_is_told) (defScope s_is_told) .none kV doc pm an cdv ct) ⟨us, []⟩ = pure ((["value", "told"] : List Str).zip us) :=
  fun _ _ _ _ _ _ us hl => match us, hl with | [_, _], _ => rfl
def b_is_told (φ : List D → Option D) : Bd := bSeq (bIf (fT (f2 isND (vF 1) (cD .none))) (bRet (f2 isND (vF 0) (cD .none))) (bNext)) (bSeq (bIf (fTr (fIsi "bool" (vF 1))) (bRet (fAnd (fIsi "bool" (vF 0)) (f2 eqD (vF 0) (vF 1)))) (bNext)) (bSeq (bIf (fTr (fIsi "int" (vF 1))) (bRet (fAnd (fB (Ph_is_int) (aCons (vF 0) (aNil))) (f2 eqD (vF 0) (vF 1)))) (bNext)) (bSeq (bIf (fTr (fIsi "str" (vF 1))) (bRet (fAnd (fIsi "str" (vF 0)) (f2 eqD (vF 0) (vF 1)))) (bNext)) (bSeq (bIf (fOrT (fNotT (fTr (fB (Ph_is_seq) (aCons (vF 0) (aNil))))) (fT (f2 neD (fB lenD (aCons (vF 0) (aNil))) (fB lenD (aCons (vF 1) (aNil)))))) (bRet (cD (.bool false))) (bNext)) (bSeq (bFor (fEnum (vF 1)) (sT 2 (sCons (sN 2) (sCons (sN 3) (sNil)))) ((L_is_told_1 φ))) (bRet (cD (.bool true))))))))
def Ph_is_told : Nat → List D → Option D
  | 0 => fun _ => none
  | n + 1 => fnB (N_is_told).length (["value", "told"] : List Str).length (b_is_told (Ph_is_told n))
theorem dd_is_told (Z : Fx K mg) {φ : List D → Option D} (n : Nat) (ih : Ok P w K mg base (n + 1) "is_told" ["value", "told"] .fz φ) (cdv : Value) (A : Around) (outer : List Env) (s : Shared) (H : Hp) (E : XK) (hr : Room (n + 1) (A.deeper (envOfC "is_told" (defScope s_is_told) s.heap.objs.size (He.ga K "is_told") cdv))) :
    ∃ W t, DSs (cxOf CX0 P w K mg base N_is_told "is_told" (defScope s_is_told) (He.ga K "is_told") cdv A outer s H E).nox .fz W (defBody s_is_told) t (b_is_told φ) := ⟨_, _,
  dss_cons (ds_if (dt_cmp L2.op_isN ops_isN rfl (de_v 1) (de_non)) (dss_one (ds_ret (de_cmp L2.op_isN ops_isN rfl (de_v 0) (de_non)))) (dss_nil)) (dss_cons (ds_if (dt_truK K (de_isiK K rfl rfl Z.n_isinstance bt_isinstance rfl Z.n_bool bt_bool (de_v 1))) (dss_one (ds_ret (de_andK K (de_isiK K rfl rfl Z.n_isinstance bt_isinstance rfl Z.n_bool bt_bool (de_v 0)) (de_one (de_cmp (op_eqDK K hr.u64) ops_eq rfl (de_v 0) (de_v 1)))))) (dss_nil)) (dss_cons (ds_if (dt_truK K (de_isiK K rfl rfl Z.n_isinstance bt_isinstance rfl Z.n_int bt_int (de_v 1))) (dss_one (ds_ret (de_andK K (de_fnK K (ok_is_int Z) hr (by omega) rfl (da_cons (de_v 0) (da_nil))) (de_one (de_cmp (op_eqDK K hr.u64) ops_eq rfl (de_v 0) (de_v 1)))))) (dss_nil)) (dss_cons (ds_if (dt_truK K (de_isiK K rfl rfl Z.n_isinstance bt_isinstance rfl Z.n_str bt_str (de_v 1))) (dss_one (ds_ret (de_andK K (de_isiK K rfl rfl Z.n_isinstance bt_isinstance rfl Z.n_str bt_str (de_v 0)) (de_one (de_cmp (op_eqDK K hr.u64) ops_eq rfl (de_v 0) (de_v 1)))))) (dss_nil)) (dss_cons (ds_if (dt_w (dw_or (dt_not (dt_truK K (de_fnK K (ok_is_seq Z) hr (by omega) rfl (da_cons (de_v 0) (da_nil))))) (dw_or1 (dt_cmp (op_neDK K hr.u64) ops_ne rfl (de_cb (call_lenK K) cs_len rfl Z.n_len bt_len (da_cons (de_v 0) (da_nil))) (de_cb (call_lenK K) cs_len rfl Z.n_len bt_len (da_cons (de_v 1) (da_nil))))))) (dss_one (ds_ret (de_bl))) (dss_nil)) (dss_cons (ds_for (di_enumK K rfl Z.n_enumerate (de_v 1)) (dg_tK K (n := 2) (dgs_cons (dg_n sc_is_told.nd (i := 2)) (dgs_cons (dg_n sc_is_told.nd (i := 3)) (dgs_nil)))) (dss_one (ds_if (dt_not (dt_truK K (de_fnK K ih hr (by omega) rfl (da_cons (de_ixK K (de_v 0) (de_v 2)) (da_cons (de_v 3) (da_nil)))))) (dss_one (ds_ret (de_bl))) (dss_nil)))) (dss_one (ds_ret (de_bl))))))))⟩
theorem ok_is_told (Z : Fx K mg) : ∀ n : Nat, Ok P w K mg base (n + 1) "is_told" ["value", "told"] .fz (Ph_is_told n)
  | 0 => by obtain ⟨fd, F⟩ := Z.f_is_told; exact ok_zero F bi_is_told Z.g_is_told
  | n + 1 => by
    obtain ⟨fd, F⟩ := Z.f_is_told
    have e : n + 1 + 1 = n + 1 + 1 := by omega
    rw [e]
    exact ok_fz (P := P) (w := w) (mg := mg) (base := base) (b := b_is_told (Ph_is_told n)) (k := n + 1) (N := N_is_told) F sc_is_told bi_is_told Z.g_is_told (dd_is_told Z n (ok_is_told Z n))
abbrev N_least_sum : List Str := ["row", "gaps", "at", "slips"]
theorem sc_least_sum : FnScope N_least_sum ["row", "gaps"] (defScope s_least_sum) := ⟨rfl, rfl, rfl, by decide +kernel, rfl, by decide +kernel, by decide +kernel⟩
theorem bi_least_sum : ∀ (kV doc pm : Value) (an : Option Addr) (cdv ct : Value) (us : List Value), us.length = (["row", "gaps"] : List Str).length → bindArgs (PySem.W.fnOf "least_sum" "least_sum" (defArgs s_least_sum) (defBody s_least_sum) (defScope s_least_sum) .none kV doc pm an cdv ct) ⟨us, []⟩ = pure ((["row", "gaps"] : List Str).zip us) :=
  fun _ _ _ _ _ _ us hl => match us, hl with | [_, _], _ => rfl
def b_least_sum : Bd := bRet (f2 minDf (fLc (fEnum (vF 0)) (sT 2 (sCons (sN 2) (sCons (sN 3) (sNil)))) (fT (f2 notND (vF 3) (cD .none))) (f2 addD (vF 3) (f2 ixD (vF 1) (vF 2))) [2, 3]) (cD .none))
def Ph_least_sum : List D → Option D := fnB (N_least_sum).length (["row", "gaps"] : List Str).length b_least_sum
theorem dd_least_sum (Z : Fx K mg) (cdv : Value) (A : Around) (outer : List Env) (s : Shared) (H : Hp) (E : XK) (hr : Room (0) (A.deeper (envOfC "least_sum" (defScope s_least_sum) s.heap.objs.size (He.ga K "least_sum") cdv))) :
    ∃ W t, DSs (cxOf CX0 P w K mg base N_least_sum "least_sum" (defScope s_least_sum) (He.ga K "least_sum") cdv A outer s H E).nox .fz W (defBody s_least_sum) t (b_least_sum) := ⟨_, _,
  dss_one (ds_ret (de_minDf K rfl Z.n_min hr.u70 (de_lc [("at", 2), ("slips", 3)] sc_least_sum.nd (di_enumK K rfl Z.n_enumerate (de_v 0)) (blk_of (N := N_least_sum) (sc := defScope s_least_sum) (by decide +kernel)) (fun _ _ _ _ _ => dg_tK K (n := 2) (dgs_cons (dg_n sc_least_sum.nd (i := 2)) (dgs_cons (dg_n sc_least_sum.nd (i := 3)) (dgs_nil)))) (fun _ _ _ _ _ => dts_one (dt_cmp L2.op_notN ops_notN rfl (de_v 3) (de_non))) (fun _ _ _ _ _ => de_op (op_addAK K) ops_addA (de_v 3) (de_ixK K (de_v 1) (de_v 2))) (by decide)) (de_non)))⟩
theorem ok_least_sum (Z : Fx K mg) : Ok P w K mg base 1 "least_sum" ["row", "gaps"] .fz Ph_least_sum := by
  obtain ⟨fd, F⟩ := Z.f_least_sum
  exact ok_fz (P := P) (w := w) (mg := mg) (base := base) (b := b_least_sum) (k := 0) (N := N_least_sum) F sc_least_sum bi_least_sum Z.g_least_sum (dd_least_sum Z)
abbrev N_table_of : List Str := ["word", "words", "heard", "gaps", "rows", "at", "known", "row", "other", "place"]
theorem sc_table_of : FnScope N_table_of ["word", "words", "heard"] (defScope s_table_of) := ⟨rfl, rfl, rfl, by decide +kernel, rfl, by decide +kernel, by decide +kernel⟩
def L_table_of_1 : Bd := bSeq (bIf (fT (f2 eqD (vF 5) (cD (.int 0)))) (bAsg 7 (fLc (fI (vF 1)) (sN 8) (fYes) (fB (Ph_gap_of) (aCons (vF 0) (aCons (vF 8) (aNil)))) [8])) (bAsg 7 (fLc (fIs rg1D (aCons (fB lenD (aCons (vF 1) (aNil))) (aNil))) (sN 9) (fYes) (fB (Ph_least_sum) (aCons (f2 ixD (vP 4) (f2 subD (vF 5) (cD (.int 1)))) (aCons (f2 ixD (vF 3) (vF 9)) (aNil)))) [9]))) (bApp 4 (fB tupD (aCons (fLc (fEnum (vF 1)) (sT 2 (sCons (sN 9) (sCons (sN 8) (sNil)))) (fYes) (fIf (fT (f2 inD (vF 6) (fTup (aCons (cD .none) (aCons (vF 8) (aNil)))))) (f2 ixD (vF 7) (vF 9)) (cD .none)) [9, 8]) (aNil))))
theorem bi_table_of : ∀ (kV doc pm : Value) (an : Option Addr) (cdv ct : Value) (us : List Value), us.length = (["word", "words", "heard"] : List Str).length → bindArgs (PySem.W.fnOf "table_of" "table_of" (defArgs s_table_of) (defBody s_table_of) (defScope s_table_of) .none kV doc pm an cdv ct) ⟨us, []⟩ = pure ((["word", "words", "heard"] : List Str).zip us) :=
  fun _ _ _ _ _ _ us hl => match us, hl with | [_, _, _], _ => rfl
def b_table_of : Bd := bSeq (bAsg 3 (fB (Ph_gaps_of) (aCons (vF 1) (aNil)))) (bSeq (bOwn 4 (fLst (aNil))) (bSeq (bFor (fEnum (vF 2)) (sT 2 (sCons (sN 5) (sCons (sN 6) (sNil)))) (L_table_of_1)) (bRet (fB tupD (aCons (vP 4) (aNil))))))
def Ph_table_of : List D → Option D := fnB (N_table_of).length (["word", "words", "heard"] : List Str).length b_table_of
theorem dd_table_of (Z : Fx K mg) (cdv : Value) (A : Around) (outer : List Env) (s : Shared) (H : Hp) (E : XK) (hr : Room (2) (A.deeper (envOfC "table_of" (defScope s_table_of) s.heap.objs.size (He.ga K "table_of") cdv))) :
    ∃ W t, DSs (cxOf CX0 P w K mg base N_table_of "table_of" (defScope s_table_of) (He.ga K "table_of") cdv A outer s H E).nox .fz W (defBody s_table_of) t (b_table_of) := ⟨_, _,
  dss_cons (ds_asg (i := 3) (DE.frz (de_fnK K (ok_gaps_of Z) hr (by omega) rfl (da_cons (de_v 1) (da_nil)))) sc_table_of.nd) (dss_cons (ds_own (i := 4) (de_lst (da_nil)) sc_table_of.nd) (dss_cons (ds_for (di_enumK K rfl Z.n_enumerate (de_v 2)) (dg_tK K (n := 2) (dgs_cons (dg_n sc_table_of.nd (i := 5)) (dgs_cons (dg_n sc_table_of.nd (i := 6)) (dgs_nil)))) (dss_cons (ds_if (dt_cmp (op_eqDK K hr.u64) ops_eq rfl (de_v 5) (de_int)) (dss_one (ds_asg (i := 7) (DE.frz (de_lc [("other", 8)] sc_table_of.nd (di_anyK K (de_v 1)) (blk_of (N := N_table_of) (sc := defScope s_table_of) (by decide +kernel)) (fun _ _ _ _ _ => dg_n sc_table_of.nd (i := 8)) (fun _ _ _ _ _ => dts_nil) (fun _ _ _ _ _ => de_fnK K (ok_gap_of Z) hr (by omega) rfl (da_cons (de_v 0) (da_cons (de_v 8) (da_nil)))) (by decide))) sc_table_of.nd)) (dss_one (ds_asg (i := 7) (DE.frz (de_lc [("place", 9)] sc_table_of.nd (di_rg1 rfl Z.n_range (da_cons (de_cb (call_lenK K) cs_len rfl Z.n_len bt_len (da_cons (de_v 1) (da_nil))) (da_nil))) (blk_of (N := N_table_of) (sc := defScope s_table_of) (by decide +kernel)) (fun _ _ _ _ _ => dg_n sc_table_of.nd (i := 9)) (fun _ _ _ _ _ => dts_nil) (fun _ _ _ _ _ => de_fnK K (ok_least_sum Z) hr (by omega) rfl (da_cons (de_ixK K (de_p 4) (de_op op_sub ops_sub (de_v 5) (de_int))) (da_cons (de_ixK K (de_v 3) (de_v 9)) (da_nil)))) (by decide))) sc_table_of.nd))) (dss_one (ds_app (j := 4) (de_ct (cr_tupK K) cs_tup rfl Z.n_tuple bt_tuple (da_cons (de_lc [("place", 9), ("other", 8)] sc_table_of.nd (di_enumK K rfl Z.n_enumerate (de_v 1)) (blk_of (N := N_table_of) (sc := defScope s_table_of) (by decide +kernel)) (fun _ _ _ _ _ => dg_tK K (n := 2) (dgs_cons (dg_n sc_table_of.nd (i := 9)) (dgs_cons (dg_n sc_table_of.nd (i := 8)) (dgs_nil)))) (fun _ _ _ _ _ => dts_nil) (fun _ _ _ _ _ => de_if (dt_cmp (op_in_K K hr.u65) ops_in rfl (de_v 6) (de_tup (da_cons (de_non) (da_cons (de_v 8) (da_nil))))) (de_ixK K (de_v 7) (de_v 9)) (de_non)) (by decide)) (da_nil))))))) (dss_one (ds_ret (de_ct (cr_tupK K) cs_tup rfl Z.n_tuple bt_tuple (da_cons (de_p 4) (da_nil)))))))⟩
theorem ok_table_of (Z : Fx K mg) : Ok P w K mg base 3 "table_of" ["word", "words", "heard"] .fz Ph_table_of := by
  obtain ⟨fd, F⟩ := Z.f_table_of
  exact ok_fz (P := P) (w := w) (mg := mg) (base := base) (b := b_table_of) (k := 2) (N := N_table_of) F sc_table_of bi_table_of Z.g_table_of (dd_table_of Z)
abbrev N_table_holds : List Str := ["word", "words", "heard", "value"]
theorem sc_table_holds : FnScope N_table_holds ["word", "words", "heard", "value"] (defScope s_table_holds) := ⟨rfl, rfl, rfl, by decide +kernel, rfl, by decide +kernel, by decide +kernel⟩
theorem bi_table_holds : ∀ (kV doc pm : Value) (an : Option Addr) (cdv ct : Value) (us : List Value), us.length = (["word", "words", "heard", "value"] : List Str).length → bindArgs (PySem.W.fnOf "table_holds" "table_holds" (defArgs s_table_holds) (defBody s_table_holds) (defScope s_table_holds) .none kV doc pm an cdv ct) ⟨us, []⟩ = pure ((["word", "words", "heard", "value"] : List Str).zip us) :=
  fun _ _ _ _ _ _ us hl => match us, hl with | [_, _, _, _], _ => rfl
def b_table_holds : Bd := bSeq (bAsgG (fB (Ph_three_of) (aCons (vF 0) (aCons (vF 1) (aCons (vF 2) (aNil))))) (sT 3 (sCons (sN 0) (sCons (sN 1) (sCons (sN 2) (sNil)))))) (bRet (fB (Ph_is_told 4) (aCons (vF 3) (aCons (fB (Ph_table_of) (aCons (vF 0) (aCons (vF 1) (aCons (vF 2) (aNil))))) (aNil)))))
def Ph_table_holds : List D → Option D := fnB (N_table_holds).length (["word", "words", "heard", "value"] : List Str).length b_table_holds
theorem dd_table_holds (Z : Fx K mg) (cdv : Value) (A : Around) (outer : List Env) (s : Shared) (H : Hp) (E : XK) (hr : Room (8) (A.deeper (envOfC "table_holds" (defScope s_table_holds) s.heap.objs.size (He.ga K "table_holds") cdv))) :
    ∃ W t, DSs (cxOf CX0 P w K mg base N_table_holds "table_holds" (defScope s_table_holds) (He.ga K "table_holds") cdv A outer s H E).nox .fz W (defBody s_table_holds) t (b_table_holds) := ⟨_, _,
  dss_cons (ds_asgG (de_fnK K (ok_three_of Z) hr (by omega) rfl (da_cons (de_v 0) (da_cons (de_v 1) (da_cons (de_v 2) (da_nil))))) (dg_tK K (n := 3) (dgs_cons (dg_n sc_table_holds.nd (i := 0)) (dgs_cons (dg_n sc_table_holds.nd (i := 1)) (dgs_cons (dg_n sc_table_holds.nd (i := 2)) (dgs_nil)))))) (dss_one (ds_ret (de_fnK K (ok_is_told Z 4) hr (by omega) rfl (da_cons (de_v 3) (da_cons (de_fnK K (ok_table_of Z) hr (by omega) rfl (da_cons (de_v 0) (da_cons (de_v 1) (da_cons (de_v 2) (da_nil))))) (da_nil))))))⟩
theorem ok_table_holds (Z : Fx K mg) : Ok P w K mg base 9 "table_holds" ["word", "words", "heard", "value"] .fz Ph_table_holds := by
  obtain ⟨fd, F⟩ := Z.f_table_holds
  exact ok_fz (P := P) (w := w) (mg := mg) (base := base) (b := b_table_holds) (k := 8) (N := N_table_holds) F sc_table_holds bi_table_holds Z.g_table_holds (dd_table_holds Z)
abbrev N_rest_of : List Str := ["words", "heard", "gaps", "row", "rows", "known", "place", "slips"]
theorem sc_rest_of : FnScope N_rest_of ["words", "heard"] (defScope s_rest_of) := ⟨rfl, rfl, rfl, by decide +kernel, rfl, by decide +kernel, by decide +kernel⟩
def L_rest_of_1 : Bd := bSeq (bAsg 3 (fLc (fEnum (vF 3)) (sT 2 (sCons (sN 6) (sCons (sN 7) (sNil)))) (fYes) (fIf (fT (f2 inD (vF 5) (fTup (aCons (cD .none) (aCons (f2 ixD (vF 0) (vF 6)) (aNil)))))) (vF 7) (cD .none)) [6, 7])) (bSeq (bApp 4 (vF 3)) (bAsg 3 (fLc (fIs rg1D (aCons (fB lenD (aCons (vF 0) (aNil))) (aNil))) (sN 6) (fYes) (fB (Ph_least_sum) (aCons (vF 3) (aCons (f2 ixD (vF 2) (vF 6)) (aNil)))) [6])))
theorem bi_rest_of : ∀ (kV doc pm : Value) (an : Option Addr) (cdv ct : Value) (us : List Value), us.length = (["words", "heard"] : List Str).length → bindArgs (PySem.W.fnOf "rest_of" "rest_of" (defArgs s_rest_of) (defBody s_rest_of) (defScope s_rest_of) .none kV doc pm an cdv ct) ⟨us, []⟩ = pure ((["words", "heard"] : List Str).zip us) :=
  fun _ _ _ _ _ _ us hl => match us, hl with | [_, _], _ => rfl
def b_rest_of : Bd := bSeq (bAsg 2 (fB (Ph_gaps_of) (aCons (vF 0) (aNil)))) (bSeq (bAsg 3 (f2 repLD (fLst (aCons (cD (.int 0)) (aNil))) (fB lenD (aCons (vF 0) (aNil))))) (bSeq (bOwn 4 (fLst (aNil))) (bSeq (bFor (fRev (vF 1)) (sN 5) (L_rest_of_1)) (bRet (f2 revSD (vP 4) (f1 negD (cD (.int 1))))))))
def Ph_rest_of : List D → Option D := fnR (N_rest_of).length (["words", "heard"] : List Str).length b_rest_of
theorem dd_rest_of (Z : Fx K mg) (cdv : Value) (A : Around) (outer : List Env) (s : Shared) (H : Hp) (E : XK) (hr : Room (2) (A.deeper (envOfC "rest_of" (defScope s_rest_of) s.heap.objs.size (He.ga K "rest_of") cdv))) :
    ∃ W t, DSs (cxOf CX0 P w K mg base N_rest_of "rest_of" (defScope s_rest_of) (He.ga K "rest_of") cdv A outer s H E).nox .fr W (defBody s_rest_of) t (b_rest_of) := ⟨_, _,
  dss_cons (ds_asg (i := 2) (DE.frz (de_fnK K (ok_gaps_of Z) hr (by omega) rfl (da_cons (de_v 0) (da_nil)))) sc_rest_of.nd) (dss_cons (ds_asg (i := 3) (DE.frz (de_repL (de_lst (da_cons (de_int) (da_nil))) (de_cb (call_lenK K) cs_len rfl Z.n_len bt_len (da_cons (de_v 0) (da_nil))))) sc_rest_of.nd) (dss_cons (ds_own (i := 4) (de_lst (da_nil)) sc_rest_of.nd) (dss_cons (ds_for (di_revK K rfl Z.n_reversed (de_v 1)) (dg_n sc_rest_of.nd (i := 5)) (dss_cons (ds_asg (i := 3) (DE.frz (de_lc [("place", 6), ("slips", 7)] sc_rest_of.nd (di_enumK K rfl Z.n_enumerate (de_v 3)) (blk_of (N := N_rest_of) (sc := defScope s_rest_of) (by decide +kernel)) (fun _ _ _ _ _ => dg_tK K (n := 2) (dgs_cons (dg_n sc_rest_of.nd (i := 6)) (dgs_cons (dg_n sc_rest_of.nd (i := 7)) (dgs_nil)))) (fun _ _ _ _ _ => dts_nil) (fun _ _ _ _ _ => de_if (dt_cmp (op_in_K K hr.u65) ops_in rfl (de_v 5) (de_tup (da_cons (de_non) (da_cons (de_ixK K (de_v 0) (de_v 6)) (da_nil))))) (de_v 7) (de_non)) (by decide))) sc_rest_of.nd) (dss_cons (ds_app (j := 4) (de_v 3)) (dss_one (ds_asg (i := 3) (DE.frz (de_lc [("place", 6)] sc_rest_of.nd (di_rg1 rfl Z.n_range (da_cons (de_cb (call_lenK K) cs_len rfl Z.n_len bt_len (da_cons (de_v 0) (da_nil))) (da_nil))) (blk_of (N := N_rest_of) (sc := defScope s_rest_of) (by decide +kernel)) (fun _ _ _ _ _ => dg_n sc_rest_of.nd (i := 6)) (fun _ _ _ _ _ => dts_nil) (fun _ _ _ _ _ => de_fnK K (ok_least_sum Z) hr (by omega) rfl (da_cons (de_v 3) (da_cons (de_ixK K (de_v 2) (de_v 6)) (da_nil)))) (by decide))) sc_rest_of.nd))))) (dss_one (ds_ret (de_revK K (de_p 4) (de_neg (de_int))))))))⟩
theorem ok_rest_of (Z : Fx K mg) : Ok P w K mg base 3 "rest_of" ["words", "heard"] .fr Ph_rest_of := by
  obtain ⟨fd, F⟩ := Z.f_rest_of
  exact ok_fr (P := P) (w := w) (mg := mg) (base := base) (b := b_rest_of) (k := 2) (N := N_rest_of) F sc_rest_of bi_rest_of Z.g_rest_of (dd_rest_of Z)
abbrev N_least_by : List Str := ["words", "word", "heard", "told", "sums", "row", "slips", "place", "known", "at", "rest"]
theorem sc_least_by : FnScope N_least_by ["words", "word", "heard"] (defScope s_least_by) := ⟨rfl, rfl, rfl, by decide +kernel, rfl, by decide +kernel, by decide +kernel⟩
def L_least_by_1 : Bd := bSeq (bAsgG (fB minA (aCons (fLc (fEnum (vF 5)) (sT 2 (sCons (sN 9) (sCons (sN 10) (sNil)))) (fT (f2 notND (vF 10) (cD .none))) (fTup (aCons (f2 addD (fB (Ph_gap_of) (aCons (vF 1) (aCons (f2 ixD (vF 0) (vF 9)) (aNil)))) (vF 10)) (aCons (vF 9) (aNil)))) [9, 10]) (aNil))) (sT 2 (sCons (sN 6) (sCons (sN 7) (sNil))))) (bSeq (bApp 4 (vF 6)) (bSeq (bAsg 1 (f2 ixD (vF 0) (vF 7))) (bApp 3 (vF 1))))
theorem bi_least_by : ∀ (kV doc pm : Value) (an : Option Addr) (cdv ct : Value) (us : List Value), us.length = (["words", "word", "heard"] : List Str).length → bindArgs (PySem.W.fnOf "least_by" "least_by" (defArgs s_least_by) (defBody s_least_by) (defScope s_least_by) .none kV doc pm an cdv ct) ⟨us, []⟩ = pure ((["words", "word", "heard"] : List Str).zip us) :=
  fun _ _ _ _ _ _ us hl => match us, hl with | [_, _, _], _ => rfl
def b_least_by : Bd := bSeq (bAsg 0 (fB (Ph_need) (aCons (cD (.int 1)) (aCons (fB (Ph_to_words) (aCons (vF 0) (aNil))) (aNil))))) (bSeq (bAsg 1 (fB (Ph_need) (aCons (cD (.int 2)) (aCons (fB (Ph_to_word) (aCons (vF 1) (aNil))) (aNil))))) (bSeq (bAsg 2 (fB (Ph_need) (aCons (cD (.int 3)) (aCons (fB (Ph_to_heard) (aCons (vF 2) (aNil))) (aNil))))) (bSeq (bIf (fNotT (fTr (fB allD (aCons (fLc (fI (vF 2)) (sN 8) (fYes) (fOr (f2 isND (vF 8) (cD .none)) (f2 inD (vF 8) (vF 0))) [8]) (aNil))))) (bRet (cD .none)) (bNext)) (bSeq (bOwn 3 (fLst (aNil))) (bSeq (bOwn 4 (fLst (aNil))) (bSeq (bFor (fI (fB (Ph_rest_of) (aCons (vF 0) (aCons (vF 2) (aNil))))) (sN 5) (L_least_by_1)) (bRet (fTup (aCons (f2 ixD (vP 4) (cD (.int 0))) (aCons (fB tupD (aCons (vP 3) (aNil))) (aNil)))))))))))
def Ph_least_by : List D → Option D := fnB (N_least_by).length (["words", "word", "heard"] : List Str).length b_least_by
theorem dd_least_by (Z : Fx K mg) (cdv : Value) (A : Around) (outer : List Env) (s : Shared) (H : Hp) (E : XK) (hr : Room (7) (A.deeper (envOfC "least_by" (defScope s_least_by) s.heap.objs.size (He.ga K "least_by") cdv))) :
    ∃ W t, DSs (cxOf CX0 P w K mg base N_least_by "least_by" (defScope s_least_by) (He.ga K "least_by") cdv A outer s H E).nox .fz W (defBody s_least_by) t (b_least_by) := ⟨_, _,
  dss_cons (ds_asg (i := 0) (de_fnK K (ok_need Z) hr (by omega) rfl (da_cons (de_int) (da_cons (de_fnK K (ok_to_words Z) hr (by omega) rfl (da_cons (de_v 0) (da_nil))) (da_nil)))) sc_least_by.nd) (dss_cons (ds_asg (i := 1) (de_fnK K (ok_need Z) hr (by omega) rfl (da_cons (de_int) (da_cons (de_fnK K (ok_to_word Z) hr (by omega) rfl (da_cons (de_v 1) (da_nil))) (da_nil)))) sc_least_by.nd) (dss_cons (ds_asg (i := 2) (de_fnK K (ok_need Z) hr (by omega) rfl (da_cons (de_int) (da_cons (de_fnK K (ok_to_heard Z) hr (by omega) rfl (da_cons (de_v 2) (da_nil))) (da_nil)))) sc_least_by.nd) (dss_cons (ds_if (dt_not (dt_truK K (de_cb (cr_allK K rfl) cs_all rfl Z.n_all bt_all (da_cons (de_lc [("known", 8)] sc_least_by.nd (di_anyK K (de_v 2)) (blk_of (N := N_least_by) (sc := defScope s_least_by) (by decide +kernel)) (fun _ _ _ _ _ => dg_n sc_least_by.nd (i := 8)) (fun _ _ _ _ _ => dts_nil) (fun _ _ _ _ _ => de_orK K (de_cmp L2.op_isN ops_isN rfl (de_v 8) (de_non)) (de_one (de_cmp (op_in_K K hr.u65) ops_in rfl (de_v 8) (de_v 0)))) (by decide)) (da_nil))))) (dss_one (ds_ret (de_non))) (dss_nil)) (dss_cons (ds_own (i := 3) (de_lst (da_nil)) sc_least_by.nd) (dss_cons (ds_own (i := 4) (de_lst (da_nil)) sc_least_by.nd) (dss_cons (ds_for (di_anyK K (DE.frz (de_fnK K (ok_rest_of Z) hr (by omega) rfl (da_cons (de_v 0) (da_cons (de_v 2) (da_nil)))))) (dg_n sc_least_by.nd (i := 5)) (dss_cons (ds_asgG (de_cb (cr_minAK K rfl hr.u70) cs_minA rfl Z.n_min bt_min (da_cons (de_lc [("at", 9), ("rest", 10)] sc_least_by.nd (di_enumK K rfl Z.n_enumerate (de_v 5)) (blk_of (N := N_least_by) (sc := defScope s_least_by) (by decide +kernel)) (fun _ _ _ _ _ => dg_tK K (n := 2) (dgs_cons (dg_n sc_least_by.nd (i := 9)) (dgs_cons (dg_n sc_least_by.nd (i := 10)) (dgs_nil)))) (fun _ _ _ _ _ => dts_one (dt_cmp L2.op_notN ops_notN rfl (de_v 10) (de_non))) (fun _ _ _ _ _ => de_tup (da_cons (de_op (op_addAK K) ops_addA (de_fnK K (ok_gap_of Z) hr (by omega) rfl (da_cons (de_v 1) (da_cons (de_ixK K (de_v 0) (de_v 9)) (da_nil)))) (de_v 10)) (da_cons (de_v 9) (da_nil)))) (by decide)) (da_nil))) (dg_tK K (n := 2) (dgs_cons (dg_n sc_least_by.nd (i := 6)) (dgs_cons (dg_n sc_least_by.nd (i := 7)) (dgs_nil))))) (dss_cons (ds_app (j := 4) (de_v 6)) (dss_cons (ds_asg (i := 1) (de_ixK K (de_v 0) (de_v 7)) sc_least_by.nd) (dss_one (ds_app (j := 3) (de_v 1))))))) (dss_one (ds_ret (de_tup (da_cons (de_ixK K (de_p 4) (de_int)) (da_cons (de_ct (cr_tupK K) cs_tup rfl Z.n_tuple bt_tuple (da_cons (de_p 3) (da_nil))) (da_nil))))))))))))⟩
theorem ok_least_by (Z : Fx K mg) : Ok P w K mg base 8 "least_by" ["words", "word", "heard"] .fz Ph_least_by := by
  obtain ⟨fd, F⟩ := Z.f_least_by
  exact ok_fz (P := P) (w := w) (mg := mg) (base := base) (b := b_least_by) (k := 7) (N := N_least_by) F sc_least_by bi_least_by Z.g_least_by (dd_least_by Z)
abbrev N__law_listed : List Str := ["value", "one"]
theorem sc__law_listed : FnScope N__law_listed ["value"] (defScope s__law_listed) := ⟨rfl, rfl, rfl, by decide +kernel, rfl, by decide +kernel, by decide +kernel⟩
theorem bi__law_listed : ∀ (kV doc pm : Value) (an : Option Addr) (cdv ct : Value) (us : List Value), us.length = (["value"] : List Str).length → bindArgs (PySem.W.fnOf "_law_listed" "_law_listed" (defArgs s__law_listed) (defBody s__law_listed) (defScope s__law_listed) .none kV doc pm an cdv ct) ⟨us, []⟩ = pure ((["value"] : List Str).zip us) :=
  fun _ _ _ _ _ _ us hl => match us, hl with | [_], _ => rfl
def b__law_listed (φ : List D → Option D) : Bd := bSeq (bIf (fTr (fIsi "tuple" (vF 0))) (bRet (fLc (fI (vF 0)) (sN 1) (fYes) (fB φ (aCons (vF 1) (aNil))) [1])) (bNext)) (bRet (vF 0))
def Ph__law_listed : Nat → List D → Option D
  | 0 => fun _ => none
  | n + 1 => fnB (N__law_listed).length (["value"] : List Str).length (b__law_listed (Ph__law_listed n))
theorem dd__law_listed (Z : Fx K mg) {φ : List D → Option D} (n : Nat) (ih : Ok P w K mg base (n + 0) "_law_listed" ["value"] .fz φ) (cdv : Value) (A : Around) (outer : List Env) (s : Shared) (H : Hp) (E : XK) (hr : Room (n + 0) (A.deeper (envOfC "_law_listed" (defScope s__law_listed) s.heap.objs.size (He.ga K "_law_listed") cdv))) :
    ∃ W t, DSs (cxOf CX0 P w K mg base N__law_listed "_law_listed" (defScope s__law_listed) (He.ga K "_law_listed") cdv A outer s H E).nox .fz W (defBody s__law_listed) t (b__law_listed φ) := ⟨_, _,
  dss_cons (ds_if (dt_truK K (de_isiK K rfl rfl Z.n_isinstance bt_isinstance rfl Z.n_tuple bt_tuple (de_v 0))) (dss_one (ds_ret (DE.frz (de_lc [("one", 1)] sc__law_listed.nd (di_anyK K (de_v 0)) (blk_of (N := N__law_listed) (sc := defScope s__law_listed) (by decide +kernel)) (fun _ _ _ _ _ => dg_n sc__law_listed.nd (i := 1)) (fun _ _ _ _ _ => dts_nil) (fun _ _ _ _ _ => de_fnK K ih hr (by omega) rfl (da_cons (de_v 1) (da_nil))) (by decide))))) (dss_nil)) (dss_one (ds_ret (de_v 0)))⟩
theorem ok__law_listed (Z : Fx K mg) : ∀ n : Nat, Ok P w K mg base (n + 0) "_law_listed" ["value"] .fz (Ph__law_listed n)
  | 0 => by obtain ⟨fd, F⟩ := Z.f__law_listed; exact ok_zero F bi__law_listed Z.g__law_listed
  | n + 1 => by
    obtain ⟨fd, F⟩ := Z.f__law_listed
    have e : n + 1 + 0 = n + 0 + 1 := by omega
    rw [e]
    exact ok_fz (P := P) (w := w) (mg := mg) (base := base) (b := b__law_listed (Ph__law_listed n)) (k := n + 0) (N := N__law_listed) F sc__law_listed bi__law_listed Z.g__law_listed (dd__law_listed Z n (ok__law_listed Z n))
abbrev N_floor : List Str := ["word", "heard"]
theorem sc_floor : FnScope N_floor ["word", "heard"] (defScope s_floor) := ⟨rfl, rfl, rfl, by decide +kernel, rfl, by decide +kernel, by decide +kernel⟩
theorem bi_floor : ∀ (kV doc pm : Value) (an : Option Addr) (cdv ct : Value) (us : List Value), us.length = (["word", "heard"] : List Str).length → bindArgs (PySem.W.fnOf "floor" "floor" (defArgs s_floor) (defBody s_floor) (defScope s_floor) .none kV doc pm an cdv ct) ⟨us, []⟩ = pure ((["word", "heard"] : List Str).zip us) :=
  fun _ _ _ _ _ _ us hl => match us, hl with | [_, _], _ => rfl
def b_floor : Bd := bSeq (bAsgG (fB (Ph_both_of) (aCons (vF 0) (aCons (vF 1) (aNil)))) (sT 2 (sCons (sN 0) (sCons (sN 1) (sNil))))) (bRet (fB (Ph_floor_of) (aCons (vF 0) (aCons (vF 1) (aNil)))))
def Ph_floor : List D → Option D := fnB (N_floor).length (["word", "heard"] : List Str).length b_floor
theorem dd_floor (Z : Fx K mg) (cdv : Value) (A : Around) (outer : List Env) (s : Shared) (H : Hp) (E : XK) (hr : Room (4) (A.deeper (envOfC "floor" (defScope s_floor) s.heap.objs.size (He.ga K "floor") cdv))) :
    ∃ W t, DSs (cxOf CX0 P w K mg base N_floor "floor" (defScope s_floor) (He.ga K "floor") cdv A outer s H E).nox .fz W (defBody s_floor) t (b_floor) := ⟨_, _,
  dss_cons (ds_asgG (de_fnK K (ok_both_of Z) hr (by omega) rfl (da_cons (de_v 0) (da_cons (de_v 1) (da_nil)))) (dg_tK K (n := 2) (dgs_cons (dg_n sc_floor.nd (i := 0)) (dgs_cons (dg_n sc_floor.nd (i := 1)) (dgs_nil))))) (dss_one (ds_ret (de_fnK K (ok_floor_of Z) hr (by omega) rfl (da_cons (de_v 0) (da_cons (de_v 1) (da_nil))))))⟩
theorem ok_floor (Z : Fx K mg) : Ok P w K mg base 5 "floor" ["word", "heard"] .fz Ph_floor := by
  obtain ⟨fd, F⟩ := Z.f_floor
  exact ok_fz (P := P) (w := w) (mg := mg) (base := base) (b := b_floor) (k := 4) (N := N_floor) F sc_floor bi_floor Z.g_floor (dd_floor Z)
abbrev N_filling : List Str := ["word", "heard", "told", "known"]
theorem sc_filling : FnScope N_filling ["word", "heard"] (defScope s_filling) := ⟨rfl, rfl, rfl, by decide +kernel, rfl, by decide +kernel, by decide +kernel⟩
def L_filling_1 : Bd := bSeq (bIf (fT (f2 notND (vF 3) (cD .none))) (bAsg 0 (vF 3)) (bNext)) (bApp 2 (vF 0))
theorem bi_filling : ∀ (kV doc pm : Value) (an : Option Addr) (cdv ct : Value) (us : List Value), us.length = (["word", "heard"] : List Str).length → bindArgs (PySem.W.fnOf "filling" "filling" (defArgs s_filling) (defBody s_filling) (defScope s_filling) .none kV doc pm an cdv ct) ⟨us, []⟩ = pure ((["word", "heard"] : List Str).zip us) :=
  fun _ _ _ _ _ _ us hl => match us, hl with | [_, _], _ => rfl
def b_filling : Bd := bSeq (bAsgG (fB (Ph_both_of) (aCons (vF 0) (aCons (vF 1) (aNil)))) (sT 2 (sCons (sN 0) (sCons (sN 1) (sNil))))) (bSeq (bOwn 2 (fLst (aNil))) (bSeq (bFor (fI (vF 1)) (sN 3) (L_filling_1)) (bRet (fB tupD (aCons (vP 2) (aNil))))))
def Ph_filling : List D → Option D := fnB (N_filling).length (["word", "heard"] : List Str).length b_filling
theorem dd_filling (Z : Fx K mg) (cdv : Value) (A : Around) (outer : List Env) (s : Shared) (H : Hp) (E : XK) (hr : Room (4) (A.deeper (envOfC "filling" (defScope s_filling) s.heap.objs.size (He.ga K "filling") cdv))) :
    ∃ W t, DSs (cxOf CX0 P w K mg base N_filling "filling" (defScope s_filling) (He.ga K "filling") cdv A outer s H E).nox .fz W (defBody s_filling) t (b_filling) := ⟨_, _,
  dss_cons (ds_asgG (de_fnK K (ok_both_of Z) hr (by omega) rfl (da_cons (de_v 0) (da_cons (de_v 1) (da_nil)))) (dg_tK K (n := 2) (dgs_cons (dg_n sc_filling.nd (i := 0)) (dgs_cons (dg_n sc_filling.nd (i := 1)) (dgs_nil))))) (dss_cons (ds_own (i := 2) (de_lst (da_nil)) sc_filling.nd) (dss_cons (ds_for (di_anyK K (de_v 1)) (dg_n sc_filling.nd (i := 3)) (dss_cons (ds_if (dt_cmp L2.op_notN ops_notN rfl (de_v 3) (de_non)) (dss_one (ds_asg (i := 0) (de_v 3) sc_filling.nd)) (dss_nil)) (dss_one (ds_app (j := 2) (de_v 0))))) (dss_one (ds_ret (de_ct (cr_tupK K) cs_tup rfl Z.n_tuple bt_tuple (da_cons (de_p 2) (da_nil)))))))⟩
theorem ok_filling (Z : Fx K mg) : Ok P w K mg base 5 "filling" ["word", "heard"] .fz Ph_filling := by
  obtain ⟨fd, F⟩ := Z.f_filling
  exact ok_fz (P := P) (w := w) (mg := mg) (base := base) (b := b_filling) (k := 4) (N := N_filling) F sc_filling bi_filling Z.g_filling (dd_filling Z)
abbrev N__law_slips : List Str := ["word", "row", "told", "k"]
theorem sc__law_slips : FnScope N__law_slips ["word", "row"] (defScope s__law_slips) := ⟨rfl, rfl, rfl, by decide +kernel, rfl, by decide +kernel, by decide +kernel⟩
theorem bi__law_slips : ∀ (kV doc pm : Value) (an : Option Addr) (cdv ct : Value) (us : List Value), us.length = (["word", "row"] : List Str).length → bindArgs (PySem.W.fnOf "_law_slips" "_law_slips" (defArgs s__law_slips) (defBody s__law_slips) (defScope s__law_slips) .none kV doc pm an cdv ct) ⟨us, []⟩ = pure ((["word", "row"] : List Str).zip us) :=
  fun _ _ _ _ _ _ us hl => match us, hl with | [_, _], _ => rfl
def b__law_slips : Bd := bSeq (bAsg 2 (f2 addD (fTup (aCons (vF 0) (aNil))) (vF 1))) (bRet (fLc (fIs rg1D (aCons (fB lenD (aCons (vF 1) (aNil))) (aNil))) (sN 3) (fYes) (fB (Ph__law_gap) (aCons (f2 ixD (vF 2) (vF 3)) (aCons (f2 ixD (vF 2) (f2 addD (vF 3) (cD (.int 1)))) (aNil)))) [3]))
def Ph__law_slips : List D → Option D := fnR (N__law_slips).length (["word", "row"] : List Str).length b__law_slips
theorem dd__law_slips (Z : Fx K mg) (cdv : Value) (A : Around) (outer : List Env) (s : Shared) (H : Hp) (E : XK) (hr : Room (1) (A.deeper (envOfC "_law_slips" (defScope s__law_slips) s.heap.objs.size (He.ga K "_law_slips") cdv))) :
    ∃ W t, DSs (cxOf CX0 P w K mg base N__law_slips "_law_slips" (defScope s__law_slips) (He.ga K "_law_slips") cdv A outer s H E).nox .fr W (defBody s__law_slips) t (b__law_slips) := ⟨_, _,
  dss_cons (ds_asg (i := 2) (de_op (op_addAK K) ops_addA (de_tup (da_cons (de_v 0) (da_nil))) (de_v 1)) sc__law_slips.nd) (dss_one (ds_ret (de_lc [("k", 3)] sc__law_slips.nd (di_rg1 rfl Z.n_range (da_cons (de_cb (call_lenK K) cs_len rfl Z.n_len bt_len (da_cons (de_v 1) (da_nil))) (da_nil))) (blk_of (N := N__law_slips) (sc := defScope s__law_slips) (by decide +kernel)) (fun _ _ _ _ _ => dg_n sc__law_slips.nd (i := 3)) (fun _ _ _ _ _ => dts_nil) (fun _ _ _ _ _ => de_fnK K (ok__law_gap Z) hr (by omega) rfl (da_cons (de_ixK K (de_v 2) (de_v 3)) (da_cons (de_ixK K (de_v 2) (de_op (op_addAK K) ops_addA (de_v 3) (de_int))) (da_nil)))) (by decide))))⟩
theorem ok__law_slips (Z : Fx K mg) : Ok P w K mg base 2 "_law_slips" ["word", "row"] .fr Ph__law_slips := by
  obtain ⟨fd, F⟩ := Z.f__law_slips
  exact ok_fr (P := P) (w := w) (mg := mg) (base := base) (b := b__law_slips) (k := 1) (N := N__law_slips) F sc__law_slips bi__law_slips Z.g__law_slips (dd__law_slips Z)
abbrev N_who_slipped : List Str := ["word", "heard", "told", "at", "known", "ahead"]
theorem sc_who_slipped : FnScope N_who_slipped ["word", "heard"] (defScope s_who_slipped) := ⟨rfl, rfl, rfl, by decide +kernel, rfl, by decide +kernel, by decide +kernel⟩
def L_who_slipped_1 : Bd := bSeq (bAsg 5 (fIf (fT (f2 gtD (vF 3) (cD (.int 0)))) (f2 ixD (vF 1) (f2 subD (vF 3) (cD (.int 1)))) (vF 0))) (bIf (fAndT (fT (f2 notND (vF 4) (cD .none))) (fAndT (fT (f2 notND (vF 5) (cD .none))) (fT (f2 neD (vF 4) (vF 5))))) (bApp 2 (vF 3)) (bNext))
theorem bi_who_slipped : ∀ (kV doc pm : Value) (an : Option Addr) (cdv ct : Value) (us : List Value), us.length = (["word", "heard"] : List Str).length → bindArgs (PySem.W.fnOf "who_slipped" "who_slipped" (defArgs s_who_slipped) (defBody s_who_slipped) (defScope s_who_slipped) .none kV doc pm an cdv ct) ⟨us, []⟩ = pure ((["word", "heard"] : List Str).zip us) :=
  fun _ _ _ _ _ _ us hl => match us, hl with | [_, _], _ => rfl
def b_who_slipped : Bd := bSeq (bAsgG (fB (Ph_both_of) (aCons (vF 0) (aCons (vF 1) (aNil)))) (sT 2 (sCons (sN 0) (sCons (sN 1) (sNil))))) (bSeq (bOwn 2 (fLst (aNil))) (bSeq (bFor (fEnum (vF 1)) (sT 2 (sCons (sN 3) (sCons (sN 4) (sNil)))) (L_who_slipped_1)) (bRet (fB tupD (aCons (vP 2) (aNil))))))
def Ph_who_slipped : List D → Option D := fnB (N_who_slipped).length (["word", "heard"] : List Str).length b_who_slipped
theorem dd_who_slipped (Z : Fx K mg) (cdv : Value) (A : Around) (outer : List Env) (s : Shared) (H : Hp) (E : XK) (hr : Room (4) (A.deeper (envOfC "who_slipped" (defScope s_who_slipped) s.heap.objs.size (He.ga K "who_slipped") cdv))) :
    ∃ W t, DSs (cxOf CX0 P w K mg base N_who_slipped "who_slipped" (defScope s_who_slipped) (He.ga K "who_slipped") cdv A outer s H E).nox .fz W (defBody s_who_slipped) t (b_who_slipped) := ⟨_, _,
  dss_cons (ds_asgG (de_fnK K (ok_both_of Z) hr (by omega) rfl (da_cons (de_v 0) (da_cons (de_v 1) (da_nil)))) (dg_tK K (n := 2) (dgs_cons (dg_n sc_who_slipped.nd (i := 0)) (dgs_cons (dg_n sc_who_slipped.nd (i := 1)) (dgs_nil))))) (dss_cons (ds_own (i := 2) (de_lst (da_nil)) sc_who_slipped.nd) (dss_cons (ds_for (di_enumK K rfl Z.n_enumerate (de_v 1)) (dg_tK K (n := 2) (dgs_cons (dg_n sc_who_slipped.nd (i := 3)) (dgs_cons (dg_n sc_who_slipped.nd (i := 4)) (dgs_nil)))) (dss_cons (ds_asg (i := 5) (de_if (dt_cmp (op_gt_K K hr.u64) ops_gt rfl (de_v 3) (de_int)) (de_ixK K (de_v 1) (de_op op_sub ops_sub (de_v 3) (de_int))) (de_v 0)) sc_who_slipped.nd) (dss_one (ds_if (dt_w (dw_and (dt_cmp L2.op_notN ops_notN rfl (de_v 4) (de_non)) (dw_and (dt_cmp L2.op_notN ops_notN rfl (de_v 5) (de_non)) (dw_and1 (dt_cmp (op_neDK K hr.u64) ops_ne rfl (de_v 4) (de_v 5)))))) (dss_one (ds_app (j := 2) (de_v 3))) (dss_nil))))) (dss_one (ds_ret (de_ct (cr_tupK K) cs_tup rfl Z.n_tuple bt_tuple (da_cons (de_p 2) (da_nil)))))))⟩
theorem ok_who_slipped (Z : Fx K mg) : Ok P w K mg base 5 "who_slipped" ["word", "heard"] .fz Ph_who_slipped := by
  obtain ⟨fd, F⟩ := Z.f_who_slipped
  exact ok_fz (P := P) (w := w) (mg := mg) (base := base) (b := b_who_slipped) (k := 4) (N := N_who_slipped) F sc_who_slipped bi_who_slipped Z.g_who_slipped (dd_who_slipped Z)
abbrev N_may_have : List Str := ["word", "heard", "told", "since", "at", "known"]
theorem sc_may_have : FnScope N_may_have ["word", "heard"] (defScope s_may_have) := ⟨rfl, rfl, rfl, by decide +kernel, rfl, by decide +kernel, by decide +kernel⟩
def L_may_have_1 : Bd := bIf (fT (f2 notND (vF 5) (cD .none))) (bSeq (bIf (fT (f2 neD (vF 5) (vF 0))) (bExt 2 (f2 lr2D (vF 3) (f2 addD (vF 4) (cD (.int 1))))) (bNext)) (bSeq (bAsg 3 (f2 addD (vF 4) (cD (.int 1)))) (bAsg 0 (vF 5)))) (bNext)
theorem bi_may_have : ∀ (kV doc pm : Value) (an : Option Addr) (cdv ct : Value) (us : List Value), us.length = (["word", "heard"] : List Str).length → bindArgs (PySem.W.fnOf "may_have" "may_have" (defArgs s_may_have) (defBody s_may_have) (defScope s_may_have) .none kV doc pm an cdv ct) ⟨us, []⟩ = pure ((["word", "heard"] : List Str).zip us) :=
  fun _ _ _ _ _ _ us hl => match us, hl with | [_, _], _ => rfl
def b_may_have : Bd := bSeq (bAsgG (fB (Ph_both_of) (aCons (vF 0) (aCons (vF 1) (aNil)))) (sT 2 (sCons (sN 0) (sCons (sN 1) (sNil))))) (bSeq (bOwn 2 (fLst (aNil))) (bSeq (bAsg 3 (cD (.int 0))) (bSeq (bFor (fEnum (vF 1)) (sT 2 (sCons (sN 4) (sCons (sN 5) (sNil)))) (L_may_have_1)) (bRet (fB tupD (aCons (vP 2) (aNil)))))))
def Ph_may_have : List D → Option D := fnB (N_may_have).length (["word", "heard"] : List Str).length b_may_have
theorem dd_may_have (Z : Fx K mg) (cdv : Value) (A : Around) (outer : List Env) (s : Shared) (H : Hp) (E : XK) (hr : Room (4) (A.deeper (envOfC "may_have" (defScope s_may_have) s.heap.objs.size (He.ga K "may_have") cdv))) :
    ∃ W t, DSs (cxOf CX0 P w K mg base N_may_have "may_have" (defScope s_may_have) (He.ga K "may_have") cdv A outer s H E).nox .fz W (defBody s_may_have) t (b_may_have) := ⟨_, _,
  dss_cons (ds_asgG (de_fnK K (ok_both_of Z) hr (by omega) rfl (da_cons (de_v 0) (da_cons (de_v 1) (da_nil)))) (dg_tK K (n := 2) (dgs_cons (dg_n sc_may_have.nd (i := 0)) (dgs_cons (dg_n sc_may_have.nd (i := 1)) (dgs_nil))))) (dss_cons (ds_own (i := 2) (de_lst (da_nil)) sc_may_have.nd) (dss_cons (ds_asg (i := 3) (de_int) sc_may_have.nd) (dss_cons (ds_for (di_enumK K rfl Z.n_enumerate (de_v 1)) (dg_tK K (n := 2) (dgs_cons (dg_n sc_may_have.nd (i := 4)) (dgs_cons (dg_n sc_may_have.nd (i := 5)) (dgs_nil)))) (dss_one (ds_if (dt_cmp L2.op_notN ops_notN rfl (de_v 5) (de_non)) (dss_cons (ds_if (dt_cmp (op_neDK K hr.u64) ops_ne rfl (de_v 5) (de_v 0)) (dss_one (ds_ext (j := 2) (de_lr2 rfl Z.n_list rfl Z.n_range (de_v 3) (de_op (op_addAK K) ops_addA (de_v 4) (de_int))))) (dss_nil)) (dss_cons (ds_asg (i := 3) (de_op (op_addAK K) ops_addA (de_v 4) (de_int)) sc_may_have.nd) (dss_one (ds_asg (i := 0) (de_v 5) sc_may_have.nd)))) (dss_nil)))) (dss_one (ds_ret (de_ct (cr_tupK K) cs_tup rfl Z.n_tuple bt_tuple (da_cons (de_p 2) (da_nil))))))))⟩
theorem ok_may_have (Z : Fx K mg) : Ok P w K mg base 5 "may_have" ["word", "heard"] .fz Ph_may_have := by
  obtain ⟨fd, F⟩ := Z.f_may_have
  exact ok_fz (P := P) (w := w) (mg := mg) (base := base) (b := b_may_have) (k := 4) (N := N_may_have) F sc_may_have bi_may_have Z.g_may_have (dd_may_have Z)
abbrev N_table : List Str := ["word", "words", "heard"]
theorem sc_table : FnScope N_table ["word", "words", "heard"] (defScope s_table) := ⟨rfl, rfl, rfl, by decide +kernel, rfl, by decide +kernel, by decide +kernel⟩
theorem bi_table : ∀ (kV doc pm : Value) (an : Option Addr) (cdv ct : Value) (us : List Value), us.length = (["word", "words", "heard"] : List Str).length → bindArgs (PySem.W.fnOf "table" "table" (defArgs s_table) (defBody s_table) (defScope s_table) .none kV doc pm an cdv ct) ⟨us, []⟩ = pure ((["word", "words", "heard"] : List Str).zip us) :=
  fun _ _ _ _ _ _ us hl => match us, hl with | [_, _, _], _ => rfl
def b_table : Bd := bSeq (bAsgG (fB (Ph_three_of) (aCons (vF 0) (aCons (vF 1) (aCons (vF 2) (aNil))))) (sT 3 (sCons (sN 0) (sCons (sN 1) (sCons (sN 2) (sNil)))))) (bRet (fB (Ph_table_of) (aCons (vF 0) (aCons (vF 1) (aCons (vF 2) (aNil))))))
def Ph_table : List D → Option D := fnB (N_table).length (["word", "words", "heard"] : List Str).length b_table
theorem dd_table (Z : Fx K mg) (cdv : Value) (A : Around) (outer : List Env) (s : Shared) (H : Hp) (E : XK) (hr : Room (8) (A.deeper (envOfC "table" (defScope s_table) s.heap.objs.size (He.ga K "table") cdv))) :
    ∃ W t, DSs (cxOf CX0 P w K mg base N_table "table" (defScope s_table) (He.ga K "table") cdv A outer s H E).nox .fz W (defBody s_table) t (b_table) := ⟨_, _,
  dss_cons (ds_asgG (de_fnK K (ok_three_of Z) hr (by omega) rfl (da_cons (de_v 0) (da_cons (de_v 1) (da_cons (de_v 2) (da_nil))))) (dg_tK K (n := 3) (dgs_cons (dg_n sc_table.nd (i := 0)) (dgs_cons (dg_n sc_table.nd (i := 1)) (dgs_cons (dg_n sc_table.nd (i := 2)) (dgs_nil)))))) (dss_one (ds_ret (de_fnK K (ok_table_of Z) hr (by omega) rfl (da_cons (de_v 0) (da_cons (de_v 1) (da_cons (de_v 2) (da_nil)))))))⟩
theorem ok_table (Z : Fx K mg) : Ok P w K mg base 9 "table" ["word", "words", "heard"] .fz Ph_table := by
  obtain ⟨fd, F⟩ := Z.f_table
  exact ok_fz (P := P) (w := w) (mg := mg) (base := base) (b := b_table) (k := 8) (N := N_table) F sc_table bi_table Z.g_table (dd_table Z)
abbrev N_law : List Str := ["script", "word", "numbers", "heard", "known", "chain", "gaps", "full", "one", "sure", "maybe", "i", "words", "mixed", "rows", "k", "j", "bent", "every", "ranked", "limit", "good", "first", "row", "n", "wrong"]
theorem sc_law : FnScope N_law ["script"] (defScope s_law) := ⟨rfl, rfl, rfl, by decide +kernel, rfl, by decide +kernel, by decide +kernel⟩
def L_law_1 : Bd := bApp 7 (fIf (fT (f2 notND (vF 8) (cD .none))) (vF 8) (fIf (fT (f2 neD (vP 7) (fLst (aNil)))) (f2 ixD (vP 7) (f1 negD (cD (.int 1)))) (vF 1)))
def L_law_2 : Bd := bSeq (bAsg 22 (fIf (fT (f2 gtD (vF 11) (cD (.int 0)))) (f2 addD (f2 ixD (vF 4) (f2 subD (vF 11) (cD (.int 1)))) (cD (.int 1))) (cD (.int 0)))) (bIf (fT (f2 gtD (f2 ixD (vF 6) (vF 11)) (cD (.int 0)))) (bSeq (bAsg 10 (f2 addD (vF 10) (f2 lr2D (vF 22) (f2 addD (f2 ixD (vF 4) (vF 11)) (cD (.int 1)))))) (bIf (fT (f2 eqD (vF 22) (f2 ixD (vF 4) (vF 11)))) (bApp 9 (f2 ixD (vF 4) (vF 11))) (bNext))) (bNext))
theorem bi_law : ∀ (kV doc pm : Value) (an : Option Addr) (cdv ct : Value) (us : List Value), us.length = (["script"] : List Str).length → bindArgs (PySem.W.fnOf "law" "law" (defArgs s_law) (defBody s_law) (defScope s_law) .none kV doc pm an cdv ct) ⟨us, []⟩ = pure ((["script"] : List Str).zip us) :=
  fun _ _ _ _ _ _ us hl => match us, hl with | [_], _ => rfl
def b_law : Bd := bSeq (bAsg 1 (fB (Ph__law_word) (aCons (f2 modD (fB (Ph__law_cell) (aCons (vF 0) (aCons (cD (.int 0)) (aNil)))) (f2 powD (cD (.int 10)) (cD (.int 6)))) (aNil)))) (bSeq (bAsg 2 (fB (Ph__law_numbers) (aCons (vF 0) (aCons (cD (.int 1)) (aCons (f2 addD (cD (.int 1)) (f2 modD (fB (Ph__law_cell) (aCons (vF 0) (aCons (cD (.int 2)) (aNil)))) (cD (.int 4)))) (aNil)))))) (bSeq (bAsg 3 (fB tupD (aCons (fLc (fI (vF 2)) (sN 24) (fYes) (fIf (fT (f2 gtD (f2 modD (fB intD (aCons (f2 fdivD (vF 24) (cD (.int 50))) (aNil))) (cD (.int 3))) (cD (.int 0)))) (fB (Ph__law_word) (aCons (fB intD (aCons (vF 24) (aNil))) (aNil))) (cD .none)) [24]) (aNil)))) (bSeq (bAsg 4 (fLc (fIs rg1D (aCons (fB lenD (aCons (vF 3) (aNil))) (aNil))) (sN 15) (fT (f2 notND (f2 ixD (vF 3) (vF 15)) (cD .none))) (vF 15) [15])) (bSeq (bAsg 5 (f2 addD (fLst (aCons (vF 1) (aNil))) (fLc (fI (vF 4)) (sN 15) (fYes) (f2 ixD (vF 3) (vF 15)) [15]))) (bSeq (bAsg 6 (fB tupD (aCons (fLc (fIs rg1D (aCons (fB lenD (aCons (vF 4) (aNil))) (aNil))) (sN 15) (fYes) (fB (Ph__law_gap) (aCons (f2 ixD (vF 5) (vF 15)) (aCons (f2 ixD (vF 5) (f2 addD (vF 15) (cD (.int 1)))) (aNil)))) [15]) (aNil)))) (bSeq (bOwn 7 (fLst (aNil))) (bSeq (bFor (fI (vF 3)) (sN 8) (L_law_1)) (bSeq (bAsg 7 (fB tupD (aCons (vP 7) (aNil)))) (bSeq (bIf (fOrT (fT (f2 neD (fB (Ph_gap) (aCons (vF 1) (aCons (f2 ixD (vF 7) (f1 negD (cD (.int 1)))) (aNil)))) (fB (Ph__law_gap) (aCons (vF 1) (aCons (f2 ixD (vF 7) (f1 negD (cD (.int 1)))) (aNil)))))) (fOrT (fT (f2 neD (fB (Ph_least) (aCons (vF 1) (aCons (fB (Ph__law_listed 4) (aCons (vF 3) (aNil))) (aNil)))) (fB sumD (aCons (vF 6) (aNil))))) (fOrT (fNotT (fTr (fB (Ph__law_same 4) (aCons (fB (Ph_floor) (aCons (vF 1) (aCons (vF 3) (aNil)))) (aCons (vF 6) (aNil)))))) (fNotT (fTr (fB (Ph__law_same 4) (aCons (fB (Ph_filling) (aCons (vF 1) (aCons (vF 3) (aNil)))) (aCons (vF 7) (aNil))))))))) (bRet (cD (.bool false))) (bNext)) (bSeq (bIf (fNotT (fTr (fB (Ph__law_same 4) (aCons (fB (Ph_slips_of) (aCons (vF 1) (aCons (fB (Ph__law_listed 4) (aCons (vF 7) (aNil))) (aNil)))) (aCons (fB tupD (aCons (fB (Ph__law_slips) (aCons (vF 1) (aCons (vF 7) (aNil)))) (aNil))) (aNil)))))) (bRet (cD (.bool false))) (bNext)) (bSeq (bOwn 9 (fLst (aNil))) (bSeq (bAsg 10 (fLst (aNil))) (bSeq (bFor (fIs rg1D (aCons (fB lenD (aCons (vF 4) (aNil))) (aNil))) (sN 11) (L_law_2)) (bSeq (bIf (fOrT (fNotT (fTr (fB (Ph__law_same 4) (aCons (fB (Ph_who_slipped) (aCons (vF 1) (aCons (vF 3) (aNil)))) (aCons (fB tupD (aCons (vP 9) (aNil))) (aNil)))))) (fNotT (fTr (fB (Ph__law_same 4) (aCons (fB (Ph_may_have) (aCons (vF 1) (aCons (vF 3) (aNil)))) (aCons (fB tupD (aCons (vF 10) (aNil))) (aNil))))))) (bRet (cD (.bool false))) (bNext)) (bSeq (bAsg 12 (fB (Ph__law_words) (aCons (fB (Ph__law_numbers) (aCons (vF 0) (aCons (cD (.int 3)) (aCons (f2 addD (cD (.int 1)) (f2 modD (fB (Ph__law_cell) (aCons (vF 0) (aCons (cD (.int 4)) (aNil)))) (cD (.int 5)))) (aNil))))) (aNil)))) (bSeq (bAsg 13 (fB tupD (aCons (fLc (fIs rg1D (aCons (fB lenD (aCons (vF 3) (aNil))) (aNil))) (sN 15) (fYes) (fIf (fAndT (fT (f2 notND (f2 ixD (vF 3) (vF 15)) (cD .none))) (fT (f2 gtD (f2 modD (fB intD (aCons (f2 fdivD (f2 ixD (vF 2) (vF 15)) (cD (.int 31))) (aNil))) (cD (.int 5))) (cD (.int 0))))) (f2 ixD (vF 12) (f2 modD (fB intD (aCons (f2 fdivD (f2 ixD (vF 2) (vF 15)) (cD (.int 7))) (aNil))) (fB lenD (aCons (vF 12) (aNil))))) (f2 ixD (vF 3) (vF 15))) [15]) (aNil)))) (bSeq (bAsg 14 (fB (Ph__law_table) (aCons (vF 1) (aCons (vF 12) (aCons (vF 13) (aNil)))))) (bSeq (bIf (fOrT (fNotT (fTr (fB (Ph__law_same 4) (aCons (fB (Ph_table) (aCons (vF 1) (aCons (vF 12) (aCons (vF 13) (aNil))))) (aCons (vF 14) (aNil)))))) (fT (f2 notBD (fB (Ph_table_holds) (aCons (vF 1) (aCons (fB (Ph__law_listed 4) (aCons (vF 12) (aNil))) (aCons (vF 13) (aCons (fB (Ph__law_listed 4) (aCons (vF 14) (aNil))) (aNil)))))) (cD (.bool true))))) (bRet (cD (.bool false))) (bNext)) (bSeq (bAsg 15 (f2 modD (fB (Ph__law_cell) (aCons (vF 0) (aCons (cD (.int 5)) (aNil)))) (fB lenD (aCons (vF 14) (aNil))))) (bSeq (bAsg 16 (f2 modD (fB (Ph__law_cell) (aCons (vF 0) (aCons (cD (.int 6)) (aNil)))) (fB lenD (aCons (vF 12) (aNil))))) (bSeq (bAsg 17 (f2 addD (f2 addD (fSl (vF 14) (oNo) (oIs (vF 15))) (fTup (aCons (f2 addD (f2 addD (fSl (f2 ixD (vF 14) (vF 15)) (oNo) (oIs (vF 16))) (fTup (aCons (fIf (fT (f2 isND (f2 ixD (f2 ixD (vF 14) (vF 15)) (vF 16)) (cD .none))) (cD (.int 0)) (f2 addD (f2 ixD (f2 ixD (vF 14) (vF 15)) (vF 16)) (cD (.int 1)))) (aNil)))) (fSl (f2 ixD (vF 14) (vF 15)) (oIs (f2 addD (vF 16) (cD (.int 1)))) (oNo))) (aNil)))) (fSl (vF 14) (oIs (f2 addD (vF 15) (cD (.int 1)))) (oNo)))) (bSeq (bIf (fT (f2 neD (fLc (fI (fLst (aCons (cD (.int 7)) (aCons (fSl (vF 14) (oIs (cD (.int 1))) (oNo)) (aCons (vF 17) (aCons (f2 addD (f2 addD (fSl (vF 14) (oNo) (oIs (vF 15))) (fTup (aCons (fSl (f2 ixD (vF 14) (vF 15)) (oIs (cD (.int 1))) (oNo)) (aNil)))) (fSl (vF 14) (oIs (f2 addD (vF 15) (cD (.int 1)))) (oNo))) (aNil))))))) (sN 25) (fT (f2 notBD (fB (Ph_table_holds) (aCons (vF 1) (aCons (vF 12) (aCons (vF 13) (aCons (vF 25) (aNil)))))) (cD (.bool false)))) (vF 25) [25]) (fLst (aNil)))) (bRet (cD (.bool false))) (bNext)) (bSeq (bAsg 18 (fB (Ph__law_fillings) (aCons (vF 12) (aCons (vF 13) (aNil))))) (bSeq (bAsg 19 (fB sortedD (aCons (fLc (fI (vF 18)) (sN 23) (fYes) (fTup (aCons (fB sumD (aCons (fB (Ph__law_slips) (aCons (vF 1) (aCons (vF 23) (aNil)))) (aNil))) (aCons (vF 23) (aNil)))) [23]) (aNil)))) (bSeq (bIf (fNotT (fTr (fB (Ph__law_same 4) (aCons (fB (Ph_least_by) (aCons (vF 12) (aCons (vF 1) (aCons (fB (Ph__law_listed 4) (aCons (vF 13) (aNil))) (aNil))))) (aCons (fIf (fT (f2 neD (vF 19) (fLst (aNil)))) (f2 ixD (vF 19) (cD (.int 0))) (cD .none)) (aNil)))))) (bRet (cD (.bool false))) (bNext)) (bSeq (bAsg 20 (f2 modD (fB (Ph__law_cell) (aCons (vF 0) (aCons (cD (.int 7)) (aNil)))) (cD (.int 5)))) (bSeq (bAsg 21 (fLc (fI (vF 18)) (sN 23) (fT (f2 leD (fB maxA (aCons (fB (Ph__law_slips) (aCons (vF 1) (aCons (vF 23) (aNil)))) (aNil))) (vF 20))) (vF 23) [23])) (bRet (fB (Ph__law_same 4) (aCons (fB (Ph_most_each) (aCons (vF 12) (aCons (vF 1) (aCons (vF 13) (aCons (vF 20) (aNil)))))) (aCons (fIf (fT (f2 neD (vF 21) (fLst (aNil)))) (f2 ixD (vF 21) (cD (.int 0))) (cD .none)) (aNil))))))))))))))))))))))))))))))))
def Ph_law : List D → Option D := fnB (N_law).length (["script"] : List Str).length b_law
theorem dd_law (Z : Fx K mg) (cdv : Value) (A : Around) (outer : List Env) (s : Shared) (H : Hp) (E : XK) (hr : Room (9) (A.deeper (envOfC "law" (defScope s_law) s.heap.objs.size (He.ga K "law") cdv))) :
    ∃ W t, DSs (cxOf CX0 P w K mg base N_law "law" (defScope s_law) (He.ga K "law") cdv A outer s H E).nox .fz W (defBody s_law) t (b_law) := ⟨_, _,
  dss_cons (ds_asg (i := 1) (de_fnK K (ok__law_word Z) hr (by omega) rfl (da_cons (de_op op_modN ops_mod (de_fnK K (ok__law_cell Z) hr (by omega) rfl (da_cons (de_v 0) (da_cons (de_int) (da_nil)))) (de_op op_pow ops_pow (de_int) (de_int))) (da_nil))) sc_law.nd) (dss_cons (ds_asg (i := 2) (DE.frz (de_fnK K (ok__law_numbers Z) hr (by omega) rfl (da_cons (de_v 0) (da_cons (de_int) (da_cons (de_op (op_addAK K) ops_addA (de_int) (de_op op_modN ops_mod (de_fnK K (ok__law_cell Z) hr (by omega) rfl (da_cons (de_v 0) (da_cons (de_int) (da_nil)))) (de_int))) (da_nil)))))) sc_law.nd) (dss_cons (ds_asg (i := 3) (de_ct (cr_tupK K) cs_tup rfl Z.n_tuple bt_tuple (da_cons (de_lc [("n", 24)] sc_law.nd (di_anyK K (de_v 2)) (blk_of (N := N_law) (sc := defScope s_law) (by decide +kernel)) (fun _ _ _ _ _ => dg_n sc_law.nd (i := 24)) (fun _ _ _ _ _ => dts_nil) (fun _ _ _ _ _ => de_if (dt_cmp (op_gt_K K hr.u64) ops_gt rfl (de_op op_modN ops_mod (de_ct call_int1 cs_int rfl Z.n_int bt_int (da_cons (de_op op_fdivN ops_fdiv (de_v 24) (de_int)) (da_nil))) (de_int)) (de_int)) (de_fnK K (ok__law_word Z) hr (by omega) rfl (da_cons (de_ct call_int1 cs_int rfl Z.n_int bt_int (da_cons (de_v 24) (da_nil))) (da_nil))) (de_non)) (by decide)) (da_nil))) sc_law.nd) (dss_cons (ds_asgLc (i := 4) [("k", 15)] sc_law.nd (di_rg1 rfl Z.n_range (da_cons (de_cb (call_lenK K) cs_len rfl Z.n_len bt_len (da_cons (de_v 3) (da_nil))) (da_nil))) (blk_of (N := N_law) (sc := defScope s_law) (by decide +kernel)) (fun _ _ _ _ _ => dg_n sc_law.nd (i := 15)) (fun _ _ _ _ _ => dts_one (dt_cmp L2.op_notN ops_notN rfl (de_ixK K (de_v 3) (de_v 15)) (de_non))) (fun _ _ _ _ _ => de_v 15) (by decide) (sw_true rfl rfl rfl (by decide +kernel))) (dss_cons (ds_asg (i := 5) (de_op (op_addAK K) ops_addA (de_lst (da_cons (de_v 1) (da_nil))) (de_lc [("k", 15)] sc_law.nd (di_anyK K (de_v 4)) (blk_of (N := N_law) (sc := defScope s_law) (by decide +kernel)) (fun _ _ _ _ _ => dg_n sc_law.nd (i := 15)) (fun _ _ _ _ _ => dts_nil) (fun _ _ _ _ _ => de_ixK K (de_v 3) (de_v 15)) (by decide))) sc_law.nd) (dss_cons (ds_asg (i := 6) (de_ct (cr_tupK K) cs_tup rfl Z.n_tuple bt_tuple (da_cons (de_lc [("k", 15)] sc_law.nd (di_rg1 rfl Z.n_range (da_cons (de_cb (call_lenK K) cs_len rfl Z.n_len bt_len (da_cons (de_v 4) (da_nil))) (da_nil))) (blk_of (N := N_law) (sc := defScope s_law) (by decide +kernel)) (fun _ _ _ _ _ => dg_n sc_law.nd (i := 15)) (fun _ _ _ _ _ => dts_nil) (fun _ _ _ _ _ => de_fnK K (ok__law_gap Z) hr (by omega) rfl (da_cons (de_ixK K (de_v 5) (de_v 15)) (da_cons (de_ixK K (de_v 5) (de_op (op_addAK K) ops_addA (de_v 15) (de_int))) (da_nil)))) (by decide)) (da_nil))) sc_law.nd) (dss_cons (ds_own (i := 7) (de_lst (da_nil)) sc_law.nd) (dss_cons (ds_for (di_anyK K (de_v 3)) (dg_n sc_law.nd (i := 8)) (dss_one (ds_app (j := 7) (de_if (dt_cmp L2.op_notN ops_notN rfl (de_v 8) (de_non)) (de_v 8) (de_if (dt_cmp (op_neDK K hr.u64) ops_ne rfl (de_p 7) (de_lst (da_nil))) (de_ixK K (de_p 7) (de_neg (de_int))) (de_v 1)))))) (dss_cons (ds_asg (i := 7) (de_ct (cr_tupK K) cs_tup rfl Z.n_tuple bt_tuple (da_cons (de_p 7) (da_nil))) sc_law.nd) (dss_cons (ds_if (dt_w (dw_or (dt_cmp (op_neDK K hr.u64) ops_ne rfl (de_fnK K (ok_gap Z) hr (by omega) rfl (da_cons (de_v 1) (da_cons (de_ixK K (de_v 7) (de_neg (de_int))) (da_nil)))) (de_fnK K (ok__law_gap Z) hr (by omega) rfl (da_cons (de_v 1) (da_cons (de_ixK K (de_v 7) (de_neg (de_int))) (da_nil))))) (dw_or (dt_cmp (op_neDK K hr.u64) ops_ne rfl (de_fnK K (ok_least Z) hr (by omega) rfl (da_cons (de_v 1) (da_cons (de_fnK K (ok__law_listed Z 4) hr (by omega) rfl (da_cons (de_v 3) (da_nil))) (da_nil)))) (de_cb (cr_sumAK K rfl) cs_sum rfl Z.n_sum bt_sum (da_cons (de_v 6) (da_nil)))) (dw_or (dt_not (dt_truK K (de_fnK K (ok__law_same Z 4) hr (by omega) rfl (da_cons (de_fnK K (ok_floor Z) hr (by omega) rfl (da_cons (de_v 1) (da_cons (de_v 3) (da_nil)))) (da_cons (de_v 6) (da_nil)))))) (dw_or1 (dt_not (dt_truK K (de_fnK K (ok__law_same Z 4) hr (by omega) rfl (da_cons (de_fnK K (ok_filling Z) hr (by omega) rfl (da_cons (de_v 1) (da_cons (de_v 3) (da_nil)))) (da_cons (de_v 7) (da_nil))))))))))) (dss_one (ds_ret (de_bl))) (dss_nil)) (dss_cons (ds_if (dt_not (dt_truK K (de_fnK K (ok__law_same Z 4) hr (by omega) rfl (da_cons (de_fnK K (ok_slips_of Z) hr (by omega) rfl (da_cons (de_v 1) (da_cons (de_fnK K (ok__law_listed Z 4) hr (by omega) rfl (da_cons (de_v 7) (da_nil))) (da_nil)))) (da_cons (de_ct (cr_tupK K) cs_tup rfl Z.n_tuple bt_tuple (da_cons (de_fnK K (ok__law_slips Z) hr (by omega) rfl (da_cons (de_v 1) (da_cons (de_v 7) (da_nil)))) (da_nil))) (da_nil)))))) (dss_one (ds_ret (de_bl))) (dss_nil)) (dss_cons (ds_own (i := 9) (de_lst (da_nil)) sc_law.nd) (dss_cons (ds_asg (i := 10) (DE.frz (de_lst (da_nil))) sc_law.nd) (dss_cons (ds_for (di_rg1 rfl Z.n_range (da_cons (de_cb (call_lenK K) cs_len rfl Z.n_len bt_len (da_cons (de_v 4) (da_nil))) (da_nil))) (dg_n sc_law.nd (i := 11)) (dss_cons (ds_asg (i := 22) (de_if (dt_cmp (op_gt_K K hr.u64) ops_gt rfl (de_v 11) (de_int)) (de_op (op_addAK K) ops_addA (de_ixK K (de_v 4) (de_op op_sub ops_sub (de_v 11) (de_int))) (de_int)) (de_int)) sc_law.nd) (dss_one (ds_if (dt_cmp (op_gt_K K hr.u64) ops_gt rfl (de_ixK K (de_v 6) (de_v 11)) (de_int)) (dss_cons (ds_asg (i := 10) (de_op (op_addAK K) ops_addA (de_v 10) (de_lr2 rfl Z.n_list rfl Z.n_range (de_v 22) (de_op (op_addAK K) ops_addA (de_ixK K (de_v 4) (de_v 11)) (de_int)))) sc_law.nd) (dss_one (ds_if (dt_cmp (op_eqDK K hr.u64) ops_eq rfl (de_v 22) (de_ixK K (de_v 4) (de_v 11))) (dss_one (ds_app (j := 9) (de_ixK K (de_v 4) (de_v 11)))) (dss_nil)))) (dss_nil))))) (dss_cons (ds_if (dt_w (dw_or (dt_not (dt_truK K (de_fnK K (ok__law_same Z 4) hr (by omega) rfl (da_cons (de_fnK K (ok_who_slipped Z) hr (by omega) rfl (da_cons (de_v 1) (da_cons (de_v 3) (da_nil)))) (da_cons (de_ct (cr_tupK K) cs_tup rfl Z.n_tuple bt_tuple (da_cons (de_p 9) (da_nil))) (da_nil)))))) (dw_or1 (dt_not (dt_truK K (de_fnK K (ok__law_same Z 4) hr (by omega) rfl (da_cons (de_fnK K (ok_may_have Z) hr (by omega) rfl (da_cons (de_v 1) (da_cons (de_v 3) (da_nil)))) (da_cons (de_ct (cr_tupK K) cs_tup rfl Z.n_tuple bt_tuple (da_cons (de_v 10) (da_nil))) (da_nil))))))))) (dss_one (ds_ret (de_bl))) (dss_nil)) (dss_cons (ds_asg (i := 12) (de_fnK K (ok__law_words Z) hr (by omega) rfl (da_cons (DE.frz (de_fnK K (ok__law_numbers Z) hr (by omega) rfl (da_cons (de_v 0) (da_cons (de_int) (da_cons (de_op (op_addAK K) ops_addA (de_int) (de_op op_modN ops_mod (de_fnK K (ok__law_cell Z) hr (by omega) rfl (da_cons (de_v 0) (da_cons (de_int) (da_nil)))) (de_int))) (da_nil)))))) (da_nil))) sc_law.nd) (dss_cons (ds_asg (i := 13) (de_ct (cr_tupK K) cs_tup rfl Z.n_tuple bt_tuple (da_cons (de_lc [("k", 15)] sc_law.nd (di_rg1 rfl Z.n_range (da_cons (de_cb (call_lenK K) cs_len rfl Z.n_len bt_len (da_cons (de_v 3) (da_nil))) (da_nil))) (blk_of (N := N_law) (sc := defScope s_law) (by decide +kernel)) (fun _ _ _ _ _ => dg_n sc_law.nd (i := 15)) (fun _ _ _ _ _ => dts_nil) (fun _ _ _ _ _ => de_if (dt_w (dw_and (dt_cmp L2.op_notN ops_notN rfl (de_ixK K (de_v 3) (de_v 15)) (de_non)) (dw_and1 (dt_cmp (op_gt_K K hr.u64) ops_gt rfl (de_op op_modN ops_mod (de_ct call_int1 cs_int rfl Z.n_int bt_int (da_cons (de_op op_fdivN ops_fdiv (de_ixK K (de_v 2) (de_v 15)) (de_int)) (da_nil))) (de_int)) (de_int))))) (de_ixK K (de_v 12) (de_op op_modN ops_mod (de_ct call_int1 cs_int rfl Z.n_int bt_int (da_cons (de_op op_fdivN ops_fdiv (de_ixK K (de_v 2) (de_v 15)) (de_int)) (da_nil))) (de_cb (call_lenK K) cs_len rfl Z.n_len bt_len (da_cons (de_v 12) (da_nil))))) (de_ixK K (de_v 3) (de_v 15))) (by decide)) (da_nil))) sc_law.nd) (dss_cons (ds_asg (i := 14) (de_fnK K (ok__law_table Z) hr (by omega) rfl (da_cons (de_v 1) (da_cons (de_v 12) (da_cons (de_v 13) (da_nil))))) sc_law.nd) (dss_cons (ds_if (dt_w (dw_or (dt_not (dt_truK K (de_fnK K (ok__law_same Z 4) hr (by omega) rfl (da_cons (de_fnK K (ok_table Z) hr (by omega) rfl (da_cons (de_v 1) (da_cons (de_v 12) (da_cons (de_v 13) (da_nil))))) (da_cons (de_v 14) (da_nil)))))) (dw_or1 (dt_cmp op_notBl ops_notB rfl (de_fnK K (ok_table_holds Z) hr (by omega) rfl (da_cons (de_v 1) (da_cons (de_fnK K (ok__law_listed Z 4) hr (by omega) rfl (da_cons (de_v 12) (da_nil))) (da_cons (de_v 13) (da_cons (de_fnK K (ok__law_listed Z 4) hr (by omega) rfl (da_cons (de_v 14) (da_nil))) (da_nil)))))) (de_bl))))) (dss_one (ds_ret (de_bl))) (dss_nil)) (dss_cons (ds_asg (i := 15) (de_op op_modN ops_mod (de_fnK K (ok__law_cell Z) hr (by omega) rfl (da_cons (de_v 0) (da_cons (de_int) (da_nil)))) (de_cb (call_lenK K) cs_len rfl Z.n_len bt_len (da_cons (de_v 14) (da_nil)))) sc_law.nd) (dss_cons (ds_asg (i := 16) (de_op op_modN ops_mod (de_fnK K (ok__law_cell Z) hr (by omega) rfl (da_cons (de_v 0) (da_cons (de_int) (da_nil)))) (de_cb (call_lenK K) cs_len rfl Z.n_len bt_len (da_cons (de_v 12) (da_nil)))) sc_law.nd) (dss_cons (ds_asg (i := 17) (de_op (op_addAK K) ops_addA (de_op (op_addAK K) ops_addA (de_slK K (de_v 14) (do_no) (do_is (de_v 15))) (de_tup (da_cons (de_op (op_addAK K) ops_addA (de_op (op_addAK K) ops_addA (de_slK K (de_ixK K (de_v 14) (de_v 15)) (do_no) (do_is (de_v 16))) (de_tup (da_cons (de_if (dt_cmp L2.op_isN ops_isN rfl (de_ixK K (de_ixK K (de_v 14) (de_v 15)) (de_v 16)) (de_non)) (de_int) (de_op (op_addAK K) ops_addA (de_ixK K (de_ixK K (de_v 14) (de_v 15)) (de_v 16)) (de_int))) (da_nil)))) (de_slK K (de_ixK K (de_v 14) (de_v 15)) (do_is (de_op (op_addAK K) ops_addA (de_v 16) (de_int))) (do_no))) (da_nil)))) (de_slK K (de_v 14) (do_is (de_op (op_addAK K) ops_addA (de_v 15) (de_int))) (do_no))) sc_law.nd) (dss_cons (ds_if (dt_cmp (op_neDK K hr.u64) ops_ne rfl (de_lc [("wrong", 25)] sc_law.nd (di_anyK K (DE.frz (de_lst (da_cons (de_int) (da_cons (de_slK K (de_v 14) (do_is (de_int)) (do_no)) (da_cons (de_v 17) (da_cons (de_op (op_addAK K) ops_addA (de_op (op_addAK K) ops_addA (de_slK K (de_v 14) (do_no) (do_is (de_v 15))) (de_tup (da_cons (de_slK K (de_ixK K (de_v 14) (de_v 15)) (do_is (de_int)) (do_no)) (da_nil)))) (de_slK K (de_v 14) (do_is (de_op (op_addAK K) ops_addA (de_v 15) (de_int))) (do_no))) (da_nil)))))))) (blk_of (N := N_law) (sc := defScope s_law) (by decide +kernel)) (fun _ _ _ _ _ => dg_n sc_law.nd (i := 25)) (fun _ _ _ _ _ => dts_one (dt_cmp op_notBl ops_notB rfl (de_fnK K (ok_table_holds Z) hr (by omega) rfl (da_cons (de_v 1) (da_cons (de_v 12) (da_cons (de_v 13) (da_cons (de_v 25) (da_nil)))))) (de_bl))) (fun _ _ _ _ _ => de_v 25) (by decide)) (de_lst (da_nil))) (dss_one (ds_ret (de_bl))) (dss_nil)) (dss_cons (ds_asg (i := 18) (de_fnK K (ok__law_fillings Z) hr (by omega) rfl (da_cons (de_v 12) (da_cons (de_v 13) (da_nil)))) sc_law.nd) (dss_cons (ds_asg (i := 19) (DE.frz (de_cb (cr_srtK K hr.u70) cs_srt rfl Z.n_sorted bt_sorted (da_cons (de_lc [("row", 23)] sc_law.nd (di_anyK K (de_v 18)) (blk_of (N := N_law) (sc := defScope s_law) (by decide +kernel)) (fun _ _ _ _ _ => dg_n sc_law.nd (i := 23)) (fun _ _ _ _ _ => dts_nil) (fun _ _ _ _ _ => de_tup (da_cons (de_cb (cr_sumAK K rfl) cs_sum rfl Z.n_sum bt_sum (da_cons (de_fnK K (ok__law_slips Z) hr (by omega) rfl (da_cons (de_v 1) (da_cons (de_v 23) (da_nil)))) (da_nil))) (da_cons (de_v 23) (da_nil)))) (by decide)) (da_nil)))) sc_law.nd) (dss_cons (ds_if (dt_not (dt_truK K (de_fnK K (ok__law_same Z 4) hr (by omega) rfl (da_cons (de_fnK K (ok_least_by Z) hr (by omega) rfl (da_cons (de_v 12) (da_cons (de_v 1) (da_cons (de_fnK K (ok__law_listed Z 4) hr (by omega) rfl (da_cons (de_v 13) (da_nil))) (da_nil))))) (da_cons (de_if (dt_cmp (op_neDK K hr.u64) ops_ne rfl (de_v 19) (de_lst (da_nil))) (de_ixK K (de_v 19) (de_int)) (de_non)) (da_nil)))))) (dss_one (ds_ret (de_bl))) (dss_nil)) (dss_cons (ds_asg (i := 20) (de_op op_modN ops_mod (de_fnK K (ok__law_cell Z) hr (by omega) rfl (da_cons (de_v 0) (da_cons (de_int) (da_nil)))) (de_int)) sc_law.nd) (dss_cons (ds_asgLc (i := 21) [("row", 23)] sc_law.nd (di_anyK K (de_v 18)) (blk_of (N := N_law) (sc := defScope s_law) (by decide +kernel)) (fun _ _ _ _ _ => dg_n sc_law.nd (i := 23)) (fun _ _ _ _ _ => dts_one (dt_cmp (op_le_K K hr.u64) ops_le rfl (de_cb (cr_maxAK K rfl hr.u70) cs_maxA rfl Z.n_max bt_max (da_cons (de_fnK K (ok__law_slips Z) hr (by omega) rfl (da_cons (de_v 1) (da_cons (de_v 23) (da_nil)))) (da_nil))) (de_v 20))) (fun _ _ _ _ _ => de_v 23) (by decide) (sw_true rfl rfl rfl (by decide +kernel))) (dss_one (ds_ret (de_fnK K (ok__law_same Z 4) hr (by omega) rfl (da_cons (de_fnK K (ok_most_each Z) hr (by omega) rfl (da_cons (de_v 12) (da_cons (de_v 1) (da_cons (de_v 13) (da_cons (de_v 20) (da_nil)))))) (da_cons (de_if (dt_cmp (op_neDK K hr.u64) ops_ne rfl (de_v 21) (de_lst (da_nil))) (de_ixK K (de_v 21) (de_int)) (de_non)) (da_nil)))))))))))))))))))))))))))))))))⟩
theorem ok_law (Z : Fx K mg) {fd : FuncData} (F : FunD K "law" "law" (defArgs s_law) (defBody s_law) (defScope s_law) [] [] (He.ga K "law") fd) : FnOk P w K mg base CX0 10 (He.ga K "law") fd ["script"] (spM K .fz Ph_law) :=
  law_fz (P := P) (w := w) (mg := mg) (base := base) (b := b_law) (k := 9) (N := N_law) F sc_law (dd_law Z)
end
end Hd
open PySem PySem.W PySem.Calls PyProof.Rows
theorem law_from (hlaw : ∀ ns : List Int, ns.length ≤ 63 → Hd.Ph_law [.list (ns.map .int)] = some (.bool true)) : PySem.Challenge.rw_playground_k35_whispers_by_tables_whole.Holds := by
  w_on; o_law
  refine HandSHeadRun.head_any (r := OpenLaw.row PySem.Challenge.rw_playground_k35_whispers_by_tables_whole) (q := view (OpenLaw.row PySem.Challenge.rw_playground_k35_whispers_by_tables_whole).prog [52]) (H := Hd.hk) (ob := Hd.ob) (M := 4000) (loose := Hd.loose) (d := HandSHeadRun.topDef (OpenLaw.row PySem.Challenge.rw_playground_k35_whispers_by_tables_whole).prog 52) (kwd := []) Hd.ob_eq
    (by kernel_rfl) (fun s => by kernel_rfl) Hd.run (by kernel_rfl) (by kernel_rfl) (by kernel_rfl) (by rfl) (by first | assumption | decide +kernel) (by decide +kernel) ⟨rfl, rfl, rfl, rfl, rfl, by decide +kernel⟩ ?hw ?hc
  case hw => w_witness2
  case hc =>
    refine L2.walk_ofE (l := PySem.Challenge.rw_playground_k35_whispers_by_tables_whole) (n := 63) (k := 10) (x := "script") (CX := L2.CX0) rfl (by decide) (by kernel_rfl) ⟨rfl, by decide, by decide⟩ ?F (fun _ _ _ _ z => z)
    intro w mg fa h Y G hmg0
    obtain ⟨K, KX, c, c2⟩ := Y
    have hmg : mg ("law" : PySem.Str) = some (.ref fa) := by
      have e : (HandSHeadRun.topDef (OpenLaw.row PySem.Challenge.rw_playground_k35_whispers_by_tables_whole).prog 52).name = ("law" : PySem.Str) := by kernel_rfl
      rw [← e]
      exact hmg0
    have Z := Hd.fx_ok KX G c c2
    obtain ⟨fd, FB⟩ := Z.f_law
    have e := hmg.symm.trans Z.g_law
    cases e
    have b := L2.FunD.bindsA (ps := ["script"]) FB fun _ _ _ _ _ _ us hl => match us, hl with | [_], _ => rfl
    refine ⟨K, fd, Q.spM K .fz Hd.Ph_law, KX, fun s v => b s [v] rfl, fun H a ns hl hO hS => ?_, fun base _ _ => ?_⟩
    · exact ⟨H, [.list (ns.map .int)], .bool true, .refl _, .cons (.lst hS (Q.RepA.of_ints ns)) .nil, hlaw ns hl, fun v F' H' _ r => Q.Rep.bl_of r⟩
    · exact Hd.ok_law Z FB
end

/-! part: K35a -/
section
set_option Elab.async false
set_option linter.all false
set_option maxRecDepth 100000
set_option maxHeartbeats 400000
namespace Hd
open PySem PySem.Spec Q
theorem e_is_int (v : Int) : Ph_is_int [.int v] = some (.bool true) := by
  simp -implicitDefEqProofs [Ph_is_int, b_is_int]
theorem e_is_within (v a b : Int) : Ph_is_within [.int v, .int a, .int b] = some (.bool (decide (a ≤ v) && decide (v ≤ b))) := by
  simp -implicitDefEqProofs [Ph_is_within, b_is_within, e_is_int]
  split <;> simp_all <;> omega
theorem e_need_within (at_ : D) (v a b : Int) (h : a ≤ v ∧ v ≤ b) : Ph_need_within [at_, .int v, .int a, .int b] = some (.int v) := by
  simp -implicitDefEqProofs [Ph_need_within, b_need_within, e_is_within, h.1, h.2]
theorem e_need_t (at_ : D) (ds : List D) : Ph_need [at_, .tuple ds] = some (.tuple ds) := by
  simp -implicitDefEqProofs [Ph_need, b_need]
theorem e_is_seq_l (ds : List D) : Ph_is_seq [.list ds] = some (.bool true) := by
  simp -implicitDefEqProofs [Ph_is_seq, b_is_seq]
theorem e_is_seq_t (ds : List D) : Ph_is_seq [.tuple ds] = some (.bool true) := by
  simp -implicitDefEqProofs [Ph_is_seq, b_is_seq]
theorem e_to_row_l (ds : List D) (a b : Int) (h : a ≤ ds.length ∧ (ds.length : Int) ≤ b) : Ph_to_row [.list ds, .int a, .int b] = some (.tuple ds) := by
  simp -implicitDefEqProofs [Ph_to_row, b_to_row, e_is_seq_l, h.1, h.2]
theorem e_to_row_t (ds : List D) (a b : Int) (h : a ≤ ds.length ∧ (ds.length : Int) ≤ b) : Ph_to_row [.tuple ds, .int a, .int b] = some (.tuple ds) := by
  simp -implicitDefEqProofs [Ph_to_row, b_to_row, e_is_seq_t, h.1, h.2]
theorem e_cell (ns : List Int) (k : Nat) : Ph__law_cell [.list (ns.map .int), .int k] = some (.int (ns.getD k 0)) := by
  simp -implicitDefEqProofs [Ph__law_cell, b__law_cell]
  split
  · rename_i h
    rw [atI_nat (by simpa using h)]
    simp -implicitDefEqProofs [h]
  · rename_i h
    simp -implicitDefEqProofs [List.getElem?_eq_none (Nat.not_lt.mp h)]
theorem e_numbers (ns : List Int) (spot : Nat) (k : Nat) (hk : k ≤ 1000) : ∃ l : List Int, l.length = k ∧ Ph__law_numbers [.list (ns.map .int), .int spot, .int k] = some (.list (l.map .int)) := by
  simp -implicitDefEqProofs [Ph__law_numbers, b__law_numbers, e_cell, rg1_n (k := k) (by omega)]
  generalize hc : ns[spot]?.getD 0 = c
  obtain ⟨ρ', h1, l, r, s6, s7, h2, h3⟩ := forL_ex (step := turnD (sN 6) L__law_numbers_1) (xs := List.range k) (mk := fun i => .int (i : Nat)) (fun (j : Nat) (ρ : Rho) => ∃ (l : List Int) (r : Int) (s6 s7 : Sl), l.length = j ∧ ρ = [.im (.list (ns.map .int)), .im (.int spot), .im (.int k), .im (.int c), .ow (.list (l.map .int)), .im (.int r), s6, s7])
    _ ⟨[], c, .un, .un, rfl, rfl⟩ (by
      rintro j ρ x ⟨l, r, s6, s7, rfl, rfl⟩ hx
      have hlt : l.length < k := by
        have := (List.getElem?_eq_some_iff.mp hx).1
        simpa using this
      have hs : l.length < sizeLine := by have := line_ge; omega
      by_cases h : (1000000000000000000 : Int) ≤ c
      · refine ⟨[.im (.list (ns.map .int)), .im (.int spot), .im (.int k), .im (.int c), .ow (.list ((l ++ [r % (10 ^ 9)]).map .int)), .im (.int (r / (10 ^ 9))), .im (.int x), s7], .inl ?_, _, _, _, _, by simp, rfl⟩
        simp -implicitDefEqProofs [L__law_numbers_1, h, hs]
      · refine ⟨[.im (.list (ns.map .int)), .im (.int spot), .im (.int k), .im (.int c), .ow (.list ((l ++ [((((c * 48271 + ((x : Int) + 1) * 69621 + spot) % 2147483647) * 16807 + ((x : Int) + 3) * 40692) % 2147483399) % (10 ^ 9)]).map .int)), .im (.int r), .im (.int x), .im (.int ((c * 48271 + ((x : Int) + 1) * 69621 + spot) % 2147483647))], .inl ?_, _, _, _, _, by simp, rfl⟩
        simp -implicitDefEqProofs [L__law_numbers_1, h, hs])
  rw [List.map_nil] at h1
  rw [h1]
  subst h3
  refine ⟨l, by simpa using h2, ?_⟩
  simp
/-! ### the rhymes -/
theorem e_listed_i (n : Nat) (i : Int) : Ph__law_listed (n + 1) [.int i] = some (.int i) := by
  simp -implicitDefEqProofs [Ph__law_listed, b__law_listed]
theorem e_listed (ws : List Int) (h : ws.length ≤ 1000) : Ph__law_listed 4 [.tuple (ws.map .int)] = some (.list (ws.map .int)) := by
  have e := e_listed_i 2
  rw [Ph__law_listed]
  generalize Ph__law_listed 3 = φ at *
  simp -implicitDefEqProofs [b__law_listed]
  rw [lcL_all (g := fun n => .int n) (by simp) (fun n hn => by simp [e]), Option.bind_some, Function.comp, lcB_small (by simp; omega)]
  simp
theorem e_same_i (n : Nat) (i j : Int) : Ph__law_same (n + 1) [.int i, .int j] = some (.bool (i == j)) := by
  simp -implicitDefEqProofs [Ph__law_same, b__law_same]
theorem e_same (ns ms : List Int) (h : ns.length ≤ 1000) : Ph__law_same 4 [.tuple (ns.map .int), .tuple (ms.map .int)] = some (.bool (decide (ns = ms))) := by
  have e := e_same_i 2
  rw [Ph__law_same]
  generalize Ph__law_same 3 = φ at *
  simp -implicitDefEqProofs [b__law_same, rg1_n (k := ns.length) (by omega)]
  by_cases hl : ns.length = ms.length
  · rw [lcL_map (p := fun k => !(ns.getD k 0 == ms.getD k 0)) (g := fun k => .int (k : Nat)) (fun k hk => by
      have hk' : k < ns.length := by simpa using hk
      simp [at_n ns hk', at_n ms (by omega : k < ms.length), e]) (fun k hk _ => by simp), Option.bind_some, lcB_small (by
        have := List.length_filter_le (fun k => !(ns.getD k 0 == ms.getD k 0)) (List.range ns.length)
        simp only [List.length_map, List.length_range] at *
        omega), Option.bind_some, eq_f0, same_filter hl]
    simp [hl]
  · have hne : ns ≠ ms := fun z => hl (by rw [z])
    have hl' : ¬ (ns.length : Int) = ms.length := by omega
    simp [hl', hne]
theorem e_listed_g : ∀ (n : Nat) (d : D), tame n d = true → Ph__law_listed n [d] = some (lstd n d)
  | 0, d, h => by cases d <;> cases h
  | n + 1, .int i, _ => e_listed_i n i
  | n + 1, .bool i, _ => by simp -implicitDefEqProofs [Ph__law_listed, b__law_listed]; rfl
  | n + 1, .none, _ => by simp -implicitDefEqProofs [Ph__law_listed, b__law_listed]; rfl
  | n + 1, .str s, _ => by simp -implicitDefEqProofs [Ph__law_listed, b__law_listed]; rfl
  | n + 1, .list s, h => by cases h
  | n + 1, .dict s, h => by cases h
  | n + 1, .tuple ds, h => by
    obtain ⟨h1, h2⟩ := tame_t h
    have ih : ∀ d ∈ ds, Ph__law_listed n [d] = some (lstd n d) := fun d hd => e_listed_g n d (h2 d hd)
    rw [Ph__law_listed]
    generalize Ph__law_listed n = φ at *
    have e := lcL_all (α := D) (xs := ds) (mk := id) (g := lstd n) (tt := fun d => fYes ([Sl.im (.tuple ds), .un].set 1 (.im d))) (te := fun d => fB φ (aCons (vF 1) aNil) ([Sl.im (.tuple ds), .un].set 1 (.im d))) (by simp) (fun d hd => by simp [ih d hd])
    rw [List.map_id] at e
    simp -implicitDefEqProofs [b__law_listed]
    simp -implicitDefEqProofs at e
    rw [e, Option.bind_some, Function.comp, lcB_small (by simp; omega)]
    simp [lstd]
theorem e_same_r : ∀ (n : Nat) (d : D), tame n d = true → Ph__law_same n [d, d] = some (.bool true)
  | 0, d, h => by cases d <;> cases h
  | n + 1, .int i, _ => by simp -implicitDefEqProofs [Ph__law_same, b__law_same]
  | n + 1, .bool i, _ => by simp -implicitDefEqProofs [Ph__law_same, b__law_same]
  | n + 1, .none, _ => by simp -implicitDefEqProofs [Ph__law_same, b__law_same]
  | n + 1, .str s, h => by simp -implicitDefEqProofs [Ph__law_same, b__law_same, eq_str (x := s) h]
  | n + 1, .list s, h => by cases h
  | n + 1, .dict s, h => by cases h
  | n + 1, .tuple ds, h => by
    obtain ⟨h1, h2⟩ := tame_t h
    have ih : ∀ d ∈ ds, Ph__law_same n [d, d] = some (.bool true) := fun d hd => e_same_r n d (h2 d hd)
    rw [Ph__law_same]
    generalize Ph__law_same n = φ at *
    have e0 : eqD (.list []) (.list []) = some (.bool true) := rfl
    simp -implicitDefEqProofs [b__law_same, rg1_n (k := ds.length) (by omega)]
    rw [lcL_map (p := fun k => false) (g := fun k => .int (k : Nat)) (fun k hk => by
      have hk' : k < ds.length := by simpa using hk
      simp [atI_nat hk', ih _ (List.getElem_mem hk')]) (fun k hk _ => by simp), Option.bind_some, lcB_small (by rw [List.length_map, List.filter_eq_nil_iff.mpr (by simp)]; simp)]
    simp [e0]
end Hd
end

/-! part: K35b -/
section
set_option Elab.async false
set_option linter.all false
set_option maxRecDepth 100000
set_option maxHeartbeats 400000
namespace Hd
open PySem PySem.Spec Q
abbrev W := List (Fin 3)
def Dm (a b : W) : Nat → Nat → Int
  | 0, j => j
  | i + 1, 0 => (i : Int) + 1
  | i + 1, j + 1 => min (min (Dm a b i j + (if a.getD i 0 = b.getD j 0 then 0 else 1)) (Dm a b i (j + 1) + 1)) (Dm a b (i + 1) j + 1)
termination_by i j => (i, j)
theorem Dm_0 (a b : W) (j : Nat) : Dm a b 0 j = j := by rw [Dm]
theorem Dm_s0 (a b : W) (i : Nat) : Dm a b (i + 1) 0 = (i : Int) + 1 := by rw [Dm]
theorem Dm_ss (a b : W) (i j : Nat) : Dm a b (i + 1) (j + 1) = min (min (Dm a b i j + (if a.getD i 0 = b.getD j 0 then 0 else 1)) (Dm a b i (j + 1) + 1)) (Dm a b (i + 1) j + 1) := by rw [Dm]
theorem Dm_i0 (a b : W) (i : Nat) : Dm a b i 0 = i := by
  cases i with
  | zero => rw [Dm_0]
  | succ i => rw [Dm_s0]; omega
theorem Dm_symm (a b : W) : ∀ i j, Dm a b i j = Dm b a j i
  | 0, j => by rw [Dm_0, Dm_i0]
  | i + 1, 0 => by rw [Dm_i0, Dm_0]
  | i + 1, j + 1 => by
    rw [Dm_ss, Dm_ss, Dm_symm a b i j, Dm_symm a b i (j + 1), Dm_symm a b (i + 1) j]
    by_cases e : a.getD i 0 = b.getD j 0
    · rw [if_pos e, if_pos e.symm]; omega
    · rw [if_neg e, if_neg fun z => e z.symm]; omega
termination_by i j => (i, j)
theorem take_s {α : Type} (d : α) (l : List α) (i : Nat) (h : i < l.length) : l.take (i + 1) = l.take i ++ [l.getD i d] := by
  rw [List.take_add_one]
  simp [h]
theorem Dm_zero (a b : W) : ∀ i j, i ≤ a.length → j ≤ b.length → 0 ≤ Dm a b i j ∧ (Dm a b i j = 0 ↔ a.take i = b.take j)
  | 0, j, _, hj => by
    rw [Dm_0, List.take_zero]
    refine ⟨by omega, ?_⟩
    constructor
    · intro h
      have : j = 0 := by omega
      subst this
      rfl
    · intro h
      have := congrArg List.length h
      simp at this
      omega
  | i + 1, 0, hi, _ => by
    rw [Dm_s0, List.take_zero]
    refine ⟨by omega, ?_⟩
    constructor
    · intro h; omega
    · intro h
      have : (a.take (i + 1)).length = 0 := by rw [h]; rfl
      rw [List.length_take] at this
      omega
  | i + 1, j + 1, hi, hj => by
    obtain ⟨p1, q1⟩ := Dm_zero a b i j (by omega) (by omega)
    obtain ⟨p2, q2⟩ := Dm_zero a b i (j + 1) (by omega) hj
    obtain ⟨p3, q3⟩ := Dm_zero a b (i + 1) j hi (by omega)
    rw [Dm_ss, take_s 0 a i (by omega), take_s 0 b j (by omega)]
    by_cases e : a.getD i 0 = b.getD j 0
    · rw [if_pos e]
      refine ⟨by omega, ?_⟩
      constructor
      · intro h
        have : Dm a b i j = 0 := by omega
        rw [q1.mp this, e]
      · intro h
        have h2 := (List.append_inj' h rfl).1
        have := q1.mpr h2
        omega
    · rw [if_neg e]
      refine ⟨by omega, ?_⟩
      constructor
      · intro h; omega
      · intro h
        have h2 := (List.append_inj' h rfl).2
        simp at h2
        exact absurd (by simpa using h2) e
termination_by i j => (i, j)
def gp (a b : W) : Int := Dm a b a.length b.length
theorem gp_symm (a b : W) : gp a b = gp b a := Dm_symm ..
theorem gp_nonneg (a b : W) : 0 ≤ gp a b := (Dm_zero a b _ _ (Nat.le_refl _) (Nat.le_refl _)).1
theorem gp_zero (a b : W) : gp a b = 0 ↔ a = b := by
  have := (Dm_zero a b _ _ (Nat.le_refl _) (Nat.le_refl _)).2
  simpa [gp] using this
theorem gp_pos (a b : W) : 0 < gp a b ↔ a ≠ b := by
  have h1 := gp_nonneg a b
  have h2 := gp_zero a b
  constructor
  · intro h e; have := h2.mpr e; omega
  · intro h
    have : gp a b ≠ 0 := fun z => h (h2.mp z)
    omega
theorem Dm_le (a b : W) : ∀ i j, Dm a b i j ≤ i + j
  | 0, j => by rw [Dm_0]; omega
  | i + 1, 0 => by rw [Dm_s0]; omega
  | i + 1, j + 1 => by
    have := Dm_le a b i (j + 1)
    rw [Dm_ss]
    omega
def lc (c : Fin 3) : Nat := if c = 0 then 97 else if c = 1 then 98 else 116
def wS (w : W) : Str := ⟨(w.map lc).toArray⟩
def wD (w : W) : D := .str (wS w)
theorem lc_inj : ∀ a b : Fin 3, lc a = lc b ↔ a = b := by decide
theorem lc_lt : ∀ a b : Fin 3, lc a < lc b ↔ a < b := by decide
theorem map_lc : ∀ a b : W, a.map lc = b.map lc ↔ a = b
  | [], [] => by simp
  | [], _ :: _ => by simp
  | _ :: _, [] => by simp
  | a :: as, b :: bs => by simp [lc_inj, map_lc as bs]
theorem wS_inj (a b : W) : wS a = wS b ↔ a = b := by
  unfold wS
  rw [Str.mk.injEq, ← map_lc a b]
  constructor
  · intro h; simpa using congrArg Array.toList h
  · intro h; rw [h]
theorem wD_inj (a b : W) : wD a = wD b ↔ a = b := by unfold wD; rw [PyData.str.injEq, wS_inj]
theorem nice_w : Nice 0 wD := ⟨fun w => by
    show PyData.strOk (wS w) = true
    simp only [PyData.strOk, wS]
    rw [Array.all_eq_true]
    intro i hi
    simp only [List.getElem_toArray, List.getElem_map, decide_eq_true_eq]
    have : ∀ c : Fin 3, lc c < 0x110000 := by decide
    exact this _, fun _ => Nat.le_refl _, fun a b => by
    show (wS a == wS b) = _
    by_cases e : a = b
    · subst e; simp
    · have : ¬ wS a = wS b := fun z => e ((wS_inj a b).mp z)
      simp [e, this]⟩
/-- the words' order -/
def wlt : W → W → Bool
  | [], [] => false
  | [], _ :: _ => true
  | _ :: _, [] => false
  | a :: as, b :: bs => if a = b then wlt as bs else decide (a < b)
theorem wlt_lc : ∀ a b : W, decide (a.map lc < b.map lc) = wlt a b
  | [], [] => by simp [wlt]
  | [], _ :: _ => by simp [wlt]
  | _ :: _, [] => by simp [wlt]
  | a :: as, b :: bs => by
    have ih := wlt_lc as bs
    rw [wlt, ← ih]
    by_cases e : a = b
    · subst e; simp [List.cons_lt_cons_iff]
    · have := lc_lt a b
      have := lc_inj a b
      simp [List.cons_lt_cons_iff, e, *]
theorem ordd_w : Ordd wD wlt := ⟨fun _ _ => by simp [wD, PySem.W.alike], fun a b => by
    unfold wD
    rw [PySem.W.dataLt_str, ← wlt_lc]
    have e : ∀ w, (wS w).cps.toList = w.map lc := fun w => by simp [wS]
    rw [e, e], fun _ z => nomatch z⟩
theorem wlt_irr : ∀ a : W, wlt a a = false
  | [] => rfl
  | a :: as => by simp [wlt, wlt_irr as]
theorem wlt_tot : ∀ a b : W, a ≠ b → wlt a b = !wlt b a
  | [], [], h => absurd rfl h
  | [], _ :: _, _ => rfl
  | _ :: _, [], _ => rfl
  | a :: as, b :: bs, h => by
    rw [wlt, wlt]
    by_cases e : a = b
    · subst e
      simp only [if_true]
      exact wlt_tot as bs fun z => h (by rw [z])
    · rw [if_neg e, if_neg (Ne.symm e)]
      rw [← decide_not]
      congr 1
      apply propext
      omega
theorem wlt_trans : ∀ a b c : W, wlt a b = true → wlt b c = true → wlt a c = true
  | [], [], _, h, _ => by simp [wlt] at h
  | [], _ :: _, [], _, h => by simp [wlt] at h
  | [], _ :: _, _ :: _, _, _ => rfl
  | _ :: _, [], _, h, _ => by simp [wlt] at h
  | _ :: _, _ :: _, [], _, h => by simp [wlt] at h
  | a :: as, b :: bs, c :: cs, h1, h2 => by
    rw [wlt] at h1 h2 ⊢
    by_cases e : a = b
    · subst e
      rw [if_pos rfl] at h1
      by_cases e2 : a = c
      · subst e2
        rw [if_pos rfl] at h2 ⊢
        exact wlt_trans as bs cs h1 h2
      · rw [if_neg e2] at h2 ⊢
        exact h2
    · rw [if_neg e] at h1
      by_cases e2 : b = c
      · subst e2
        rw [if_neg e]
        exact h1
      · rw [if_neg e2] at h2
        have h1 := of_decide_eq_true h1
        have h2 := of_decide_eq_true h2
        rw [if_neg (by omega)]
        exact decide_eq_true (by omega)
/-! rows of coded things -/
def rlt {α : Type} [DecidableEq α] (lt : α → α → Bool) : List α → List α → Bool
  | [], [] => false
  | [], _ :: _ => true
  | _ :: _, [] => false
  | a :: as, b :: bs => if a = b then rlt lt as bs else lt a b
theorem ordd_tupL {α : Type} [DecidableEq α] {n : Nat} {mk : α → D} {lt : α → α → Bool} (h : Nice n mk) (o : Ordd mk lt) : Ordd (fun xs : List α => PyData.tuple (xs.map mk)) (rlt lt) := ⟨fun xs ys => by
    have : ∀ (xs ys : List α), PySem.W.alikeAll (xs.map mk) (ys.map mk) = true := by
      intro xs
      induction xs with
      | nil => intro ys; simp [PySem.W.alikeAll]
      | cons x xs ih =>
        intro ys
        cases ys with
        | nil => simp [PySem.W.alikeAll]
        | cons y ys => simp [PySem.W.alikeAll, o.alike, ih]
    rw [PySem.W.alike]
    exact this xs ys, fun xs ys => by
    rw [PySem.W.dataLt_tuple]
    show PySem.W.rowLt (xs.map mk) (ys.map mk) = rlt lt xs ys
    induction xs generalizing ys with
    | nil =>
      cases ys with
      | nil => exact PyProof.Rows.lex_irrefl _
      | cons y ys =>
        show PySem.W.rowLt [] (mk y :: ys.map mk) = true
        unfold PySem.W.rowLt
        rw [PySem.W.toks_all_cons]
        simp only [PySem.W.keyToksAll]
        rw [PyProof.Rows.lex_diff (O := PyProof.Rows.itemOrd) (by simp)]
        rfl
    | cons x xs ih =>
      cases ys with
      | nil =>
        show PySem.W.rowLt (mk x :: xs.map mk) [] = false
        unfold PySem.W.rowLt
        rw [PySem.W.toks_all_cons]
        simp only [PySem.W.keyToksAll]
        rw [PyProof.Rows.lex_diff (O := PyProof.Rows.itemOrd) (by simp)]
        rfl
      | cons y ys =>
        have ih' := ih ys
        show PySem.W.rowLt (mk x :: xs.map mk) (mk y :: ys.map mk) = _
        unfold PySem.W.rowLt at ih' ⊢
        rw [PySem.W.dataLt_cons (o.alike x y), ih', h.eqv, o.lt, rlt]
        simp, fun _ z => nomatch z⟩
end Hd
end

/-! part: K35c -/
section
set_option Elab.async false
set_option linter.all false
set_option maxRecDepth 100000
set_option maxHeartbeats 400000
namespace Hd
open PySem PySem.Spec Q
def sgn (c : Fin 3) : D := .str ⟨#[lc c]⟩
def oD : Option W → D
  | none => .none
  | some w => wD w
def okW (w : W) : Prop := 1 ≤ w.length ∧ w.length ≤ 4
theorem wS_len (w : W) : (wS w).length = w.length := by
  show (w.map lc).toArray.size = _
  simp
theorem signs_w (w : W) : signsD (wS w) = w.map sgn := by
  unfold signsD wS
  rw [List.toList_toArray, List.map_map]
  rfl
theorem wD_none (w : W) : isND (wD w) .none = some (.bool false) := rfl
theorem wD_str (w : W) : wD w = .str (wS w) := rfl
theorem sgn_in : ∀ c : Fin 3, isT (sgnD id (sgn c) (.str "abcdefghijklmnopqrstuvwxyz")) = true := by decide +kernel
theorem lenD_w (w : W) (h : w.length ≤ 1000) : lenD [wD w] = some (.int (w.length : Nat)) := by
  have hl := line_ge
  rw [wD_str, lenD, if_pos (by rw [wS_len]; omega), wS_len]
theorem isi_w (w : W) : isiD "str" (wD w) = some (.bool true) := rfl
@[simp] theorem bls_map {α : Type} (f : α → Bool) : ∀ l : List α, blsOf (l.map (PyData.bool ∘ f)) = some (l.map f)
  | [] => rfl
  | x :: l => by rw [List.map_cons]; show (blsOf _).map _ = _; rw [bls_map f l]; rfl
theorem e_is_name (w : W) (h : okW w) : Ph_is_name [wD w] = some (.bool true) := by
  obtain ⟨h1, h2⟩ := h
  have l1 := lenD_w w (by omega)
  have g1 : leD (.int 1) (.int (w.length : Nat)) = some (.bool true) := by simp; omega
  have g2 : leD (.int (w.length : Nat)) (.int 8) = some (.bool true) := by simp; omega
  have e : walkD (wD w) = some (w.map sgn) := by
    rw [← signs_w]; rfl
  have c1 : (1 : Int) ≤ (w.length : Nat) := by omega
  have c2 : ((w.length : Nat) : Int) ≤ 8 := by omega
  simp -implicitDefEqProofs [Ph_is_name, b_is_name, isi_w, l1, e, c1, c2]
  rw [lcL_all (g := fun _ => .bool true) (by simp) (fun c _ => by simp [isT_eq (sgn_in c)]), Option.bind_some, lcB_small (by simp; omega)]
  have e0 : (w.map fun _ => PyData.bool true) = (w.map fun _ => true).map .bool := by rw [List.map_map]; rfl
  simp [e0]
theorem e_to_word (w : W) (h : okW w) : Ph_to_word [wD w] = some (wD w) := by
  simp -implicitDefEqProofs [Ph_to_word, b_to_word, e_is_name w h]
theorem e_need_w (k : D) (w : W) : Ph_need [k, wD w] = some (wD w) := by
  simp -implicitDefEqProofs [Ph_need, b_need, wD_none]
theorem e_nd_w (k : D) (w : W) (h : okW w) : ((Ph_to_word [wD w]).bind fun x => Ph_need [k, x]) = some (wD w) := by
  rw [e_to_word w h, Option.bind_some, e_need_w]
theorem o_lt {α : Type} [DecidableEq α] {n : Nat} {mk : α → D} {lt : α → α → Bool} (h : Nice n mk) (hn : n ≤ 64) (o : Ordd mk lt) (a b : α) : ltD (mk a) (mk b) = some (.bool (lt a b)) := by
  have e : ordOk (mk a) (mk b) = true := by
    have n1 := o.nn a
    have h2 := Nat.le_trans (h.dep a) hn
    unfold ordOk
    rw [o.alike]
    cases hd : mk a with
    | none => exact absurd hd n1
    | _ => rw [hd] at h2; simpa using h2
  rw [ltD, if_pos e, o.lt]
theorem e_rank (w : W) : Ph_rank_key 4 [wD w] = some (.tuple [.int 3, wD w]) := by
  have e1 : isiD "bool" (wD w) = some (.bool false) := rfl
  have e2 : isiD "int" (wD w) = some (.bool false) := rfl
  simp -implicitDefEqProofs [Ph_rank_key, b_rank_key, wD_none, isi_w, e1, e2]
def rk (w : W) : D := .tuple [.int 3, wD w]
theorem rk_lt (a b : W) : ltD (rk a) (rk b) = some (.bool (wlt a b)) := by
  have := o_lt (nice_pair nice_int nice_w) (by decide) (ordd_pair nice_int nice_w ordd_int ordd_w wlt_irr) ((3 : Int), a) (3, b)
  exact this
theorem e_is_rising (ws : List W) (hl : 1 ≤ ws.length ∧ ws.length ≤ 40) (h : ∀ i, i + 1 < ws.length → wlt (ws.getD i []) (ws.getD (i + 1) []) = true) : Ph_is_rising [.tuple (ws.map wD)] = some (.bool true) := by
  simp -implicitDefEqProofs [Ph_is_rising, b_is_rising]
  rw [lcL_all (g := rk) (by simp) (fun w _ => by simp [e_rank, rk]), Option.bind_some, lcB_small (by simp; omega)]
  have hs : ((ws.length : Int) - 1) = ((ws.length - 1 : Nat) : Int) := by omega
  simp -implicitDefEqProofs [hs, rg1_n (k := ws.length - 1) (by omega)]
  rw [lcL_all (g := fun _ => .bool true) (by simp) (fun i hi => by
    have hi' := List.mem_range.mp hi
    have a1 := at_mk (mk := rk) ws [] (k := i) (by omega)
    have a2 := at_mk (mk := rk) ws [] (k := i + 1) (by omega)
    have hh := h i (by omega)
    rw [show ((i + 1 : Nat) : Int) = (i : Int) + 1 by omega] at a2
    simp -implicitDefEqProofs [a1, a2, rk_lt]
    simpa using hh), Option.bind_some, lcB_small (by simp; omega)]
  have e0 : ((List.range (ws.length - 1)).map fun _ => PyData.bool true) = ((List.range (ws.length - 1)).map fun _ => true).map .bool := by rw [List.map_map]; rfl
  simp [e0]
theorem e_to_names (ws : List W) (a b : Int) (ha : a ≤ ws.length ∧ (ws.length : Int) ≤ b) (hl : ws.length ≤ 40) (h : ∀ w ∈ ws, okW w) (d : D) (hd : d = .tuple (ws.map wD) ∨ d = .list (ws.map wD)) : Ph_to_names [d, .int a, .int b] = some (.tuple (ws.map wD)) := by
  have hr : Ph_to_row [d, .int a, .int b] = some (.tuple (ws.map wD)) := by
    rcases hd with rfl | rfl
    · exact e_to_row_t _ a b (by simp; omega)
    · exact e_to_row_l _ a b (by simp; omega)
  simp -implicitDefEqProofs [Ph_to_names, b_to_names, hr]
  rw [lcL_all (g := fun _ => .bool true) (by simp) (fun w hw => by simp [e_is_name w (h w hw)]), Option.bind_some, lcB_small (by simp; omega)]
  have e0 : (ws.map fun _ => PyData.bool true) = (ws.map fun _ => true).map .bool := by rw [List.map_map]; rfl
  simp [e0]
theorem e_to_words (ws : List W) (hl : 1 ≤ ws.length ∧ ws.length ≤ 40) (ho : ∀ w ∈ ws, okW w) (h : ∀ i, i + 1 < ws.length → wlt (ws.getD i []) (ws.getD (i + 1) []) = true) (d : D) (hd : d = .tuple (ws.map wD) ∨ d = .list (ws.map wD)) : Ph_to_words [d] = some (.tuple (ws.map wD)) := by
  have e1 := e_to_names ws 1 40 (by omega) hl.2 ho d hd
  have e2 := e_is_rising ws hl h
  simp -implicitDefEqProofs [Ph_to_words, b_to_words, Ph_to_rising_names, b_to_rising_names, e1, e2]
theorem nice_o : Nice 0 oD := ⟨fun o => by
    cases o with
    | none => rfl
    | some w => exact nice_w.lay w, fun o => by cases o <;> exact Nat.le_refl _, fun a b => by
    cases a with
    | none => cases b <;> simp [oD, wD, PyData.eqv]
    | some a =>
      cases b with
      | none => simp [oD, wD, PyData.eqv]
      | some b =>
        have := nice_w.eqv a b
        simp [oD, this]⟩
def okH (hs : List (Option W)) : Prop := (1 ≤ hs.length ∧ hs.length ≤ 4) ∧ ∀ w, some w ∈ hs → okW w
theorem e_to_heard (hs : List (Option W)) (hl : okH hs) (d : D) (hd : d = .tuple (hs.map oD) ∨ d = .list (hs.map oD)) : Ph_to_heard [d] = some (.tuple (hs.map oD)) := by
  obtain ⟨hl, h⟩ := hl
  have hr : Ph_to_row [d, .int 1, .int 10] = some (.tuple (hs.map oD)) := by
    rcases hd with rfl | rfl
    · exact e_to_row_t _ 1 10 (by simp; omega)
    · exact e_to_row_l _ 1 10 (by simp; omega)
  simp -implicitDefEqProofs [Ph_to_heard, b_to_heard, hr]
  rw [lcL_all (g := fun _ => .bool true) (by simp) (fun o ho => by
    cases o with
    | none => simp [oD]
    | some w => simp [oD, wD_none, e_is_name w (h w ho)]), Option.bind_some, lcB_small (by simp; omega)]
  have e0 : (hs.map fun _ => PyData.bool true) = (hs.map fun _ => true).map .bool := by rw [List.map_map]; rfl
  simp [e0]
end Hd
end

/-! part: K35d -/
section
set_option Elab.async false
set_option linter.all false
set_option maxRecDepth 100000
set_option maxHeartbeats 400000
namespace Hd
open PySem PySem.Spec Q
/-! _law_word -/
theorem glue_w : ∀ (l : W) (acc : Array Nat), (l.map fun c => (⟨#[lc c]⟩ : Str)).foldl (fun acc p => acc ++ ("" : Str).cps ++ p.cps) acc = acc ++ (l.map lc).toArray
  | [], acc => by simp
  | c :: l, acc => by
    rw [List.map_cons, List.foldl_cons, glue_w l]
    have : ("" : Str).cps = #[] := by decide +kernel
    rw [this]
    simp
theorem join_w (w : W) (h : w.length ≤ 1000) : joinD (.str "") (.list (w.map sgn)) = some (wD w) := by
  have e1 : w.map sgn = (w.map fun c => (⟨#[lc c]⟩ : Str)).map .str := by rw [List.map_map]; rfl
  have e2 : ("" : Str).length = 0 := by decide +kernel
  have e3 : ((w.map fun c => (⟨#[lc c]⟩ : Str)).map (·.length)).sum = w.length := by
    rw [List.map_map]
    clear h e1
    induction w with
    | nil => rfl
    | cons c w ih =>
      rw [List.map_cons, List.sum_cons, ih, List.length_cons]
      show 1 + _ = _
      omega
  rw [joinD, items_l, Option.bind_some, e1, strsOf_strs, Option.bind_some, if_pos (by rw [e3, e2]; omega)]
  congr 2
  show PySem.Builtin.Str.glued _ _ = wS w
  cases w with
  | nil => rfl
  | cons c w =>
    unfold PySem.Builtin.Str.glued
    rw [List.map_cons, List.drop_one, List.tail_cons, List.headD_cons, glue_w]
    unfold wS
    simp
def lt3 (i : Int) : Fin 3 := if i % 3 = 0 then 0 else if i % 3 = 1 then 1 else 2
theorem abt_at (i : Int) : ixD (.str "abt") (.int (i % 3)) = some (sgn (lt3 i)) := by
  have h : i % 3 = 0 ∨ i % 3 = 1 ∨ i % 3 = 2 := by omega
  unfold lt3
  rcases h with h | h | h <;> rw [h] <;> rfl
def mkw (n : Int) : W := (List.range (1 + n % 4).toNat).map fun (k : Nat) => lt3 (n / (1 + 4 * (k : Int)))
theorem mkw_ok (n : Int) : okW (mkw n) := by
  unfold okW mkw
  simp
  omega
theorem e_word (n : Int) : Ph__law_word [.int n] = some (wD (mkw n)) := by
  simp -implicitDefEqProofs [Ph__law_word, b__law_word]
  rw [rg1_i (by omega)]
  simp -implicitDefEqProofs
  rw [lcL_all (g := fun (k : Nat) => sgn (lt3 (n / (1 + 4 * (k : Int))))) (by simp) (fun k hk => by
    have hk' := List.mem_range.mp hk
    have h1 : (0 : Int) < 1 + 4 * (k : Int) := by omega
    have h2 : (1 + 4 * (k : Int)) < 1073741824 := by omega
    have h3 : mulI 4 (k : Int) = some (.int (4 * (k : Int))) := mulI_r (by omega) (by omega)
    simp [h3, fdiv_pos h1 h2, abt_at]), Option.bind_some, lcB_small (by simp; omega)]
  have e : (List.range (1 + n % 4).toNat).map (fun (k : Nat) => sgn (lt3 (n / (1 + 4 * (k : Int))))) = (mkw n).map sgn := by
    unfold mkw
    rw [List.map_map]
    rfl
  rw [e]
  simp [join_w (mkw n) (by have := (mkw_ok n).2; omega)]
end Hd
end

/-! part: K35e -/
section
set_option Elab.async false
set_option linter.all false
set_option maxRecDepth 100000
set_option maxHeartbeats 400000
namespace Hd
open PySem PySem.Spec Q
def PR (a b : W) (i k : Nat) : List D := (List.range (k + 1)).map fun j => .int (Dm a b i j)
theorem PR_at (a b : W) (i : Nat) {k n : Nat} (h : k ≤ n) : L2.atI (PR a b i n) (k : Int) = some (.int (Dm a b i k)) := by
  unfold PR
  rw [atI_nat (by simp; omega)]
  simp
theorem PR_at1 (a b : W) (i : Nat) {k n : Nat} (h : k + 1 ≤ n) : L2.atI (PR a b i n) ((k : Int) + 1) = some (.int (Dm a b i (k + 1))) := by
  have := PR_at a b i h
  rwa [show ((k + 1 : Nat) : Int) = (k : Int) + 1 by omega] at this
theorem PR_last (a b : W) (i n : Nat) : L2.atI (PR a b i n) (-1) = some (.int (Dm a b i n)) := by
  have h1 : (PR a b i n).length = n + 1 := by simp [PR]
  have h2 : L2.atI (PR a b i n) (-1) = L2.atI (PR a b i n) (n : Int) := by
    unfold L2.atI
    rw [h1]
    congr 1
    unfold L2.ixN
    rw [if_neg (by omega), if_pos (by omega), if_pos (by omega)]
    simp
    constructor <;> omega
  rw [h2, PR_at a b i (Nat.le_refl n)]
theorem PR_s (a b : W) (i k : Nat) : PR a b i k ++ [.int (Dm a b i (k + 1))] = PR a b i (k + 1) := by
  unfold PR
  rw [List.range_succ (n := k + 1), List.map_append]
  rfl
theorem PR_len (a b : W) (i k : Nat) : (PR a b i k).length = k + 1 := by simp [PR]
theorem PR_z (a b : W) (n : Nat) : PR a b 0 n = (List.range (n + 1)).map fun j => .int (j : Nat) := by
  unfold PR
  apply List.map_congr_left
  intro j _
  rw [Dm_0]
theorem PR_i0 (a b : W) (i : Nat) : PR a b (i + 1) 0 = [.int ((i : Int) + 1)] := by
  unfold PR
  simp [Dm_s0]
theorem sgn_eq : ∀ c d : Fin 3, eqD (sgn c) (sgn d) = some (.bool (decide (c = d))) := by
  intro c d
  have h1 : SeqAt.shaped (sgn c) = true := by revert c; decide +kernel
  have h2 : SeqAt.shaped (sgn d) = true := by revert d; decide +kernel
  rw [eqD, if_pos ⟨h1, h2⟩]
  have : PyData.eqv (sgn c) (sgn d) = decide (c = d) := by clear h1 h2; revert c d; decide +kernel
  rw [this]
theorem enumS_w (w : W) : enumSD (wD w) = some ((List.range w.length).map fun (i : Nat) => PyData.tuple [.int (i : Int), sgn (w.getD i 0)]) := by
  show some (numL 0 (signsD (wS w))) = _
  rw [signs_w, numL_mk 0]
  simp
theorem gap_in (a b : W) (i k : Nat) (hb : b.length ≤ 1000) (hk : k < b.length) (s6 s7 s8 : Sl) :
    ((sT 2 (sCons (sN 6) (sCons (sN 7) sNil)) (.tuple [.int (k : Int), sgn (b.getD k 0)]) [.im (wD a), .im (wD b), .im (.list (PR a b i b.length)), .im (.int i), .im (sgn (a.getD i 0)), .ow (.list (PR a b (i + 1) k)), s6, s7, s8]).bind L_gap_of_1) =
      some (.nx [.im (wD a), .im (wD b), .im (.list (PR a b i b.length)), .im (.int i), .im (sgn (a.getD i 0)), .ow (.list (PR a b (i + 1) (k + 1))), .im (.int k), .im (sgn (b.getD k 0)), .im (.int (Dm a b i k + (if a.getD i 0 = b.getD k 0 then 0 else 1)))]) := by
  have hl := line_ge
  have e1 := PR_at a b i (n := b.length) (k := k) (by omega)
  have e2 := PR_at1 a b i (n := b.length) (k := k) (by omega)
  have e3 := PR_at a b (i + 1) (n := k) (k := k) (by omega)
  have e4 : ¬ (sizeLine ≤ k + 1) := by omega
  have e5 : (PR a b (i + 1) k).length < sizeLine := by rw [PR_len]; omega
  have e6 := PR_s a b (i + 1) k
  rw [Dm_ss] at e6
  by_cases h : a.getD i 0 = b.getD k 0
  · rw [if_pos h] at e6 ⊢
    rw [h] at *
    simp only [Int.add_zero] at e6 ⊢
    generalize b.getD k 0 = c at *
    simp -implicitDefEqProofs [L_gap_of_1, sgn_eq, e1, e2, e3, e5, ← e6]
  · rw [if_neg h] at e6 ⊢
    generalize a.getD i 0 = c at *
    generalize b.getD k 0 = d at *
    simp -implicitDefEqProofs [L_gap_of_1, sgn_eq, e1, e2, e3, e5, h, ← e6]
theorem rg_PR (a b : W) (hb : b.length ≤ 1000) : rgD 0 (b.length + 1) = PR a b 0 b.length := by rw [lr1_n (by omega), PR_z]
theorem e_gap_of (a b : W) (ha : a.length ≤ 1000) (hb : b.length ≤ 1000) : Ph_gap_of [wD a, wD b] = some (.int (gp a b)) := by
  have eb := lenD_w b hb
  have ea := enumS_w a
  have ebs := enumS_w b
  have hr := rg_PR a b hb
  have c1 : -4611686018427387904 ≤ (b.length : Int) + 1 ∧ (b.length : Int) + 1 ≤ 16777216 := by omega
  have c2 : ((b.length : Int) + 1).toNat = b.length + 1 := by omega
  simp -implicitDefEqProofs [Ph_gap_of, b_gap_of, eb, c1, c2, hr, ea]
  obtain ⟨ρ', h1, x3, x4, x5, x6, x7, x8, h2⟩ := forL_all (step := turnD (sT 2 (sCons (sN 3) (sCons (sN 4) sNil))) L_gap_of_2) (xs := List.range a.length) (mk := fun i => .tuple [.int (i : Nat), sgn (a.getD i 0)])
    (fun pre (ρ : Rho) => ∃ x3 x4 x5 x6 x7 x8, ρ = [.im (wD a), .im (wD b), .im (.list (PR a b pre.length b.length)), x3, x4, x5, x6, x7, x8])
    [.im (wD a), .im (wD b), .im (.list (PR a b 0 b.length)), .un, .un, .un, .un, .un, .un] ⟨_, _, _, _, _, _, rfl⟩ (by
    rintro pre post ρ i ⟨y3, y4, y5, y6, y7, y8, rfl⟩ hx
    obtain ⟨g1, g2, g3⟩ := range_split hx
    obtain ⟨ρ2, h1, x6, x7, x8, h2⟩ := forL_all (step := turnD (sT 2 (sCons (sN 6) (sCons (sN 7) sNil))) L_gap_of_1) (xs := List.range b.length) (mk := fun i => .tuple [.int (i : Nat), sgn (b.getD i 0)])
      (fun pre (ρ : Rho) => ∃ x6 x7 x8, ρ = [.im (wD a), .im (wD b), .im (.list (PR a b i b.length)), .im (.int i), .im (sgn (a.getD i 0)), .ow (.list (PR a b (i + 1) pre.length)), x6, x7, x8])
      [.im (wD a), .im (wD b), .im (.list (PR a b i b.length)), .im (.int i), .im (sgn (a.getD i 0)), .ow (.list (PR a b (i + 1) 0)), y6, y7, y8] ⟨_, _, _, rfl⟩ (by
      rintro pre post ρ k ⟨y6, y7, y8, rfl⟩ hx
      obtain ⟨g1, g2, g3⟩ := range_split hx
      subst g1
      refine ⟨_, .inl (gap_in a b i pre.length hb g2 y6 y7 y8), ?_⟩
      rw [List.length_append]
      exact ⟨_, _, _, rfl⟩)
    subst h2
    rw [List.length_range] at h1
    subst g1
    refine ⟨[.im (wD a), .im (wD b), .im (.list (PR a b (pre.length + 1) b.length)), .im (.int pre.length), .im (sgn (a.getD pre.length 0)), .im (.list (PR a b (pre.length + 1) b.length)), x6, x7, x8], .inl ?_, by rw [List.length_append]; exact ⟨_, _, _, _, _, _, rfl⟩⟩
    rw [PR_i0] at h1
    simp -implicitDefEqProofs [L_gap_of_2, ebs]
    simp only [← List.getD_eq_getElem?_getD]
    rw [h1]
    rfl)
  subst h2
  simp only [← List.getD_eq_getElem?_getD]
  rw [h1]
  simp -implicitDefEqProofs [PR_last, gp]
/-! the law's own gap -/
theorem at_neg {α : Type} {mk : α → D} (xs : List α) (d : α) (h : xs ≠ []) : L2.atI (xs.map mk) (-1) = some (mk (xs.getLastD d)) := by
  have h0 : 0 < xs.length := List.length_pos_iff.mpr h
  have h2 : L2.atI (xs.map mk) (-1) = L2.atI (xs.map mk) ((xs.length - 1 : Nat) : Int) := by
    unfold L2.atI
    rw [List.length_map]
    congr 1
    unfold L2.ixN
    rw [if_neg (by omega), if_pos (by omega), if_pos (by omega)]
    simp
    constructor <;> omega
  rw [h2, at_mk xs d (by omega)]
  congr 2
  rw [List.getLastD_eq_getLast?, List.getLast?_eq_getElem?]
  simp
def RW (a b : W) (k : Nat) : List D := (List.range (k + 1)).map fun t => .list (PR a b t b.length)
theorem RW_last (a b : W) (k : Nat) : L2.atI (RW a b k) (-1) = some (.list (PR a b k b.length)) := by
  unfold RW
  rw [at_neg (mk := fun t => PyData.list (PR a b t b.length)) _ 0 (by simp)]
  simp [List.range_succ]
theorem RW_s (a b : W) (k : Nat) : RW a b k ++ [.list (PR a b (k + 1) b.length)] = RW a b (k + 1) := by
  unfold RW
  rw [List.range_succ (n := k + 1), List.map_append]
  rfl
theorem ix_w (w : W) (k : Nat) (hk : k < w.length) (hw : w.length ≤ 1000) : ixD (wD w) (.int (k : Int)) = some (sgn (w.getD k 0)) := by
  have hl := line_ge
  show (if (wS w).length ≤ sizeLine then (L2.atI (wS w).cps.toList (k : Int)).map fun c => PyData.str ⟨#[c]⟩ else none) = _
  rw [if_pos (by rw [wS_len]; omega)]
  have e : (wS w).cps.toList = w.map lc := by simp [wS]
  rw [e]
  unfold L2.atI
  have e2 : L2.ixN (w.map lc).length (k : Int) = some k := by
    unfold L2.ixN
    rw [if_pos (by omega)]
    simp; omega
  rw [e2]
  simp [hk, sgn]
theorem lgap_in (a b : W) (i k : Nat) (ha : a.length ≤ 1000) (hb : b.length ≤ 1000) (hi : i < a.length) (hk : k < b.length) (s5 : Sl) :
    turnD (sN 5) L__law_gap_1 (.int (k : Nat)) [.im (wD a), .im (wD b), .ow (.list (RW a b i)), .im (.int i), .ow (.list (PR a b (i + 1) k)), s5] =
      some (.nx [.im (wD a), .im (wD b), .ow (.list (RW a b i)), .im (.int i), .ow (.list (PR a b (i + 1) (k + 1))), .im (.int k)]) := by
  have hl := line_ge
  have e0 := RW_last a b i
  have e1 := PR_at a b i (n := b.length) (k := k) (by omega)
  have e2 := PR_at1 a b i (n := b.length) (k := k) (by omega)
  have e3 := PR_at a b (i + 1) (n := k) (k := k) (by omega)
  have e5 : (PR a b (i + 1) k).length < sizeLine := by rw [PR_len]; omega
  have e6 := PR_s a b (i + 1) k
  rw [Dm_ss] at e6
  have i1 := ix_w a i hi ha
  have i2 := ix_w b k hk hb
  by_cases h : a.getD i 0 = b.getD k 0
  · rw [if_pos h] at e6
    rw [h] at i1
    simp only [Int.add_zero] at e6
    clear h
    have e7 : min (min (Dm a b i (k + 1) + 1) (Dm a b (i + 1) k + 1)) (Dm a b i k) = min (min (Dm a b i k) (Dm a b i (k + 1) + 1)) (Dm a b (i + 1) k + 1) := by omega
    generalize b.getD k 0 = c at *
    simp -implicitDefEqProofs [L__law_gap_1, e0, sgn_eq, e1, e2, e3, e5, i1, i2, e7, ← e6]
    omega
  · rw [if_neg h] at e6
    have e7 : min (min (Dm a b i (k + 1) + 1) (Dm a b (i + 1) k + 1)) (Dm a b i k + 1) = min (min (Dm a b i k + 1) (Dm a b i (k + 1) + 1)) (Dm a b (i + 1) k + 1) := by omega
    generalize a.getD i 0 = c at *
    generalize b.getD k 0 = d at *
    simp -implicitDefEqProofs [L__law_gap_1, e0, sgn_eq, e1, e2, e3, e5, i1, i2, h, e7, ← e6]
    omega
theorem e_law_gap (a b : W) (ha : a.length ≤ 1000) (hb : b.length ≤ 1000) : Ph__law_gap [wD a, wD b] = some (.int (gp a b)) := by
  have hl := line_ge
  have eb := lenD_w b hb
  have ea := lenD_w a ha
  have hr := rg_PR a b hb
  have c1 : -4611686018427387904 ≤ (b.length : Int) + 1 ∧ (b.length : Int) + 1 ≤ 16777216 := by omega
  have c2 : ((b.length : Int) + 1).toNat = b.length + 1 := by omega
  have r1 := rg1_n (k := a.length) (by omega)
  have r2 := rg1_n (k := b.length) (by omega)
  simp -implicitDefEqProofs [Ph__law_gap, b__law_gap, eb, c1, c2, hr, ea, r1]
  obtain ⟨ρ', h1, x3, x4, x5, h2⟩ := forL_all (step := turnD (sN 3) L__law_gap_2) (xs := List.range a.length) (mk := fun i => .int (i : Nat))
    (fun pre (ρ : Rho) => ∃ x3 x4 x5, ρ = [.im (wD a), .im (wD b), .ow (.list (RW a b pre.length)), x3, x4, x5])
    [.im (wD a), .im (wD b), .ow (.list [.list (PR a b 0 b.length)]), .un, .un, .un] ⟨_, _, _, rfl⟩ (by
    rintro pre post ρ i ⟨y3, y4, y5, rfl⟩ hx
    obtain ⟨g1, g2, g3⟩ := range_split hx
    obtain ⟨ρ2, h1, x5, h2⟩ := forL_all (step := turnD (sN 5) L__law_gap_1) (xs := List.range b.length) (mk := fun i => .int (i : Nat))
      (fun pre (ρ : Rho) => ∃ x5, ρ = [.im (wD a), .im (wD b), .ow (.list (RW a b i)), .im (.int i), .ow (.list (PR a b (i + 1) pre.length)), x5])
      [.im (wD a), .im (wD b), .ow (.list (RW a b i)), .im (.int i), .ow (.list (PR a b (i + 1) 0)), y5] ⟨_, rfl⟩ (by
      rintro pre post ρ k ⟨y5, rfl⟩ hx
      obtain ⟨g1, g4, g3⟩ := range_split hx
      subst g1
      refine ⟨_, .inl (lgap_in a b i pre.length ha hb g2 g4 y5), ?_⟩
      rw [List.length_append]
      exact ⟨_, rfl⟩)
    subst h2
    rw [List.length_range] at h1
    subst g1
    have e5 : (RW a b pre.length).length < sizeLine := by simp [RW]; omega
    refine ⟨[.im (wD a), .im (wD b), .ow (.list (RW a b (pre.length + 1))), .im (.int pre.length), .im (.list (PR a b (pre.length + 1) b.length)), x5], .inl ?_, by rw [List.length_append]; exact ⟨_, _, _, rfl⟩⟩
    rw [PR_i0] at h1
    simp -implicitDefEqProofs [L__law_gap_2, eb, r2]
    rw [h1]
    have q : ∀ (ds : List D) (d s0 s1 s3 : D) (s5 : Sl), ds.length < sizeLine → bAppMv 2 4 [.im s0, .im s1, .ow (.list ds), .im s3, .ow d, s5] = some (.nx [.im s0, .im s1, .ow (.list (ds ++ [d])), .im s3, .im d, s5]) := fun ds d s0 s1 s3 s5 h => if_pos ⟨by decide, h⟩
    simp -implicitDefEqProofs [q, e5, RW_s])
  subst h2
  rw [h1]
  simp -implicitDefEqProofs [RW_last, PR_last, gp]
end Hd
end

/-! part: K35f -/
section
set_option Elab.async false
set_option linter.all false
set_option maxRecDepth 100000
set_option maxHeartbeats 400000
namespace Hd
open PySem PySem.Spec Q
theorem okW_len {w : W} (h : okW w) : w.length ≤ 1000 := by have := h.2; omega
theorem e_gap (a b : W) (ha : okW a) (hb : okW b) : Ph_gap [wD a, wD b] = some (.int (gp a b)) := by
  simp -implicitDefEqProofs [Ph_gap, b_gap, e_to_word _ ha, e_to_word _ hb, e_need_w, e_gap_of a b (okW_len ha) (okW_len hb)]
/-- what is known, in the one shape -/
theorem e_both (w : W) (hs : List (Option W)) (hw : okW w) (hh : okH hs) (d : D) (hd : d = .tuple (hs.map oD) ∨ d = .list (hs.map oD)) : Ph_both_of [wD w, d] = some (.tuple [wD w, .tuple (hs.map oD)]) := by
  have e1 := e_to_heard hs hh d hd
  simp -implicitDefEqProofs [Ph_both_of, b_both_of, e_to_word _ hw, e_need_w, e1, e_need_t]
theorem oD_some (w : W) : oD (some w) = wD w := rfl
theorem oD_none : oD none = .none := rfl
theorem wD_nn (w : W) : notND (wD w) .none = some (.bool true) := rfl
theorem not_none (o : Option W) : notND (oD o) .none = some (.bool o.isSome) := by cases o <;> rfl
theorem is_none (o : Option W) : isND (oD o) .none = some (.bool (!o.isSome)) := by cases o <;> rfl
/-! floor -/
def flSt (st : W × List Int) (o : Option W) : W × List Int := match o with
  | none => st
  | some v => (v, st.2 ++ [gp st.1 v])
def floorF (w : W) (hs : List (Option W)) : List Int := (hs.foldl flSt (w, [])).2
theorem fl_ok {hs : List (Option W)} (w : W) (hw : okW w) (hh : ∀ v, some v ∈ hs → okW v) (l : List Int) : okW (hs.foldl flSt (w, l)).1 := by
  induction hs generalizing w l with
  | nil => exact hw
  | cons o hs ih =>
    cases o with
    | none => exact ih w hw (fun v hv => hh v (List.mem_cons_of_mem _ hv)) l
    | some v => exact ih v (hh v List.mem_cons_self) (fun v hv => hh v (List.mem_cons_of_mem _ hv)) _
theorem fl_len (hs : List (Option W)) : ∀ (w : W) (l : List Int), (hs.foldl flSt (w, l)).2.length ≤ l.length + hs.length := by
  induction hs with
  | nil => intro w l; exact Nat.le_refl _
  | cons o hs ih =>
    intro w l
    cases o with
    | none => have := ih w l; simp only [List.foldl_cons, flSt, List.length_cons]; omega
    | some v => have := ih v (l ++ [gp w v]); simp only [List.foldl_cons, flSt, List.length_cons]; simp at this; omega
theorem e_floor_of (w : W) (hs : List (Option W)) (hw : okW w) (hh : okH hs) : Ph_floor_of [wD w, .tuple (hs.map oD)] = some (.tuple ((floorF w hs).map .int)) := by
  have hl := line_ge
  obtain ⟨h1, h2⟩ := hh
  simp -implicitDefEqProofs [Ph_floor_of, b_floor_of]
  obtain ⟨ρ', e1, x3, e2⟩ := forL_all (step := turnD (sN 3) L_floor_of_1) (xs := hs) (mk := oD)
    (fun pre (ρ : Rho) => ∃ x3, ρ = [.im (wD (pre.foldl flSt (w, [])).1), .im (.tuple (hs.map oD)), .ow (.list ((pre.foldl flSt (w, [])).2.map .int)), x3])
    [.im (wD w), .im (.tuple (hs.map oD)), .ow (.list []), .un] ⟨_, rfl⟩ (by
    rintro pre post ρ o ⟨y3, rfl⟩ hx
    have k1 := fl_ok (hs := pre) w hw (fun v hv => h2 v (by rw [hx]; simp [hv])) []
    have k2 := fl_len pre w []
    have k3 := split_len hx
    rw [List.foldl_append, List.foldl_cons, List.foldl_nil]
    generalize pre.foldl flSt (w, []) = st at *
    obtain ⟨u, l⟩ := st
    cases o with
    | none => exact ⟨_, .inl (by simp -implicitDefEqProofs [L_floor_of_1, not_none, flSt]), .im (oD none), rfl⟩
    | some v =>
      have k4 := h2 v (split_mem hx)
      have k5 : l.length < sizeLine := by simp at k2; omega
      have k6 := e_gap_of u v (okW_len k1) (okW_len k4)
      exact ⟨_, .inl (by simp -implicitDefEqProofs [L_floor_of_1, not_none, k6, k5, oD_some, wD_nn, flSt]), .im (wD v), rfl⟩)
  rw [e1]
  subst e2
  simp -implicitDefEqProofs [floorF]
theorem e_floor (w : W) (hs : List (Option W)) (hw : okW w) (hh : okH hs) (d : D) (hd : d = .tuple (hs.map oD) ∨ d = .list (hs.map oD)) : Ph_floor [wD w, d] = some (.tuple ((floorF w hs).map .int)) := by
  simp -implicitDefEqProofs [Ph_floor, b_floor, e_both w hs hw hh d hd, e_floor_of w hs hw hh]
theorem e_least (w : W) (hs : List (Option W)) (hw : okW w) (hh : okH hs) (d : D) (hd : d = .tuple (hs.map oD) ∨ d = .list (hs.map oD)) : Ph_least [wD w, d] = some (.int (floorF w hs).sum) := by
  simp -implicitDefEqProofs [Ph_least, b_least, e_both w hs hw hh d hd, e_floor_of w hs hw hh]
/-! filling -/
def fiSt (st : W × List W) (o : Option W) : W × List W := (o.getD st.1, st.2 ++ [o.getD st.1])
def fillF (w : W) (hs : List (Option W)) : List W := (hs.foldl fiSt (w, [])).2
theorem fi_len (hs : List (Option W)) : ∀ (w : W) (l : List W), (hs.foldl fiSt (w, l)).2.length = l.length + hs.length := by
  induction hs with
  | nil => intro w l; rfl
  | cons o hs ih =>
    intro w l
    simp only [List.foldl_cons, fiSt, List.length_cons]
    rw [ih]
    simp
    omega
theorem fi_ok (hs : List (Option W)) (hh : ∀ v, some v ∈ hs → okW v) : ∀ (w : W) (l : List W), okW w → (∀ v ∈ l, okW v) → okW (hs.foldl fiSt (w, l)).1 ∧ ∀ v ∈ (hs.foldl fiSt (w, l)).2, okW v := by
  induction hs with
  | nil => intro w l h1 h2; exact ⟨h1, h2⟩
  | cons o hs ih =>
    intro w l h1 h2
    have h3 : okW (o.getD w) := by
      cases o with
      | none => exact h1
      | some v => exact hh v List.mem_cons_self
    rw [List.foldl_cons]
    refine ih (fun v hv => hh v (List.mem_cons_of_mem _ hv)) _ _ h3 ?_
    intro v hv
    rcases List.mem_append.mp hv with hv | hv
    · exact h2 v hv
    · rw [List.mem_singleton.mp hv]; exact h3
theorem e_filling (w : W) (hs : List (Option W)) (hw : okW w) (hh : okH hs) : Ph_filling [wD w, .tuple (hs.map oD)] = some (.tuple ((fillF w hs).map wD)) := by
  have hl := line_ge
  have e0 := e_both w hs hw hh _ (.inl rfl)
  obtain ⟨h1, h2⟩ := hh
  simp -implicitDefEqProofs [Ph_filling, b_filling, e0]
  obtain ⟨ρ', e1, x3, e2⟩ := forL_all (step := turnD (sN 3) L_filling_1) (xs := hs) (mk := oD)
    (fun pre (ρ : Rho) => ∃ x3, ρ = [.im (wD (pre.foldl fiSt (w, [])).1), .im (.tuple (hs.map oD)), .ow (.list ((pre.foldl fiSt (w, [])).2.map wD)), x3])
    [.im (wD w), .im (.tuple (hs.map oD)), .ow (.list []), .un] ⟨_, rfl⟩ (by
    rintro pre post ρ o ⟨y3, rfl⟩ hx
    have k2 := fi_len pre w []
    have k3 := split_len hx
    rw [List.foldl_append, List.foldl_cons, List.foldl_nil]
    generalize pre.foldl fiSt (w, []) = st at *
    obtain ⟨u, l⟩ := st
    have k5 : l.length < sizeLine := by simp at k2; omega
    cases o with
    | none => exact ⟨_, .inl (by simp -implicitDefEqProofs [L_filling_1, not_none, fiSt, k5]), .im (oD none), rfl⟩
    | some v => exact ⟨_, .inl (by simp -implicitDefEqProofs [L_filling_1, not_none, k5, oD_some, wD_nn, fiSt]), .im (wD v), rfl⟩)
  rw [e1]
  subst e2
  simp -implicitDefEqProofs [fillF]
/-! slips -/
def slipsF (w : W) (r : List W) : List Int := (List.range r.length).map fun k => gp (if k > 0 then r.getD (k - 1) [] else w) (r.getD k [])
theorem getD_ok {r : List W} (hr : ∀ v ∈ r, okW v) {k : Nat} (h : k < r.length) : okW (r.getD k []) := by
  have : r.getD k [] = r[k] := by simp [h]
  rw [this]
  exact hr _ (List.getElem_mem h)
theorem e_gaps_along (w : W) (r : List W) (hw : okW w) (hr : ∀ v ∈ r, okW v) (hl : r.length ≤ 1000) : Ph_gaps_along [wD w, .tuple (r.map wD)] = some (.tuple ((slipsF w r).map .int)) := by
  have e1 := enum_mk (mk := wD) [] r (.tuple (r.map wD)) (.inr rfl)
  simp -implicitDefEqProofs [Ph_gaps_along, b_gaps_along, e1]
  simp only [← List.getD_eq_getElem?_getD]
  rw [lcL_all (g := fun (k : Nat) => PyData.int (gp (if k > 0 then r.getD (k - 1) [] else w) (r.getD k []))) (by simp) (fun k hk => by
    have hk' := List.mem_range.mp hk
    have k1 := getD_ok hr hk'
    have k2 := at_mk (mk := wD) r [] (k := k - 1) (by omega)
    by_cases h0 : 0 < k
    · have k3 := getD_ok hr (k := k - 1) (by omega)
      rw [show ((k - 1 : Nat) : Int) = (k : Int) - 1 by omega] at k2
      have k4 := e_gap_of (r.getD (k - 1) []) (r.getD k []) (okW_len k3) (okW_len k1)
      generalize r.getD (k - 1) [] = u at *
      generalize r.getD k [] = v at *
      simp [h0, k2, k4]
    · have k4 := e_gap_of w (r.getD k []) (okW_len hw) (okW_len k1)
      have h0' : k = 0 := by omega
      subst h0'
      generalize r.getD 0 [] = v at *
      simp [k4]), Option.bind_some, lcB_small (by simp; omega)]
  simp [slipsF]
theorem e_slips_of (w : W) (r : List W) (hw : okW w) (hr : ∀ v ∈ r, okW v) (hl : 1 ≤ r.length ∧ r.length ≤ 10) : Ph_slips_of [wD w, .list (r.map wD)] = some (.tuple ((slipsF w r).map .int)) := by
  have e1 := e_to_names r 1 10 (by omega) (by omega) hr _ (.inr rfl)
  simp -implicitDefEqProofs [Ph_slips_of, b_slips_of, e_to_word _ hw, e_need_w, e1, e_need_t, e_gaps_along w r hw hr (by omega)]
/-! who slipped, may have slipped -/
def ahd (w : W) (hs : List (Option W)) (k : Nat) : Option W := if k > 0 then hs.getD (k - 1) none else some w
def whoC (w : W) (hs : List (Option W)) (k : Nat) : Bool := (hs.getD k none).isSome && ((ahd w hs k).isSome && !decide (ahd w hs k = hs.getD k none))
def whoF (w : W) (hs : List (Option W)) : List Nat := (List.range hs.length).filter (whoC w hs)
theorem filter_one {α : Type} (p : α → Bool) (a : α) : [a].filter p = if p a = true then [a] else [] := by cases h : p a <;> simp [h]
theorem e_who (w : W) (hs : List (Option W)) (hw : okW w) (hh : okH hs) : Ph_who_slipped [wD w, .tuple (hs.map oD)] = some (.tuple ((whoF w hs).map fun k => .int (k : Nat))) := by
  have hl := line_ge
  have e0 := e_both w hs hw hh _ (.inl rfl)
  obtain ⟨h1, h2⟩ := hh
  have e1 := enum_mk (mk := oD) none hs (.tuple (hs.map oD)) (.inr rfl)
  simp -implicitDefEqProofs [Ph_who_slipped, b_who_slipped, e0, e1]
  simp only [← List.getD_eq_getElem?_getD]
  obtain ⟨ρ', e1, x3, x4, x5, e2⟩ := forL_all (step := turnD (sT 2 (sCons (sN 3) (sCons (sN 4) sNil))) L_who_slipped_1) (xs := List.range hs.length) (mk := fun k => .tuple [.int (k : Nat), oD (hs.getD k none)])
    (fun pre (ρ : Rho) => ∃ x3 x4 x5, ρ = [.im (wD w), .im (.tuple (hs.map oD)), .ow (.list ((pre.filter (whoC w hs)).map fun k => .int (k : Nat))), x3, x4, x5])
    [.im (wD w), .im (.tuple (hs.map oD)), .ow (.list []), .un, .un, .un] ⟨_, _, _, rfl⟩ (by
    rintro pre post ρ k ⟨y3, y4, y5, rfl⟩ hx
    obtain ⟨g1, g2, g3⟩ := range_split hx
    have k2 := List.length_filter_le (whoC w hs) pre
    have k5 : (pre.filter (whoC w hs)).length < sizeLine := by omega
    have ea : ∀ ρ : Rho, ρ[3]? = some (.im (.int (k : Nat))) → ρ[1]? = some (.im (.tuple (hs.map oD))) → ρ[0]? = some (.im (wD w)) → (fIf (fT (f2 gtD (vF 3) (cD (.int 0)))) (f2 ixD (vF 1) (f2 subD (vF 3) (cD (.int 1)))) (vF 0)) ρ = some (oD (ahd w hs k)) := fun ρ q3 q1 q0 => by
      have k2 := at_mk (mk := oD) hs none (k := k - 1) (by omega)
      by_cases h0 : 0 < k
      · rw [show ((k - 1 : Nat) : Int) = (k : Int) - 1 by omega] at k2
        have e : ahd w hs k = hs.getD (k - 1) none := if_pos h0
        rw [e]
        generalize hs.getD (k - 1) none = u at *
        simp [h0, k2, q3, q1]
      · have h0' : k = 0 := by omega
        subst h0'
        simp [q3, q0, ahd, oD]
    rw [List.filter_append, filter_one]
    have hn : neD (oD (hs.getD k none)) (oD (ahd w hs k)) = some (.bool (!decide (ahd w hs k = hs.getD k none))) := by
      rw [nice_o.ne (by decide)]
      congr 3
      exact decide_eq_decide.mpr ⟨Eq.symm, Eq.symm⟩
    have c1 : whoC w hs k = ((hs.getD k none).isSome && ((ahd w hs k).isSome && !decide (ahd w hs k = hs.getD k none))) := rfl
    refine ⟨[.im (wD w), .im (.tuple (hs.map oD)), .ow (.list ((pre.filter (whoC w hs) ++ if whoC w hs k = true then [k] else []).map fun k => .int (k : Nat))), .im (.int (k : Nat)), .im (oD (hs.getD k none)), .im (oD (ahd w hs k))], .inl ?_, .im (.int (k : Nat)), .im (oD (hs.getD k none)), .im (oD (ahd w hs k)), rfl⟩
    rw [c1]
    generalize hs.getD k none = o at *
    generalize ahd w hs k = u at *
    generalize pre.filter (whoC w hs) = l at *
    have ea' := ea [.im (wD w), .im (.tuple (hs.map oD)), .ow (.list (l.map fun k => .int (k : Nat))), .im (.int (k : Nat)), .im (oD o), y5] rfl rfl rfl
    clear ea
    simp -implicitDefEqProofs [L_who_slipped_1, ↓ea', not_none, hn, k5]
    cases o with
    | none => simp
    | some a =>
      cases u with
      | none => simp
      | some b => by_cases hab : b = a <;> simp [hab, k5])
  rw [e1]
  subst e2
  simp -implicitDefEqProofs [whoF]
end Hd
end

/-! part: K35g -/
section
set_option Elab.async false
set_option linter.all false
set_option maxRecDepth 100000
set_option maxHeartbeats 400000
namespace Hd
open PySem PySem.Spec Q
def rgF (a b : Nat) : List Nat := (List.range (b - a)).map fun k => a + k
def maN (w : W) (hs : List (Option W)) : Nat → W × Nat × List Nat
  | 0 => (w, 0, [])
  | k + 1 => match hs.getD k none with
    | none => maN w hs k
    | some v => (v, k + 1, if (maN w hs k).1 = v then (maN w hs k).2.2 else (maN w hs k).2.2 ++ rgF (maN w hs k).2.1 (k + 1))
def mayF (w : W) (hs : List (Option W)) : List Nat := (maN w hs hs.length).2.2
theorem ma_s (w : W) (hs : List (Option W)) : ∀ k, (maN w hs k).2.1 ≤ k ∧ (maN w hs k).2.2.length ≤ (maN w hs k).2.1
  | 0 => ⟨Nat.le_refl _, Nat.le_refl _⟩
  | k + 1 => by
    obtain ⟨h1, h2⟩ := ma_s w hs k
    rw [maN]
    cases hs.getD k none with
    | none => exact ⟨by dsimp only; omega, h2⟩
    | some v =>
      dsimp only
      refine ⟨Nat.le_refl _, ?_⟩
      split
      · omega
      · simp [rgF]; omega
theorem rgD_nat (a b : Nat) : rgD (a : Int) (((b : Nat) : Int) - a).toNat = (rgF a b).map fun k => .int (k : Nat) := by
  unfold rgD rgF
  rw [List.map_map]
  have : (((b : Nat) : Int) - a).toNat = b - a := by omega
  rw [this]
  apply List.map_congr_left
  intro k _
  simp
theorem lr2_nat (a b : Nat) (ha : a ≤ 1000) (hb : b ≤ 1000) : lr2D (.int (a : Nat)) (.int (b : Nat)) = some (.list ((rgF a b).map fun k => .int (k : Nat))) := by
  rw [← rgD_nat]
  exact if_pos ⟨⟨by omega, by omega⟩, by omega, by omega⟩
theorem e_may (w : W) (hs : List (Option W)) (hw : okW w) (hh : okH hs) : Ph_may_have [wD w, .tuple (hs.map oD)] = some (.tuple ((mayF w hs).map fun k => .int (k : Nat))) := by
  have hl := line_ge
  have e0 := e_both w hs hw hh _ (.inl rfl)
  obtain ⟨h1, h2⟩ := hh
  have e1 := enum_mk (mk := oD) none hs (.tuple (hs.map oD)) (.inr rfl)
  simp -implicitDefEqProofs [Ph_may_have, b_may_have, e0, e1]
  simp only [← List.getD_eq_getElem?_getD]
  obtain ⟨ρ', e1, x4, x5, e2⟩ := forL_all (step := turnD (sT 2 (sCons (sN 4) (sCons (sN 5) sNil))) L_may_have_1) (xs := List.range hs.length) (mk := fun k => .tuple [.int (k : Nat), oD (hs.getD k none)])
    (fun pre (ρ : Rho) => ∃ x4 x5, ρ = [.im (wD (maN w hs pre.length).1), .im (.tuple (hs.map oD)), .ow (.list ((maN w hs pre.length).2.2.map fun k => .int (k : Nat))), .im (.int ((maN w hs pre.length).2.1 : Nat)), x4, x5])
    [.im (wD w), .im (.tuple (hs.map oD)), .ow (.list []), .im (.int 0), .un, .un] ⟨_, _, rfl⟩ (by
    rintro pre post ρ k ⟨y4, y5, rfl⟩ hx
    obtain ⟨g1, g2, g3⟩ := range_split hx
    subst g1
    obtain ⟨k2, k3⟩ := ma_s w hs pre.length
    rw [List.length_append, List.length_singleton, maN]
    cases ho : hs.getD pre.length none with
    | none =>
      generalize maN w hs pre.length = st at *
      exact ⟨_, .inl (by simp -implicitDefEqProofs [L_may_have_1, not_none]), .im (.int (pre.length : Nat)), .im (oD none), rfl⟩
    | some v =>
      generalize maN w hs pre.length = st at *
      obtain ⟨u, s, l⟩ := st
      dsimp only at k2 k3 ⊢
      have hn := nice_w.ne (by decide) v u
      have k6 := lr2_nat s (pre.length + 1) (by omega) (by omega)
      rw [show ((pre.length + 1 : Nat) : Int) = (pre.length : Int) + 1 by omega] at k6
      have k7 : l.length + (rgF s (pre.length + 1)).length ≤ sizeLine := by simp [rgF]; omega
      by_cases huv : u = v
      · refine ⟨_, .inl ?_, .im (.int (pre.length : Nat)), .im (oD (some v)), rfl⟩
        subst huv
        simp -implicitDefEqProofs [L_may_have_1, wD_nn, oD_some, hn]
      · have huv' : ¬ v = u := fun z => huv z.symm
        refine ⟨_, .inl ?_, .im (.int (pre.length : Nat)), .im (oD (some v)), rfl⟩
        simp -implicitDefEqProofs [L_may_have_1, wD_nn, oD_some, hn, huv, huv', k6, k7])
  rw [e1]
  subst e2
  simp -implicitDefEqProofs [mayF]
/-! the law's own: known, chain, gaps, full, sure, maybe -/
def knF (hs : List (Option W)) : List Nat := (List.range hs.length).filter fun k => (hs.getD k none).isSome
def chF (w : W) (hs : List (Option W)) : List W := w :: (knF hs).map fun k => (hs.getD k none).getD []
def gaF (w : W) (hs : List (Option W)) : List Int := (List.range (knF hs).length).map fun k => gp ((chF w hs).getD k []) ((chF w hs).getD (k + 1) [])
def fstF (ks : List Nat) (i : Nat) : Nat := if i > 0 then ks.getD (i - 1) 0 + 1 else 0
def lwN (ks : List Nat) (gs : List Int) : Nat → List Nat × List Nat
  | 0 => ([], [])
  | i + 1 => if gs.getD i 0 > 0 then ((if fstF ks i = ks.getD i 0 then (lwN ks gs i).1 ++ [ks.getD i 0] else (lwN ks gs i).1), (lwN ks gs i).2 ++ rgF (fstF ks i) (ks.getD i 0 + 1)) else lwN ks gs i
theorem gaF_eq (w : W) (hs : List (Option W)) (h : hs.length ≤ 4) : gaF w hs = floorF w hs := by
  match hs, h with
  | [], _ => rfl
  | [a], _ => cases a <;> rfl
  | [a, b], _ => cases a <;> cases b <;> rfl
  | [a, b, c], _ => cases a <;> cases b <;> cases c <;> rfl
  | [a, b, c, d], _ => cases a <;> cases b <;> cases c <;> cases d <;> rfl
theorem sure_eq (w : W) (hs : List (Option W)) (h : hs.length ≤ 4) : (lwN (knF hs) (gaF w hs) (knF hs).length).1 = whoF w hs := by
  match hs, h with
  | [], _ => rfl
  | [none], _ => simp [*, lwN, knF, gaF, whoF, whoC, ahd, chF, fstF, List.range_succ, gp_pos, List.filter_cons, mayF, maN, rgF]
  | [some a], _ => by_cases h1 : w = a <;> (try subst h1) <;> simp [*, lwN, knF, gaF, whoF, whoC, ahd, chF, fstF, List.range_succ, gp_pos, List.filter_cons, mayF, maN, rgF]
  | [none, none], _ => simp [*, lwN, knF, gaF, whoF, whoC, ahd, chF, fstF, List.range_succ, gp_pos, List.filter_cons, mayF, maN, rgF]
  | [none, some b], _ => by_cases h1 : w = b <;> (try subst h1) <;> simp [*, lwN, knF, gaF, whoF, whoC, ahd, chF, fstF, List.range_succ, gp_pos, List.filter_cons, mayF, maN, rgF]
  | [some a, none], _ => by_cases h1 : w = a <;> (try subst h1) <;> simp [*, lwN, knF, gaF, whoF, whoC, ahd, chF, fstF, List.range_succ, gp_pos, List.filter_cons, mayF, maN, rgF]
  | [some a, some b], _ => by_cases h2 : a = b <;> (try subst h2) <;> by_cases h1 : w = a <;> (try subst h1) <;> simp [*, lwN, knF, gaF, whoF, whoC, ahd, chF, fstF, List.range_succ, gp_pos, List.filter_cons, mayF, maN, rgF]
  | [none, none, none], _ => simp [*, lwN, knF, gaF, whoF, whoC, ahd, chF, fstF, List.range_succ, gp_pos, List.filter_cons, mayF, maN, rgF]
  | [none, none, some c], _ => by_cases h1 : w = c <;> (try subst h1) <;> simp [*, lwN, knF, gaF, whoF, whoC, ahd, chF, fstF, List.range_succ, gp_pos, List.filter_cons, mayF, maN, rgF]
  | [none, some b, none], _ => by_cases h1 : w = b <;> (try subst h1) <;> simp [*, lwN, knF, gaF, whoF, whoC, ahd, chF, fstF, List.range_succ, gp_pos, List.filter_cons, mayF, maN, rgF]
  | [none, some b, some c], _ => by_cases h2 : b = c <;> (try subst h2) <;> by_cases h1 : w = b <;> (try subst h1) <;> simp [*, lwN, knF, gaF, whoF, whoC, ahd, chF, fstF, List.range_succ, gp_pos, List.filter_cons, mayF, maN, rgF]
  | [some a, none, none], _ => by_cases h1 : w = a <;> (try subst h1) <;> simp [*, lwN, knF, gaF, whoF, whoC, ahd, chF, fstF, List.range_succ, gp_pos, List.filter_cons, mayF, maN, rgF]
  | [some a, none, some c], _ => by_cases h2 : a = c <;> (try subst h2) <;> by_cases h1 : w = a <;> (try subst h1) <;> simp [*, lwN, knF, gaF, whoF, whoC, ahd, chF, fstF, List.range_succ, gp_pos, List.filter_cons, mayF, maN, rgF]
  | [some a, some b, none], _ => by_cases h2 : a = b <;> (try subst h2) <;> by_cases h1 : w = a <;> (try subst h1) <;> simp [*, lwN, knF, gaF, whoF, whoC, ahd, chF, fstF, List.range_succ, gp_pos, List.filter_cons, mayF, maN, rgF]
  | [some a, some b, some c], _ => by_cases h3 : b = c <;> (try subst h3) <;> by_cases h2 : a = b <;> (try subst h2) <;> by_cases h1 : w = a <;> (try subst h1) <;> simp [*, lwN, knF, gaF, whoF, whoC, ahd, chF, fstF, List.range_succ, gp_pos, List.filter_cons, mayF, maN, rgF]
  | [none, none, none, none], _ => simp [*, lwN, knF, gaF, whoF, whoC, ahd, chF, fstF, List.range_succ, gp_pos, List.filter_cons, mayF, maN, rgF]
  | [none, none, none, some d], _ => by_cases h1 : w = d <;> (try subst h1) <;> simp [*, lwN, knF, gaF, whoF, whoC, ahd, chF, fstF, List.range_succ, gp_pos, List.filter_cons, mayF, maN, rgF]
  | [none, none, some c, none], _ => by_cases h1 : w = c <;> (try subst h1) <;> simp [*, lwN, knF, gaF, whoF, whoC, ahd, chF, fstF, List.range_succ, gp_pos, List.filter_cons, mayF, maN, rgF]
  | [none, none, some c, some d], _ => by_cases h2 : c = d <;> (try subst h2) <;> by_cases h1 : w = c <;> (try subst h1) <;> simp [*, lwN, knF, gaF, whoF, whoC, ahd, chF, fstF, List.range_succ, gp_pos, List.filter_cons, mayF, maN, rgF]
  | [none, some b, none, none], _ => by_cases h1 : w = b <;> (try subst h1) <;> simp [*, lwN, knF, gaF, whoF, whoC, ahd, chF, fstF, List.range_succ, gp_pos, List.filter_cons, mayF, maN, rgF]
  | [none, some b, none, some d], _ => by_cases h2 : b = d <;> (try subst h2) <;> by_cases h1 : w = b <;> (try subst h1) <;> simp [*, lwN, knF, gaF, whoF, whoC, ahd, chF, fstF, List.range_succ, gp_pos, List.filter_cons, mayF, maN, rgF]
  | [none, some b, some c, none], _ => by_cases h2 : b = c <;> (try subst h2) <;> by_cases h1 : w = b <;> (try subst h1) <;> simp [*, lwN, knF, gaF, whoF, whoC, ahd, chF, fstF, List.range_succ, gp_pos, List.filter_cons, mayF, maN, rgF]
  | [none, some b, some c, some d], _ => by_cases h3 : c = d <;> (try subst h3) <;> by_cases h2 : b = c <;> (try subst h2) <;> by_cases h1 : w = b <;> (try subst h1) <;> simp [*, lwN, knF, gaF, whoF, whoC, ahd, chF, fstF, List.range_succ, gp_pos, List.filter_cons, mayF, maN, rgF]
  | [some a, none, none, none], _ => by_cases h1 : w = a <;> (try subst h1) <;> simp [*, lwN, knF, gaF, whoF, whoC, ahd, chF, fstF, List.range_succ, gp_pos, List.filter_cons, mayF, maN, rgF]
  | [some a, none, none, some d], _ => by_cases h2 : a = d <;> (try subst h2) <;> by_cases h1 : w = a <;> (try subst h1) <;> simp [*, lwN, knF, gaF, whoF, whoC, ahd, chF, fstF, List.range_succ, gp_pos, List.filter_cons, mayF, maN, rgF]
  | [some a, none, some c, none], _ => by_cases h2 : a = c <;> (try subst h2) <;> by_cases h1 : w = a <;> (try subst h1) <;> simp [*, lwN, knF, gaF, whoF, whoC, ahd, chF, fstF, List.range_succ, gp_pos, List.filter_cons, mayF, maN, rgF]
  | [some a, none, some c, some d], _ => by_cases h3 : c = d <;> (try subst h3) <;> by_cases h2 : a = c <;> (try subst h2) <;> by_cases h1 : w = a <;> (try subst h1) <;> simp [*, lwN, knF, gaF, whoF, whoC, ahd, chF, fstF, List.range_succ, gp_pos, List.filter_cons, mayF, maN, rgF]
  | [some a, some b, none, none], _ => by_cases h2 : a = b <;> (try subst h2) <;> by_cases h1 : w = a <;> (try subst h1) <;> simp [*, lwN, knF, gaF, whoF, whoC, ahd, chF, fstF, List.range_succ, gp_pos, List.filter_cons, mayF, maN, rgF]
  | [some a, some b, none, some d], _ => by_cases h3 : b = d <;> (try subst h3) <;> by_cases h2 : a = b <;> (try subst h2) <;> by_cases h1 : w = a <;> (try subst h1) <;> simp [*, lwN, knF, gaF, whoF, whoC, ahd, chF, fstF, List.range_succ, gp_pos, List.filter_cons, mayF, maN, rgF]
  | [some a, some b, some c, none], _ => by_cases h3 : b = c <;> (try subst h3) <;> by_cases h2 : a = b <;> (try subst h2) <;> by_cases h1 : w = a <;> (try subst h1) <;> simp [*, lwN, knF, gaF, whoF, whoC, ahd, chF, fstF, List.range_succ, gp_pos, List.filter_cons, mayF, maN, rgF]
  | [some a, some b, some c, some d], _ => by_cases h4 : c = d <;> (try subst h4) <;> by_cases h3 : b = c <;> (try subst h3) <;> by_cases h2 : a = b <;> (try subst h2) <;> by_cases h1 : w = a <;> (try subst h1) <;> simp [*, lwN, knF, gaF, whoF, whoC, ahd, chF, fstF, List.range_succ, gp_pos, List.filter_cons, mayF, maN, rgF]
theorem maybe_eq (w : W) (hs : List (Option W)) (h : hs.length ≤ 4) : (lwN (knF hs) (gaF w hs) (knF hs).length).2 = mayF w hs := by
  match hs, h with
  | [], _ => rfl
  | [none], _ => simp [*, lwN, knF, gaF, whoF, whoC, ahd, chF, fstF, List.range_succ, gp_pos, List.filter_cons, mayF, maN, rgF]
  | [some a], _ => by_cases h1 : w = a <;> (try subst h1) <;> simp [*, lwN, knF, gaF, whoF, whoC, ahd, chF, fstF, List.range_succ, gp_pos, List.filter_cons, mayF, maN, rgF]
  | [none, none], _ => simp [*, lwN, knF, gaF, whoF, whoC, ahd, chF, fstF, List.range_succ, gp_pos, List.filter_cons, mayF, maN, rgF]
  | [none, some b], _ => by_cases h1 : w = b <;> (try subst h1) <;> simp [*, lwN, knF, gaF, whoF, whoC, ahd, chF, fstF, List.range_succ, gp_pos, List.filter_cons, mayF, maN, rgF]
  | [some a, none], _ => by_cases h1 : w = a <;> (try subst h1) <;> simp [*, lwN, knF, gaF, whoF, whoC, ahd, chF, fstF, List.range_succ, gp_pos, List.filter_cons, mayF, maN, rgF]
  | [some a, some b], _ => by_cases h2 : a = b <;> (try subst h2) <;> by_cases h1 : w = a <;> (try subst h1) <;> simp [*, lwN, knF, gaF, whoF, whoC, ahd, chF, fstF, List.range_succ, gp_pos, List.filter_cons, mayF, maN, rgF]
  | [none, none, none], _ => simp [*, lwN, knF, gaF, whoF, whoC, ahd, chF, fstF, List.range_succ, gp_pos, List.filter_cons, mayF, maN, rgF]
  | [none, none, some c], _ => by_cases h1 : w = c <;> (try subst h1) <;> simp [*, lwN, knF, gaF, whoF, whoC, ahd, chF, fstF, List.range_succ, gp_pos, List.filter_cons, mayF, maN, rgF]
  | [none, some b, none], _ => by_cases h1 : w = b <;> (try subst h1) <;> simp [*, lwN, knF, gaF, whoF, whoC, ahd, chF, fstF, List.range_succ, gp_pos, List.filter_cons, mayF, maN, rgF]
  | [none, some b, some c], _ => by_cases h2 : b = c <;> (try subst h2) <;> by_cases h1 : w = b <;> (try subst h1) <;> simp [*, lwN, knF, gaF, whoF, whoC, ahd, chF, fstF, List.range_succ, gp_pos, List.filter_cons, mayF, maN, rgF]
  | [some a, none, none], _ => by_cases h1 : w = a <;> (try subst h1) <;> simp [*, lwN, knF, gaF, whoF, whoC, ahd, chF, fstF, List.range_succ, gp_pos, List.filter_cons, mayF, maN, rgF]
  | [some a, none, some c], _ => by_cases h2 : a = c <;> (try subst h2) <;> by_cases h1 : w = a <;> (try subst h1) <;> simp [*, lwN, knF, gaF, whoF, whoC, ahd, chF, fstF, List.range_succ, gp_pos, List.filter_cons, mayF, maN, rgF]
  | [some a, some b, none], _ => by_cases h2 : a = b <;> (try subst h2) <;> by_cases h1 : w = a <;> (try subst h1) <;> simp [*, lwN, knF, gaF, whoF, whoC, ahd, chF, fstF, List.range_succ, gp_pos, List.filter_cons, mayF, maN, rgF]
  | [some a, some b, some c], _ => by_cases h3 : b = c <;> (try subst h3) <;> by_cases h2 : a = b <;> (try subst h2) <;> by_cases h1 : w = a <;> (try subst h1) <;> simp [*, lwN, knF, gaF, whoF, whoC, ahd, chF, fstF, List.range_succ, gp_pos, List.filter_cons, mayF, maN, rgF]
  | [none, none, none, none], _ => simp [*, lwN, knF, gaF, whoF, whoC, ahd, chF, fstF, List.range_succ, gp_pos, List.filter_cons, mayF, maN, rgF]
  | [none, none, none, some d], _ => by_cases h1 : w = d <;> (try subst h1) <;> simp [*, lwN, knF, gaF, whoF, whoC, ahd, chF, fstF, List.range_succ, gp_pos, List.filter_cons, mayF, maN, rgF]
  | [none, none, some c, none], _ => by_cases h1 : w = c <;> (try subst h1) <;> simp [*, lwN, knF, gaF, whoF, whoC, ahd, chF, fstF, List.range_succ, gp_pos, List.filter_cons, mayF, maN, rgF]
  | [none, none, some c, some d], _ => by_cases h2 : c = d <;> (try subst h2) <;> by_cases h1 : w = c <;> (try subst h1) <;> simp [*, lwN, knF, gaF, whoF, whoC, ahd, chF, fstF, List.range_succ, gp_pos, List.filter_cons, mayF, maN, rgF]
  | [none, some b, none, none], _ => by_cases h1 : w = b <;> (try subst h1) <;> simp [*, lwN, knF, gaF, whoF, whoC, ahd, chF, fstF, List.range_succ, gp_pos, List.filter_cons, mayF, maN, rgF]
  | [none, some b, none, some d], _ => by_cases h2 : b = d <;> (try subst h2) <;> by_cases h1 : w = b <;> (try subst h1) <;> simp [*, lwN, knF, gaF, whoF, whoC, ahd, chF, fstF, List.range_succ, gp_pos, List.filter_cons, mayF, maN, rgF]
  | [none, some b, some c, none], _ => by_cases h2 : b = c <;> (try subst h2) <;> by_cases h1 : w = b <;> (try subst h1) <;> simp [*, lwN, knF, gaF, whoF, whoC, ahd, chF, fstF, List.range_succ, gp_pos, List.filter_cons, mayF, maN, rgF]
  | [none, some b, some c, some d], _ => by_cases h3 : c = d <;> (try subst h3) <;> by_cases h2 : b = c <;> (try subst h2) <;> by_cases h1 : w = b <;> (try subst h1) <;> simp [*, lwN, knF, gaF, whoF, whoC, ahd, chF, fstF, List.range_succ, gp_pos, List.filter_cons, mayF, maN, rgF]
  | [some a, none, none, none], _ => by_cases h1 : w = a <;> (try subst h1) <;> simp [*, lwN, knF, gaF, whoF, whoC, ahd, chF, fstF, List.range_succ, gp_pos, List.filter_cons, mayF, maN, rgF]
  | [some a, none, none, some d], _ => by_cases h2 : a = d <;> (try subst h2) <;> by_cases h1 : w = a <;> (try subst h1) <;> simp [*, lwN, knF, gaF, whoF, whoC, ahd, chF, fstF, List.range_succ, gp_pos, List.filter_cons, mayF, maN, rgF]
  | [some a, none, some c, none], _ => by_cases h2 : a = c <;> (try subst h2) <;> by_cases h1 : w = a <;> (try subst h1) <;> simp [*, lwN, knF, gaF, whoF, whoC, ahd, chF, fstF, List.range_succ, gp_pos, List.filter_cons, mayF, maN, rgF]
  | [some a, none, some c, some d], _ => by_cases h3 : c = d <;> (try subst h3) <;> by_cases h2 : a = c <;> (try subst h2) <;> by_cases h1 : w = a <;> (try subst h1) <;> simp [*, lwN, knF, gaF, whoF, whoC, ahd, chF, fstF, List.range_succ, gp_pos, List.filter_cons, mayF, maN, rgF]
  | [some a, some b, none, none], _ => by_cases h2 : a = b <;> (try subst h2) <;> by_cases h1 : w = a <;> (try subst h1) <;> simp [*, lwN, knF, gaF, whoF, whoC, ahd, chF, fstF, List.range_succ, gp_pos, List.filter_cons, mayF, maN, rgF]
  | [some a, some b, none, some d], _ => by_cases h3 : b = d <;> (try subst h3) <;> by_cases h2 : a = b <;> (try subst h2) <;> by_cases h1 : w = a <;> (try subst h1) <;> simp [*, lwN, knF, gaF, whoF, whoC, ahd, chF, fstF, List.range_succ, gp_pos, List.filter_cons, mayF, maN, rgF]
  | [some a, some b, some c, none], _ => by_cases h3 : b = c <;> (try subst h3) <;> by_cases h2 : a = b <;> (try subst h2) <;> by_cases h1 : w = a <;> (try subst h1) <;> simp [*, lwN, knF, gaF, whoF, whoC, ahd, chF, fstF, List.range_succ, gp_pos, List.filter_cons, mayF, maN, rgF]
  | [some a, some b, some c, some d], _ => by_cases h4 : c = d <;> (try subst h4) <;> by_cases h3 : b = c <;> (try subst h3) <;> by_cases h2 : a = b <;> (try subst h2) <;> by_cases h1 : w = a <;> (try subst h1) <;> simp [*, lwN, knF, gaF, whoF, whoC, ahd, chF, fstF, List.range_succ, gp_pos, List.filter_cons, mayF, maN, rgF]
end Hd
end

/-! part: K35h -/
section
set_option Elab.async false
set_option linter.all false
set_option maxRecDepth 100000
set_option maxHeartbeats 400000
namespace Hd
open PySem PySem.Spec Q
def oI : Option Int → D
  | none => .none
  | some i => .int i
theorem oI_nn (o : Option Int) : notND (oI o) .none = some (.bool o.isSome) := by cases o <;> rfl
def lmin : List Int → Option Int
  | [] => none
  | x :: xs => some (leastBy (fun a b => decide (a < b)) x xs)
theorem minDf_i (l : List Int) : minDf (.list (l.map .int)) .none = some (oI (lmin l)) := by
  cases l with
  | nil => rfl
  | cons x xs =>
    have := minOf_nice nice_int (by decide) ordd_int x xs
    rw [List.map_cons] at this ⊢
    exact this
theorem minA_i (l : List Int) (h : l ≠ []) : minA [.list (l.map .int)] = some (oI (lmin l)) := by
  cases l with
  | nil => exact absurd rfl h
  | cons x xs =>
    have := minOf_nice nice_int (by decide) ordd_int x xs
    rw [List.map_cons] at this ⊢
    exact this
def sumsL (row : List (Option Int)) (c : Nat → Int) : List Int := ((List.range row.length).filter fun j => (row.getD j none).isSome).map fun j => (row.getD j none).getD 0 + c j
def okS (ws : List W) : Prop := (1 ≤ ws.length ∧ ws.length ≤ 40) ∧ ∀ w ∈ ws, okW w
def gapsD (ws : List W) : D := .list (ws.map fun one => .tuple ((ws.map fun o => gp one o).map .int))
theorem e_gaps_of (ws : List W) (h : okS ws) : Ph_gaps_of [.tuple (ws.map wD)] = some (gapsD ws) := by
  obtain ⟨h1, h2⟩ := h
  simp -implicitDefEqProofs [Ph_gaps_of, b_gaps_of]
  rw [lcL_all (g := fun one => PyData.tuple ((ws.map fun o => gp one o).map .int)) (by simp) (fun one ho => by
    simp -implicitDefEqProofs
    rw [lcL_all (g := fun o => PyData.int (gp one o)) (by simp) (fun o ho2 => by simp [e_gap_of one o (okW_len (h2 _ ho)) (okW_len (h2 _ ho2))]), Option.bind_some, lcB_small (by simp; omega)]
    simp [Function.comp_def]), Option.bind_some, Function.comp, lcB_small (by simp; omega)]
  simp -implicitDefEqProofs [gapsD]
theorem e_least_sum (row : List (Option Int)) (cs : List Int) (hl : row.length ≤ cs.length) (h2 : row.length ≤ 1000) (d : D) (hd : d = .list (row.map oI) ∨ d = .tuple (row.map oI)) : Ph_least_sum [d, .tuple (cs.map .int)] = some (oI (lmin (sumsL row fun j => cs.getD j 0))) := by
  have e1 := enum_mk (mk := oI) none row d hd
  simp -implicitDefEqProofs [Ph_least_sum, b_least_sum, e1]
  simp only [← List.getD_eq_getElem?_getD]
  rw [lcL_map (p := fun j => (row.getD j none).isSome) (g := fun j => PyData.int ((row.getD j none).getD 0 + cs.getD j 0)) (fun j hj => by
    generalize row.getD j none = o
    simp -implicitDefEqProofs [oI_nn]) (fun j hj hp => by
    have hj' := List.mem_range.mp hj
    have a1 := at_n cs (k := j) (by omega)
    generalize row.getD j none = o at *
    cases o with
    | none => simp at hp
    | some i =>
      generalize cs.getD j 0 = c at *
      simp [oI, a1]), Option.bind_some, lcB_small (by
      have := List.length_filter_le (fun j => (row.getD j none).isSome) (List.range row.length)
      simp at this ⊢
      omega)]
  have e2 : (((List.range row.length).filter fun j => (row.getD j none).isSome).map fun j => PyData.int ((row.getD j none).getD 0 + cs.getD j 0)) = (sumsL row fun j => cs.getD j 0).map .int := by
    unfold sumsL
    rw [List.map_map]
    rfl
  rw [e2]
  simp [minDf_i]
def maskF (ws : List W) (h : Option W) (row : List (Option Int)) : List (Option Int) := (List.range ws.length).map fun p => if h = none ∨ h = some (ws.getD p []) then row.getD p none else none
def stepF (ws : List W) (row : List (Option Int)) : List (Option Int) := (List.range ws.length).map fun p => lmin (sumsL row fun j => gp (ws.getD p []) (ws.getD j []))
def tbR (w : W) (ws : List W) (hs : List (Option W)) : Nat → List (Option Int)
  | 0 => maskF ws (hs.getD 0 none) (ws.map fun o => some (gp w o))
  | k + 1 => maskF ws (hs.getD (k + 1) none) (stepF ws (tbR w ws hs k))
def tbF (w : W) (ws : List W) (hs : List (Option W)) : List (List (Option Int)) := (List.range hs.length).map (tbR w ws hs)
theorem mask_len (ws : List W) (h : Option W) (row : List (Option Int)) : (maskF ws h row).length = ws.length := by simp [maskF]
theorem step_len (ws : List W) (row : List (Option Int)) : (stepF ws row).length = ws.length := by simp [stepF]
theorem tbR_len (w : W) (ws : List W) (hs : List (Option W)) (k : Nat) : (tbR w ws hs k).length = ws.length := by cases k <;> exact mask_len ..
theorem wget (ws : List W) {p : Nat} (h : p < ws.length) : L2.atI (ws.map wD) (p : Int) = some (wD (ws.getD p [])) := at_mk ws [] h
theorem gaps_at (ws : List W) {p : Nat} (h : p < ws.length) : ixD (gapsD ws) (.int (p : Int)) = some (.tuple ((ws.map fun o => gp (ws.getD p []) o).map .int)) := at_mk (mk := fun one => PyData.tuple ((ws.map fun o => gp one o).map .int)) ws [] h
theorem sums_congr {row : List (Option Int)} {c c' : Nat → Int} (h : ∀ j, j < row.length → c j = c' j) : sumsL row c = sumsL row c' := by
  unfold sumsL
  apply List.map_congr_left
  intro j hj
  have := List.mem_range.mp (List.mem_filter.mp hj).1
  rw [h j this]
theorem gets {α β : Type} (f : α → β) (xs : List α) (d : α) (e : β) {k : Nat} (h : k < xs.length) : (xs.map f).getD k e = f (xs.getD k d) := by simp [h]
/-- the comprehension that steps a row -/
theorem e_step (ws : List W) (row : List (Option Int)) (hl : row.length = ws.length) (hw : ws.length ≤ 40) (p : Nat) (hp : p < ws.length) (d : D) (hd : d = .list (row.map oI) ∨ d = .tuple (row.map oI)) :
    ((ixD (gapsD ws) (.int (p : Int))).bind fun y => Ph_least_sum [d, y]) = some (oI ((stepF ws row).getD p none)) := by
  rw [gaps_at ws hp, Option.bind_some, e_least_sum row _ (by simp [hl]) (by omega) d hd]
  congr 2
  rw [stepF, gets _ _ 0 none (by simpa using hp)]
  congr 1
  have e : (List.range ws.length).getD p 0 = p := by simp [hp]
  rw [e]
  apply sums_congr
  intro j hj
  rw [gets (fun o => gp (ws.getD p []) o) ws [] 0 (by omega)]
/-- the mask -/
theorem hin (h : Option W) (v : W) : inD (oD h) (.tuple [.none, wD v]) = some (.bool (decide (h = none ∨ h = some v))) := by
  have := nice_o.in_t (by decide) h [none, some v]
  simpa [oD] using this
theorem get_map_range {α : Type} (f : Nat → α) (d : α) {k n : Nat} (h : k < n) : ((List.range n).map f).getD k d = f k := by simp [h]
theorem enum_w (ws : List W) : enumD (.tuple (ws.map wD)) = some ((List.range ws.length).map fun (i : Nat) => .tuple [.int (i : Int), wD (ws.getD i [])]) := enum_mk [] ws _ (.inr rfl)
theorem map_oI (l : List (Option Int)) {n : Nat} (hl : l.length = n) : (List.range n).map (fun p => oI (l.getD p none)) = l.map oI := by
  subst hl
  apply List.ext_getElem
  · simp
  · intro i h1 h2
    simp at h1 h2
    simp [h2]
theorem table_row (w : W) (ws : List W) (hs : List (Option W)) (hw : okW w) (hws : okS ws) (hl : hs.length ≤ 4) (k : Nat) (hk : k < hs.length) (y5 y6 y7 y8 y9 : Sl) :
    turnD (sT 2 (sCons (sN 5) (sCons (sN 6) sNil))) L_table_of_1 (.tuple [.int (k : Nat), oD (hs.getD k none)]) [.im (wD w), .im (.tuple (ws.map wD)), .im (.tuple (hs.map oD)), .im (gapsD ws), .ow (.list ((List.range k).map fun t => .tuple ((tbR w ws hs t).map oI))), y5, y6, y7, y8, y9] =
      some (.nx [.im (wD w), .im (.tuple (ws.map wD)), .im (.tuple (hs.map oD)), .im (gapsD ws), .ow (.list ((List.range (k + 1)).map fun t => .tuple ((tbR w ws hs t).map oI))), .im (.int (k : Nat)), .im (oD (hs.getD k none)), .im (.list ((match k with
        | 0 => ws.map fun o => some (gp w o)
        | t + 1 => stepF ws (tbR w ws hs t)).map oI)), y8, y9]) := by
  have hlen := line_ge
  obtain ⟨h1, h2⟩ := hws
  have e1 := enum_w ws
  have q : ∀ row : List (Option Int), row.length = ws.length → ∀ ρ : Rho, ρ[1]? = some (.im (.tuple (ws.map wD))) → ρ[6]? = some (.im (oD (hs.getD k none))) → ρ[7]? = some (.im (.list (row.map oI))) → ρ.length = 10 →
    (fLc (fEnum (vF 1)) (sT 2 (sCons (sN 9) (sCons (sN 8) (sNil)))) (fYes) (fIf (fT (f2 inD (vF 6) (fTup (aCons (cD .none) (aCons (vF 8) (aNil)))))) (f2 ixD (vF 7) (vF 9)) (cD .none)) [9, 8]) ρ = some (.list ((maskF ws (hs.getD k none) row).map oI)) := by
    intro row hr ρ q1 q6 q7 qn
    obtain ⟨a0, a1, a2, a3, a4, a5, a6, a7, a8, a9, rfl⟩ : ∃ a0 a1 a2 a3 a4 a5 a6 a7 a8 a9, ρ = [a0, a1, a2, a3, a4, a5, a6, a7, a8, a9] := by
      match ρ, qn with
      | [a0, a1, a2, a3, a4, a5, a6, a7, a8, a9], _ => exact ⟨_, _, _, _, _, _, _, _, _, _, rfl⟩
    cases q1; cases q6; cases q7
    simp -implicitDefEqProofs [e1]
    simp only [← List.getD_eq_getElem?_getD]
    generalize hs.getD k none = h
    rw [lcL_all (g := fun p => oI ((maskF ws h row).getD p none)) (by simp) (fun p hp => by
      have hp' := List.mem_range.mp hp
      have a1 := at_mk (mk := oI) row none (k := p) (by omega)
      rw [maskF, get_map_range _ none hp']
      have a2 := hin h (ws.getD p [])
      generalize ws.getD p [] = v at *
      generalize row.getD p none = o at *
      by_cases c : h = none ∨ h = some v
      · simp [a2, c, a1]
      · simp [a2, c, oI]), Option.bind_some, lcB_small (by simp; omega)]
    rw [map_oI _ (mask_len ..)]
  cases k with
  | zero =>
    have s1 : ∀ ρ : Rho, ρ[1]? = some (.im (.tuple (ws.map wD))) → ρ[0]? = some (.im (wD w)) → ρ.length = 10 → fLc (fI (vF 1)) (sN 8) (fYes) (fB (Ph_gap_of) (aCons (vF 0) (aCons (vF 8) (aNil)))) [8] ρ = some (.list ((ws.map fun o => some (gp w o)).map oI)) := by
      intro ρ q1 q0 qn
      obtain ⟨a0, a1, a2, a3, a4, a5, a6, a7, a8, a9, rfl⟩ : ∃ a0 a1 a2 a3 a4 a5 a6 a7 a8 a9, ρ = [a0, a1, a2, a3, a4, a5, a6, a7, a8, a9] := by
        match ρ, qn with
        | [a0, a1, a2, a3, a4, a5, a6, a7, a8, a9], _ => exact ⟨_, _, _, _, _, _, _, _, _, _, rfl⟩
      cases q1; cases q0
      simp -implicitDefEqProofs
      rw [lcL_all (g := fun o => oI (some (gp w o))) (by simp) (fun o ho => by simp [e_gap_of w o (okW_len hw) (okW_len (h2 _ ho)), oI]), Option.bind_some, lcB_small (by simp; omega)]
      simp [Function.comp_def]
    have e7 : ((List.range (0 + 1)).map fun t => PyData.tuple ((tbR w ws hs t).map oI)) = [.tuple ((maskF ws (hs.getD 0 none) (ws.map fun o => some (gp w o))).map oI)] := rfl
    rw [e7]
    dsimp only
    have q0 := q (ws.map fun o => some (gp w o)) (by simp) [.im (wD w), .im (.tuple (ws.map wD)), .im (.tuple (hs.map oD)), .im (gapsD ws), .ow (.list []), .im (.int 0), .im (oD (hs.getD 0 none)), .im (.list ((ws.map fun o => some (gp w o)).map oI)), y8, y9] rfl rfl rfl rfl
    have s0 := s1 [.im (wD w), .im (.tuple (ws.map wD)), .im (.tuple (hs.map oD)), .im (gapsD ws), .ow (.list []), .im (.int 0), .im (oD (hs.getD 0 none)), y7, y8, y9] rfl rfl rfl
    clear q s1
    generalize hs.getD 0 none = h at *
    generalize (ws.map fun o => some (gp w o)) = row at *
    have e5 : 0 < sizeLine := by omega
    simp -implicitDefEqProofs only [L_table_of_1, turnD_e, List.range_zero, List.map_nil]
    simp -implicitDefEqProofs [↓s0, ↓q0, e5]
  | succ t =>
    have r1 := tbR_len w ws hs t
    have s1 : ∀ R : List D, L2.atI R (t : Int) = some (.tuple ((tbR w ws hs t).map oI)) → ∀ ρ : Rho, ρ[1]? = some (.im (.tuple (ws.map wD))) → ρ[3]? = some (.im (gapsD ws)) → ρ[5]? = some (.im (.int ((t : Int) + 1))) → ρ[4]? = some (.ow (.list R)) → ρ.length = 10 →
      fLc (fIs rg1D (aCons (fB lenD (aCons (vF 1) (aNil))) (aNil))) (sN 9) (fYes) (fB (Ph_least_sum) (aCons (f2 ixD (vP 4) (f2 subD (vF 5) (cD (.int 1)))) (aCons (f2 ixD (vF 3) (vF 9)) (aNil)))) [9] ρ = some (.list ((stepF ws (tbR w ws hs t)).map oI)) := by
      intro R hR ρ q1 q3 q5 q4 qn
      obtain ⟨a0, a1, a2, a3, a4, a5, a6, a7, a8, a9, rfl⟩ : ∃ a0 a1 a2 a3 a4 a5 a6 a7 a8 a9, ρ = [a0, a1, a2, a3, a4, a5, a6, a7, a8, a9] := by
        match ρ, qn with
        | [a0, a1, a2, a3, a4, a5, a6, a7, a8, a9], _ => exact ⟨_, _, _, _, _, _, _, _, _, _, rfl⟩
      cases q1; cases q3; cases q4; cases q5
      have r2 := rg1_n (k := ws.length) (by omega)
      simp -implicitDefEqProofs [r2]
      have hst := step_len ws (tbR w ws hs t)
      have hes := e_step ws (tbR w ws hs t) r1 h1.2
      generalize tbR w ws hs t = row at *
      rw [lcL_all (g := fun p => oI ((stepF ws row).getD p none)) (by simp) (fun p hp => by
        have hp' := List.mem_range.mp hp
        have a1 := hes p hp' _ (.inr rfl)
        generalize (stepF ws row).getD p none = o at *
        rw [← a1]
        simp -implicitDefEqProofs [hR]
        cases ixD (gapsD ws) (.int (p : Int)) <;> rfl), Option.bind_some, lcB_small (by simp; omega)]
      rw [map_oI _ hst]
    have e7 : ((List.range (t + 1 + 1)).map fun t => PyData.tuple ((tbR w ws hs t).map oI)) = ((List.range (t + 1)).map fun t => PyData.tuple ((tbR w ws hs t).map oI)) ++ [.tuple ((maskF ws (hs.getD (t + 1) none) (stepF ws (tbR w ws hs t))).map oI)] := by
      rw [List.range_succ (n := t + 1), List.map_append]
      rfl
    rw [e7]
    dsimp only
    have hR : L2.atI ((List.range (t + 1)).map fun t => PyData.tuple ((tbR w ws hs t).map oI)) (t : Int) = some (.tuple ((tbR w ws hs t).map oI)) := by
      rw [at_mk (mk := fun t => PyData.tuple ((tbR w ws hs t).map oI)) _ 0 (by simp)]
      simp
    have hRl : ((List.range (t + 1)).map fun t => PyData.tuple ((tbR w ws hs t).map oI)).length < sizeLine := by simp; omega
    generalize ((List.range (t + 1)).map fun t => PyData.tuple ((tbR w ws hs t).map oI)) = R at *
    have s0 := s1 R hR [.im (wD w), .im (.tuple (ws.map wD)), .im (.tuple (hs.map oD)), .im (gapsD ws), .ow (.list R), .im (.int ((t : Int) + 1)), .im (oD (hs.getD (t + 1) none)), y7, y8, y9] rfl rfl rfl rfl rfl
    have q0 := q (stepF ws (tbR w ws hs t)) (step_len ..) [.im (wD w), .im (.tuple (ws.map wD)), .im (.tuple (hs.map oD)), .im (gapsD ws), .ow (.list R), .im (.int ((t : Int) + 1)), .im (oD (hs.getD (t + 1) none)), .im (.list ((stepF ws (tbR w ws hs t)).map oI)), y8, y9] rfl rfl rfl rfl
    clear q s1
    generalize hs.getD (t + 1) none = h at *
    generalize stepF ws (tbR w ws hs t) = row at *
    have e8 : ¬ ((t : Int) + 1 = 0) := by omega
    rw [show ((t + 1 : Nat) : Int) = (t : Int) + 1 by omega]
    simp -implicitDefEqProofs [L_table_of_1, ↓s0, ↓q0, hRl, e8]
theorem e_table_of (w : W) (ws : List W) (hs : List (Option W)) (hw : okW w) (hws : okS ws) (hl : hs.length ≤ 4) : Ph_table_of [wD w, .tuple (ws.map wD), .tuple (hs.map oD)] = some (.tuple ((tbF w ws hs).map fun r => .tuple (r.map oI))) := by
  have e1 := enum_mk (mk := oD) none hs (.tuple (hs.map oD)) (.inr rfl)
  simp -implicitDefEqProofs [Ph_table_of, b_table_of, e_gaps_of ws hws, e1]
  simp only [← List.getD_eq_getElem?_getD]
  obtain ⟨ρ', e1, x5, x6, x7, x8, x9, e2⟩ := forL_all (step := turnD (sT 2 (sCons (sN 5) (sCons (sN 6) sNil))) L_table_of_1) (xs := List.range hs.length) (mk := fun k => .tuple [.int (k : Nat), oD (hs.getD k none)])
    (fun pre (ρ : Rho) => ∃ x5 x6 x7 x8 x9, ρ = [.im (wD w), .im (.tuple (ws.map wD)), .im (.tuple (hs.map oD)), .im (gapsD ws), .ow (.list ((List.range pre.length).map fun t => .tuple ((tbR w ws hs t).map oI))), x5, x6, x7, x8, x9])
    [.im (wD w), .im (.tuple (ws.map wD)), .im (.tuple (hs.map oD)), .im (gapsD ws), .ow (.list []), .un, .un, .un, .un, .un] ⟨_, _, _, _, _, rfl⟩ (by
    rintro pre post ρ k ⟨y5, y6, y7, y8, y9, rfl⟩ hx
    obtain ⟨g1, g2, g3⟩ := range_split hx
    subst g1
    refine ⟨_, .inl (table_row w ws hs hw hws hl pre.length g2 y5 y6 y7 y8 y9), ?_⟩
    rw [List.length_append]
    exact ⟨_, _, _, _, _, rfl⟩)
  rw [e1]
  subst e2
  simp -implicitDefEqProofs [tbF]
end Hd
end

/-! part: K35i -/
section
set_option Elab.async false
set_option linter.all false
set_option maxRecDepth 100000
set_option maxHeartbeats 400000
namespace Hd
open PySem PySem.Spec Q
theorem oD_ne (h : Option W) (v : W) : neD (oD h) (wD v) = some (.bool (!decide (h = some v))) := nice_o.ne (by decide) h (some v)
theorem oD_eq (h : Option W) (v : W) : eqD (oD h) (wD v) = some (.bool (decide (h = some v))) := nice_o.eq (by decide) h (some v)
def cellF (w : W) (ws : List W) (hs : List (Option W)) (k p : Nat) : Option Int := (tbR w ws hs k).getD p none
theorem cell_0 (w : W) (ws : List W) (hs : List (Option W)) {p : Nat} (hp : p < ws.length) : cellF w ws hs 0 p = if hs.getD 0 none = none ∨ hs.getD 0 none = some (ws.getD p []) then some (gp w (ws.getD p [])) else none := by
  rw [cellF, tbR, maskF, get_map_range _ _ hp, gets (fun o => some (gp w o)) ws [] none hp]
theorem cell_s (w : W) (ws : List W) (hs : List (Option W)) (t : Nat) {p : Nat} (hp : p < ws.length) : cellF w ws hs (t + 1) p = if hs.getD (t + 1) none = none ∨ hs.getD (t + 1) none = some (ws.getD p []) then lmin (sumsL (tbR w ws hs t) fun j => gp (ws.getD j []) (ws.getD p [])) else none := by
  have e : (fun j => gp (ws.getD p []) (ws.getD j [])) = fun j => gp (ws.getD j []) (ws.getD p []) := by funext j; rw [gp_symm]
  rw [cellF, tbR, maskF, get_map_range _ _ hp, stepF, get_map_range _ _ hp, e]
theorem ne_nil (l : List Int) : neD (.list (l.map .int)) (.list []) = some (.bool (!decide (l = []))) := (nice_lst nice_int).ne (by decide) l []
theorem lt_cell (w : W) (ws : List W) (hs : List (Option W)) (hw : okW w) (hws : okS ws) (hl : hs.length ≤ 4) (k p : Nat) (hk : k < hs.length) (hp : p < ws.length) (Rw : List D) (hRw : Rw.length < sizeLine) (y6 y7 y8 : Sl) :
    ∃ z7, turnD (sN 6) L__law_table_1 (wD (ws.getD p [])) [.im (wD w), .im (.tuple (ws.map wD)), .im (.tuple (hs.map oD)), .ow (.list ((List.range k).map fun t => .tuple ((tbR w ws hs t).map oI))), .im (.int (k : Nat)), .ow (.list Rw), y6, y7, y8] =
      some (.nx [.im (wD w), .im (.tuple (ws.map wD)), .im (.tuple (hs.map oD)), .ow (.list ((List.range k).map fun t => .tuple ((tbR w ws hs t).map oI))), .im (.int (k : Nat)), .ow (.list (Rw ++ [oI (cellF w ws hs k p)])), .im (wD (ws.getD p [])), z7, y8]) := by
  have hlen := line_ge
  obtain ⟨h1, h2⟩ := hws
  have ah := at_mk (mk := oD) hs none hk
  have hv : okW (ws.getD p []) := getD_ok h2 hp
  have eg := e_law_gap w (ws.getD p []) (okW_len hw) (okW_len hv)
  by_cases ok : hs.getD k none = none ∨ hs.getD k none = some (ws.getD p [])
  · cases k with
    | zero =>
      rw [cell_0 w ws hs hp, if_pos ok]
      have ah : L2.atI (hs.map oD) 0 = some (oD (hs.getD 0 none)) := ah
      generalize hs.getD 0 none = h at *
      generalize ws.getD p [] = v at *
      refine ⟨y7, ?_⟩
      rcases ok with rfl | rfl
      · simp -implicitDefEqProofs [L__law_table_1, ah, oD_none, isND, notND, isNoneD, eg, hRw, oI]
      · simp -implicitDefEqProofs [L__law_table_1, ah, not_none, oD_ne, eg, hRw, oI]
    | succ t =>
      rw [cell_s w ws hs t hp, if_pos ok]
      have hR : L2.atI ((List.range (t + 1)).map fun t => PyData.tuple ((tbR w ws hs t).map oI)) (-1) = some (.tuple ((tbR w ws hs t).map oI)) := by
        rw [at_neg (mk := fun t => PyData.tuple ((tbR w ws hs t).map oI)) _ 0 (by simp)]
        simp [List.range_succ]
      generalize ((List.range (t + 1)).map fun t => PyData.tuple ((tbR w ws hs t).map oI)) = R at *
      have hrl := tbR_len w ws hs t
      generalize tbR w ws hs t = row at *
      have hrr : ∀ j, j < row.length → L2.atI (row.map oI) (j : Int) = some (oI (row.getD j none)) := fun j hj => at_mk row none hj
      have hgg : ∀ j, j < ws.length → Ph__law_gap [wD (ws.getD j []), wD (ws.getD p [])] = some (.int (gp (ws.getD j []) (ws.getD p []))) := fun j hj => e_law_gap _ _ (okW_len (getD_ok h2 hj)) (okW_len hv)
      have hwg := fun j (hj : j < ws.length) => wget ws hj
      have r2 := rg1_n (k := ws.length) (by omega)
      rw [show ((t + 1 : Nat) : Int) = (t : Int) + 1 by omega] at ah
      generalize hs.getD (t + 1) none = h at *
      generalize ws.getD p [] = v at *
      have hc : fLc (fIs rg1D (aCons (fB lenD (aCons (vF 1) (aNil))) (aNil))) (sN 8) (fT (f2 notND (f2 ixD (f2 ixD (vP 3) (f1 negD (cD (.int 1)))) (vF 8)) (cD .none))) (f2 addD (f2 ixD (f2 ixD (vP 3) (f1 negD (cD (.int 1)))) (vF 8)) (fB (Ph__law_gap) (aCons (f2 ixD (vF 1) (vF 8)) (aCons (vF 6) (aNil))))) [8]
          [.im (wD w), .im (.tuple (ws.map wD)), .im (.tuple (hs.map oD)), .ow (.list R), .im (.int ((t : Int) + 1)), .ow (.list Rw), .im (wD v), y7, y8] = some (.list ((sumsL row fun j => gp (ws.getD j []) v).map .int)) := by
        simp -implicitDefEqProofs [r2]
        rw [lcL_map (p := fun j => (row.getD j none).isSome) (g := fun j => PyData.int ((row.getD j none).getD 0 + gp (ws.getD j []) v)) (fun j hj => by
          have hj' := List.mem_range.mp hj
          have a1 := hrr j (by omega)
          generalize row.getD j none = o at *
          simp -implicitDefEqProofs [hR, a1, oI_nn]) (fun j hj hp => by
          have hj' := List.mem_range.mp hj
          have a1 := hrr j (by omega)
          have a2 := hgg j hj'
          have a3 := hwg j hj'
          generalize row.getD j none = o at *
          generalize ws.getD j [] = u at *
          cases o with
          | none => simp at hp
          | some i => simp -implicitDefEqProofs [hR, a1, a2, a3, oI]), Option.bind_some, lcB_small (by
          have := List.length_filter_le (fun j => (row.getD j none).isSome) (List.range ws.length)
          simp at this ⊢
          omega)]
        unfold sumsL
        rw [List.map_map, hrl]
        rfl
      generalize hSS : (sumsL row fun j => gp (ws.getD j []) v) = S at *
      refine ⟨.im (.list (S.map .int)), ?_⟩
      rw [show ((t + 1 : Nat) : Int) = (t : Int) + 1 by omega]
      have e8 : ¬ ((t : Int) + 1 = 0) := by omega
      have hn := ne_nil S
      have hRe : Rw.length < sizeLine := hRw
      rcases ok with rfl | rfl
      · by_cases hS : S = []
        · subst hS
          have hn : neD (.list []) (.list []) = some (.bool false) := hn
          simp -implicitDefEqProofs [L__law_table_1, ah, oD_none, isND, notND, isNoneD, ↓hc, hRw, oI, e8, hn, lmin]
        · have hm := minA_i S hS
          simp -implicitDefEqProofs [L__law_table_1, ah, oD_none, isND, notND, isNoneD, ↓hc, hRw, oI, e8, hn, hS, hm]
      · by_cases hS : S = []
        · subst hS
          have hn : neD (.list []) (.list []) = some (.bool false) := hn
          simp -implicitDefEqProofs [L__law_table_1, ah, not_none, oD_ne, ↓hc, hRw, oI, e8, hn, lmin]
        · have hm := minA_i S hS
          simp -implicitDefEqProofs [L__law_table_1, ah, not_none, oD_ne, ↓hc, hRw, oI, e8, hn, hS, hm]
  · have hc : cellF w ws hs k p = none := by
      cases k with
      | zero => rw [cell_0 w ws hs hp, if_neg ok]
      | succ t => rw [cell_s w ws hs t hp, if_neg ok]
    rw [hc]
    refine ⟨y7, ?_⟩
    generalize ((List.range k).map fun t => PyData.tuple ((tbR w ws hs t).map oI)) = R at *
    generalize hs.getD k none = h at *
    generalize ws.getD p [] = v at *
    cases h with
    | none => exact absurd (.inl rfl) ok
    | some u =>
      have huv : ¬ u = v := fun z => ok (.inr (by rw [z]))
      simp -implicitDefEqProofs [L__law_table_1, ah, not_none, oD_ne, hRw, oI, huv]
theorem lt_row (w : W) (ws : List W) (hs : List (Option W)) (hw : okW w) (hws : okS ws) (hl : hs.length ≤ 4) (k : Nat) (hk : k < hs.length) (y4 y5 y6 y7 y8 : Sl) :
    ∃ z5 z6 z7 z8, turnD (sN 4) L__law_table_2 (.int (k : Nat)) [.im (wD w), .im (.tuple (ws.map wD)), .im (.tuple (hs.map oD)), .ow (.list ((List.range k).map fun t => .tuple ((tbR w ws hs t).map oI))), y4, y5, y6, y7, y8] =
      some (.nx [.im (wD w), .im (.tuple (ws.map wD)), .im (.tuple (hs.map oD)), .ow (.list ((List.range (k + 1)).map fun t => .tuple ((tbR w ws hs t).map oI))), .im (.int (k : Nat)), z5, z6, z7, z8]) := by
  have hlen := line_ge
  obtain ⟨ρ', e1, x6, x7, x8, e2⟩ := forL_all (step := turnD (sN 6) L__law_table_1) (xs := ws) (mk := wD)
    (fun pre (ρ : Rho) => ∃ x6 x7 x8, ρ = [.im (wD w), .im (.tuple (ws.map wD)), .im (.tuple (hs.map oD)), .ow (.list ((List.range k).map fun t => .tuple ((tbR w ws hs t).map oI))), .im (.int (k : Nat)), .ow (.list ((List.range pre.length).map fun p => oI (cellF w ws hs k p))), x6, x7, x8])
    [.im (wD w), .im (.tuple (ws.map wD)), .im (.tuple (hs.map oD)), .ow (.list ((List.range k).map fun t => .tuple ((tbR w ws hs t).map oI))), .im (.int (k : Nat)), .ow (.list []), y6, y7, y8] ⟨_, _, _, rfl⟩ (by
    rintro pre post ρ v ⟨y6, y7, y8, rfl⟩ hx
    have hp := split_len hx
    have hv : v = ws.getD pre.length [] := by rw [hx]; simp
    subst hv
    obtain ⟨z7, hz⟩ := lt_cell w ws hs hw hws hl k pre.length hk hp ((List.range pre.length).map fun p => oI (cellF w ws hs k p)) (by have := hws.1.2; simp; omega) y6 y7 y8
    refine ⟨_, .inl hz, ?_⟩
    rw [List.length_append, List.length_singleton, List.range_succ, List.map_append]
    exact ⟨_, _, _, rfl⟩)
  subst e2
  have e3 : ((List.range ws.length).map fun p => oI (cellF w ws hs k p)) = (tbR w ws hs k).map oI := map_oI _ (tbR_len ..)
  rw [e3] at e1
  have e7 : ((List.range (k + 1)).map fun t => PyData.tuple ((tbR w ws hs t).map oI)) = ((List.range k).map fun t => PyData.tuple ((tbR w ws hs t).map oI)) ++ [.tuple ((tbR w ws hs k).map oI)] := by
    rw [List.range_succ, List.map_append]
    rfl
  rw [e7]
  have hRl : ((List.range k).map fun t => PyData.tuple ((tbR w ws hs t).map oI)).length < sizeLine := by simp; omega
  generalize ((List.range k).map fun t => PyData.tuple ((tbR w ws hs t).map oI)) = R at *
  refine ⟨.ow (.list ((tbR w ws hs k).map oI)), x6, x7, x8, ?_⟩
  simp -implicitDefEqProofs [L__law_table_2]
  rw [e1]
  simp -implicitDefEqProofs [hRl]
theorem e_law_table (w : W) (ws : List W) (hs : List (Option W)) (hw : okW w) (hws : okS ws) (hl : hs.length ≤ 4) : Ph__law_table [wD w, .tuple (ws.map wD), .tuple (hs.map oD)] = some (.tuple ((tbF w ws hs).map fun r => .tuple (r.map oI))) := by
  have r2 := rg1_n (k := hs.length) (by omega)
  simp -implicitDefEqProofs [Ph__law_table, b__law_table, r2]
  obtain ⟨ρ', e1, x4, x5, x6, x7, x8, e2⟩ := forL_all (step := turnD (sN 4) L__law_table_2) (xs := List.range hs.length) (mk := fun k => .int (k : Nat))
    (fun pre (ρ : Rho) => ∃ x4 x5 x6 x7 x8, ρ = [.im (wD w), .im (.tuple (ws.map wD)), .im (.tuple (hs.map oD)), .ow (.list ((List.range pre.length).map fun t => .tuple ((tbR w ws hs t).map oI))), x4, x5, x6, x7, x8])
    [.im (wD w), .im (.tuple (ws.map wD)), .im (.tuple (hs.map oD)), .ow (.list []), .un, .un, .un, .un, .un] ⟨_, _, _, _, _, rfl⟩ (by
    rintro pre post ρ k ⟨y4, y5, y6, y7, y8, rfl⟩ hx
    obtain ⟨g1, g2, g3⟩ := range_split hx
    subst g1
    obtain ⟨z5, z6, z7, z8, hz⟩ := lt_row w ws hs hw hws hl pre.length g2 y4 y5 y6 y7 y8
    refine ⟨_, .inl hz, ?_⟩
    rw [List.length_append]
    exact ⟨_, _, _, _, _, rfl⟩)
  rw [e1]
  subst e2
  simp -implicitDefEqProofs [tbF]
end Hd
end

/-! part: K35j -/
section
set_option Elab.async false
set_option linter.all false
set_option maxRecDepth 100000
set_option maxHeartbeats 400000
namespace Hd
open PySem PySem.Spec Q
theorem told_o (n : Nat) (a b : Option Int) : Ph_is_told (n + 1) [oI a, oI b] = some (.bool (decide (a = b))) := by
  cases b with
  | none =>
    have : isND (oI a) .none = some (.bool (decide (a = none))) := by cases a <;> rfl
    simp -implicitDefEqProofs [Ph_is_told, b_is_told, oI, isND, isNoneD] at this ⊢
    rw [this]
  | some j =>
    have e2 : isiD "bool" (.int j) = some (.bool false) := rfl
    have e3 : isiD "int" (.int j) = some (.bool true) := rfl
    cases a with
    | none =>
      have e1 : Ph_is_int [.none] = some (.bool false) := by simp -implicitDefEqProofs [Ph_is_int, b_is_int]
      simp -implicitDefEqProofs [Ph_is_told, b_is_told, oI, e1, e2, e3]
    | some i =>
      simp -implicitDefEqProofs [Ph_is_told, b_is_told, oI, e_is_int, e2, e3]
      by_cases h : i = j <;> simp [h]
theorem told_7 (n : Nat) (i : Int) (ds : List D) : Ph_is_told (n + 1) [.int i, .tuple ds] = some (.bool false) := by
  have : Ph_is_seq [.int i] = some (.bool false) := by simp -implicitDefEqProofs [Ph_is_seq, b_is_seq]
  simp -implicitDefEqProofs [Ph_is_told, b_is_told, this]
/-- a told row, item by item -/
theorem told_seq {α : Type} [DecidableEq α] (d0 : α) (n : Nat) (mkv mkt : α → D) (ws l : List α) (e : ∀ a ∈ ws, ∀ b, Ph_is_told n [mkv a, mkt b] = some (.bool (decide (a = b)))) (d : D) (hw : ws.length ≤ 1000) (hd : (d = .tuple (ws.map mkv)) ∨ d = .list (ws.map mkv)) :
    Ph_is_told (n + 1) [d, .tuple (l.map mkt)] = some (.bool (decide (ws = l))) := by
  rw [Ph_is_told]
  generalize Ph_is_told n = φ at *
  have hs : Ph_is_seq [d] = some (.bool true) := by rcases hd with rfl | rfl <;> simp -implicitDefEqProofs [Ph_is_seq, b_is_seq]
  have hlen : lenD [d] = some (.int ws.length) := by rcases hd with rfl | rfl <;> simp
  have x0 : ∀ k : Nat, k < ws.length → ixD d (.int k) = some (mkv (ws.getD k d0)) := fun k hk => by
    rcases hd with rfl | rfl
    · exact at_mk ws d0 hk
    · exact at_mk ws d0 hk
  simp -implicitDefEqProofs [b_is_told, hs, hlen]
  by_cases hll : ws.length = l.length
  · have hll' : (ws.length : Int) = l.length := by omega
    simp -implicitDefEqProofs [hll', enum_mk (mk := mkt) d0 l _ (.inr rfl)]
    simp only [← List.getD_eq_getElem?_getD]
    rcases forL_any (step := turnD (sT 2 (sCons (sN 2) (sCons (sN 3) (sNil)))) (L_is_told_1 φ)) (xs := List.range l.length) (mk := fun (i : Nat) => .tuple [.int (i : Int), mkt (l.getD i d0)])
      (fun pre ρ => (∃ x2 x3, ρ = [.im d, .im (.tuple (l.map mkt)), x2, x3]) ∧ ∀ i, i < pre.length → ws.getD i d0 = l.getD i d0) (fun _ => False) (fun r => r = .bool false ∧ ws ≠ l) [.im d, .im (.tuple (l.map mkt)), .un, .un]
      ⟨⟨_, _, rfl⟩, fun i hi => absurd hi (Nat.not_lt_zero _)⟩ (by
        rintro pre post ρ i ⟨⟨x2, x3, rfl⟩, hi⟩ hx
        obtain ⟨g1, g2, g3⟩ := range_split hx
        have y1 := x0 i (by omega)
        have ey := e (ws.getD i d0) (by have hi' : i < ws.length := by omega
                                        simp [hi']) (l.getD i d0)
        by_cases c : ws.getD i d0 = l.getD i d0
        · refine .inl ⟨[.im d, .im (.tuple (l.map mkt)), .im (.int i), .im (mkt (l.getD i d0))], .inl ?_, ⟨_, _, rfl⟩, fun j hj => ?_⟩
          · rw [c] at ey y1
            generalize l.getD i d0 = v at *
            simp -implicitDefEqProofs [L_is_told_1, y1, ey]
          · simp only [List.length_append, List.length_cons, List.length_nil] at hj
            by_cases hj2 : j < pre.length
            · exact hi j hj2
            · have : j = i := by omega
              rw [this]; exact c
        · refine .inr (.inr ⟨.bool false, ?_, rfl, fun z => c (by rw [z])⟩)
          generalize ws.getD i d0 = u at *
          generalize l.getD i d0 = v at *
          simp -implicitDefEqProofs [L_is_told_1, y1, ey, c]) with ⟨ρ', h1, ⟨h2, h3⟩ | h2⟩ | ⟨r, h1, h2, h3⟩
    · obtain ⟨x2, x3, rfl⟩ := h2
      rw [List.length_range] at h3
      have hw : ws = l := by
        apply List.ext_getElem hll
        intro i hi1 hi2
        have := h3 i hi2
        simpa [List.getD_eq_getElem?_getD, hi1, hi2] using this
      rw [h1]
      simp [hw]
    · exact h2.elim
    · rw [h1, h2]
      simp [h3]
  · have hll' : ¬ (ws.length : Int) = l.length := by omega
    have hne : ws ≠ l := fun z => hll (by rw [z])
    simp -implicitDefEqProofs [hll', hne]
def rT (r : List (Option Int)) : D := .tuple (r.map oI)
def rL (r : List (Option Int)) : D := .list (r.map oI)
theorem e_three (w : W) (ws : List W) (hs : List (Option W)) (hw : okW w) (hws : okS ws) (hso : ∀ i, i + 1 < ws.length → wlt (ws.getD i []) (ws.getD (i + 1) []) = true) (hh : okH hs) (d e : D) (hd : d = .tuple (ws.map wD) ∨ d = .list (ws.map wD)) (he : e = .tuple (hs.map oD) ∨ e = .list (hs.map oD)) :
    Ph_three_of [wD w, d, e] = some (.tuple [wD w, .tuple (ws.map wD), .tuple (hs.map oD)]) := by
  have e1 := e_to_words ws hws.1 hws.2 hso d hd
  have e2 := e_to_heard hs hh e he
  simp -implicitDefEqProofs [Ph_three_of, b_three_of, e_to_word _ hw, e_need_w, e1, e2, e_need_t]
section
variable (w : W) (ws : List W) (hs : List (Option W)) (hw : okW w) (hws : okS ws) (hso : ∀ i, i + 1 < ws.length → wlt (ws.getD i []) (ws.getD (i + 1) []) = true) (hh : okH hs)
include hw hws hso hh
theorem e_table : Ph_table [wD w, .tuple (ws.map wD), .tuple (hs.map oD)] = some (.tuple ((tbF w ws hs).map rT)) := by
  have e1 := e_three w ws hs hw hws hso hh _ _ (.inl rfl) (.inl rfl)
  have e2 := e_table_of w ws hs hw hws hh.1.2
  simp -implicitDefEqProofs [Ph_table, b_table, e1, e2]
  intro a _; rfl
theorem e_holds (d : D) (hd : d = .tuple (ws.map wD) ∨ d = .list (ws.map wD)) (z : D) : Ph_table_holds [wD w, d, .tuple (hs.map oD), z] = Ph_is_told 4 [z, .tuple ((tbF w ws hs).map rT)] := by
  have e1 := e_three w ws hs hw hws hso hh _ _ hd (.inl rfl)
  have e2 := e_table_of w ws hs hw hws hh.1.2
  have e3 : ((tbF w ws hs).map fun r => PyData.tuple (r.map oI)) = (tbF w ws hs).map rT := rfl
  rw [e3] at e2
  simp -implicitDefEqProofs [Ph_table_holds, b_table_holds, e1, e2]
  cases Ph_is_told 4 [z, .tuple ((tbF w ws hs).map rT)] <;> rfl
theorem holds_t (d : D) (hd : d = .tuple (ws.map wD) ∨ d = .list (ws.map wD)) (rs : List (List (Option Int))) (hrs : rs.length ≤ 1000) (hr : ∀ r ∈ rs, r.length ≤ 1000) :
    Ph_table_holds [wD w, d, .tuple (hs.map oD), .tuple (rs.map rT)] = some (.bool (decide (rs = tbF w ws hs))) := by
  rw [e_holds w ws hs hw hws hso hh d hd]
  exact told_seq [] 3 rT rT rs _ (fun a ha b => told_seq none 2 oI oI a b (fun a _ b => told_o 1 a b) _ (hr a ha) (.inl rfl)) _ hrs (.inl rfl)
theorem holds_l (d : D) (hd : d = .tuple (ws.map wD) ∨ d = .list (ws.map wD)) (rs : List (List (Option Int))) (hrs : rs.length ≤ 1000) (hr : ∀ r ∈ rs, r.length ≤ 1000) :
    Ph_table_holds [wD w, d, .tuple (hs.map oD), .list (rs.map rL)] = some (.bool (decide (rs = tbF w ws hs))) := by
  rw [e_holds w ws hs hw hws hso hh d hd]
  exact told_seq [] 3 rL rT rs _ (fun a ha b => told_seq none 2 oI oI a b (fun a _ b => told_o 1 a b) _ (hr a ha) (.inr rfl)) _ hrs (.inr rfl)
theorem holds_7 (d : D) (hd : d = .tuple (ws.map wD) ∨ d = .list (ws.map wD)) : Ph_table_holds [wD w, d, .tuple (hs.map oD), .int 7] = some (.bool false) := by
  rw [e_holds w ws hs hw hws hso hh d hd]
  exact told_7 3 7 _
end
end Hd
end

/-! part: K35k -/
section
set_option Elab.async false
set_option linter.all false
set_option maxRecDepth 100000
set_option maxHeartbeats 400000
namespace Hd
open PySem PySem.Spec Q
/-! sorted words -/
theorem sorted_w (xs : List W) : sortedD [.list (xs.map wD)] = some (.list ((xs.mergeSort fun a b => !wlt b a).map wD)) := by
  have ok : srtOk (xs.map wD) = true := by
    simp only [srtOk, Bool.and_eq_true, Bool.or_eq_true, List.all_eq_true, List.mem_map, forall_exists_index, and_imp, forall_apply_eq_imp_iff₂, decide_eq_true_eq]
    exact ⟨⟨fun a _ b _ => ordd_w.alike a b, .inr fun a _ => rfl⟩, fun a _ => Nat.zero_le _⟩
  rw [sortedD, items_l, Option.bind_some, if_pos ok, srt_nice ordd_w]
def fdSt (acc : List W) (n : Int) : List W := if mkw n ∈ acc then acc else acc ++ [mkw n]
def fdF (ns : List Int) : List W := ns.foldl fdSt []
def wsF (ns : List Int) : List W := (fdF ns).mergeSort fun a b => !wlt b a
theorem fd_props : ∀ (ns : List Int) (acc : List W), acc.Nodup → (∀ w ∈ acc, okW w) → (ns.foldl fdSt acc).Nodup ∧ (∀ w ∈ ns.foldl fdSt acc, okW w) ∧ (ns.foldl fdSt acc).length ≤ acc.length + ns.length ∧ (acc ≠ [] ∨ ns ≠ [] → ns.foldl fdSt acc ≠ [])
  | [], acc, h1, h2 => ⟨h1, h2, Nat.le_refl _, fun h => h.elim id fun z => absurd rfl z⟩
  | n :: ns, acc, h1, h2 => by
    rw [List.foldl_cons]
    have h3 : (fdSt acc n).Nodup ∧ (∀ w ∈ fdSt acc n, okW w) ∧ (fdSt acc n).length ≤ acc.length + 1 ∧ fdSt acc n ≠ [] := by
      unfold fdSt
      by_cases c : mkw n ∈ acc
      · rw [if_pos c]
        exact ⟨h1, h2, by omega, fun z => by rw [z] at c; cases c⟩
      · rw [if_neg c]
        refine ⟨?_, ?_, by simp, by simp⟩
        · rw [List.nodup_append]
          refine ⟨h1, by simp, ?_⟩
          intro a ha b hb
          rw [List.mem_singleton.mp hb]
          exact fun z => c (by rw [← z]; exact ha)
        · intro w hw
          rcases List.mem_append.mp hw with hw | hw
          · exact h2 w hw
          · rw [List.mem_singleton.mp hw]; exact mkw_ok n
    obtain ⟨a1, a2, a3, a4⟩ := fd_props ns _ h3.1 h3.2.1
    refine ⟨a1, a2, ?_, fun _ => a4 (.inl h3.2.2.2)⟩
    have := h3.2.2.1
    simp only [List.length_cons]
    omega
theorem ws_props (ns : List Int) (hn : 1 ≤ ns.length ∧ ns.length ≤ 5) : okS (wsF ns) ∧ (wsF ns).length ≤ 5 ∧ (wsF ns).Pairwise (fun a b => wlt a b = true) := by
  obtain ⟨a1, a2, a3, a4⟩ := fd_props ns [] List.nodup_nil (fun w hw => nomatch hw)
  have a5 := a4 (.inr fun z => by rw [z] at hn; simp at hn)
  have p : (wsF ns).Perm (fdF ns) := List.mergeSort_perm ..
  have hl := p.length_eq
  have hl2 : 0 < (fdF ns).length := List.length_pos_iff.mpr a5
  have hl3 : (fdF ns).length ≤ ns.length := by have := a3; simp at this; exact this
  refine ⟨⟨by omega, fun w hw => a2 w (p.mem_iff.mp hw)⟩, by omega, ?_⟩
  have hnd : (wsF ns).Nodup := p.nodup_iff.mpr a1
  have hs : (wsF ns).Pairwise (fun a b => (!wlt b a) = true) := by
    apply List.pairwise_mergeSort
    · intro a b c h1 h2
      simp only [Bool.not_eq_true'] at *
      cases h : wlt c a with
      | false => rfl
      | true =>
        by_cases e : c = b
        · subst e; rw [h1] at h; exact nomatch h
        · have q := wlt_tot b c (Ne.symm e)
          rw [h2] at q
          have := wlt_trans b c a q h
          rw [h1] at this; exact nomatch this
    · intro a b
      by_cases e : a = b
      · subst e; simp [wlt_irr]
      · have := wlt_tot a b e
        rw [this]
        cases wlt b a <;> rfl
  refine (hs.and hnd).imp ?_
  rintro a b ⟨h1, h2⟩
  rw [wlt_tot a b h2]
  exact h1
theorem hso_of {ws : List W} (h : ws.Pairwise (fun a b => wlt a b = true)) : ∀ i, i + 1 < ws.length → wlt (ws.getD i []) (ws.getD (i + 1) []) = true := by
  intro i hi
  have := List.pairwise_iff_getElem.mp h i (i + 1) (by omega) hi (by omega)
  have hi2 : i < ws.length := by omega
  simpa [List.getD_eq_getElem?_getD, hi, hi2] using this
theorem e_law_words (ns : List Int) (hn : ns.length ≤ 1000) : Ph__law_words [.list (ns.map .int)] = some (.tuple ((wsF ns).map wD)) := by
  have hl := line_ge
  simp -implicitDefEqProofs [Ph__law_words, b__law_words]
  obtain ⟨ρ', e1, x2, x3, e2⟩ := forL_all (step := turnD (sN 2) L__law_words_1) (xs := ns) (mk := .int)
    (fun pre (ρ : Rho) => ∃ x2 x3, ρ = [.im (.list (ns.map .int)), .ow (.list ((pre.foldl fdSt []).map wD)), x2, x3])
    [.im (.list (ns.map .int)), .ow (.list []), .un, .un] ⟨_, _, rfl⟩ (by
    rintro pre post ρ n ⟨y2, y3, rfl⟩ hx
    have hp := split_len hx
    obtain ⟨a1, a2, a3, a4⟩ := fd_props pre [] List.nodup_nil (fun w hw => nomatch hw)
    rw [List.foldl_append, List.foldl_cons, List.foldl_nil]
    generalize pre.foldl fdSt [] = acc at *
    have hn := nice_w.notIn_l (by decide) (mkw n) acc
    have hb : acc.length < sizeLine := by simp at a3; omega
    have ew := e_word n
    unfold fdSt
    by_cases c : mkw n ∈ acc
    · rw [if_pos c]
      exact ⟨_, .inl (by simp -implicitDefEqProofs [L__law_words_1, ew, hn, c]), .im (.int n), .im (wD (mkw n)), rfl⟩
    · rw [if_neg c]
      exact ⟨_, .inl (by simp -implicitDefEqProofs [L__law_words_1, ew, hn, c, hb]), .im (.int n), .im (wD (mkw n)), rfl⟩)
  rw [e1]
  subst e2
  simp -implicitDefEqProofs [sorted_w, wsF, fdF]
/-! slips, the law's -/
theorem e_law_slips (w : W) (r : List W) (hw : okW w) (hr : ∀ v ∈ r, okW v) (hl : r.length ≤ 1000) : Ph__law_slips [wD w, .tuple (r.map wD)] = some (.list ((slipsF w r).map .int)) := by
  have hlen := line_ge
  have r2 := rg1_n (k := r.length) (by omega)
  have e0 : addD (.tuple [wD w]) (.tuple (r.map wD)) = some (.tuple ((w :: r).map wD)) := if_pos (by simp; omega)
  simp -implicitDefEqProofs [Ph__law_slips, b__law_slips, e0, r2]
  have a1 := fun k (hk : k < r.length + 1) => at_mk (mk := wD) (w :: r) [] (k := k) (by simpa using hk)
  rw [List.map_cons] at a1
  rw [lcL_all (g := fun (k : Nat) => PyData.int (gp (if k > 0 then r.getD (k - 1) [] else w) (r.getD k []))) (by simp) (fun k hk => by
    have hk' := List.mem_range.mp hk
    have b1 := a1 k (by omega)
    have b2 := a1 (k + 1) (by omega)
    have c2 : (w :: r).getD (k + 1) [] = r.getD k [] := rfl
    have c1 : (w :: r).getD k [] = if k > 0 then r.getD (k - 1) [] else w := by
      cases k with
      | zero => rfl
      | succ k => rfl
    rw [c1] at b1
    rw [c2, show ((k + 1 : Nat) : Int) = (k : Int) + 1 by omega] at b2
    have k1 := getD_ok hr hk'
    have k3 : okW (if k > 0 then r.getD (k - 1) [] else w) := by
      split
      · exact getD_ok hr (by omega)
      · exact hw
    have k4 := e_law_gap _ _ (okW_len k3) (okW_len k1)
    generalize (if k > 0 then r.getD (k - 1) [] else w) = u at *
    generalize r.getD k [] = v at *
    simp -implicitDefEqProofs [b1, b2, k4]), Option.bind_some, Function.comp, lcB_small (by simp; omega)]
  simp -implicitDefEqProofs [slipsF]
end Hd
end

/-! part: K35l -/
section
set_option Elab.async false
set_option linter.all false
set_option maxRecDepth 100000
set_option maxHeartbeats 400000
namespace Hd
open PySem PySem.Spec Q
def okB (h : Option W) (v : W) : Bool := decide (h = none ∨ h = some v)
def alF (ws : List W) (h : Option W) : List W := ws.filter (okB h)
def flF (ws : List W) : List (Option W) → List (List W)
  | [] => [[]]
  | h :: t => (alF ws h).flatMap fun v => (flF ws t).map (v :: ·)
theorem flF_snoc (ws : List W) (h : Option W) : ∀ hs, flF ws (hs ++ [h]) = (flF ws hs).flatMap fun r => (alF ws h).map fun v => r ++ [v]
  | [] => by
    simp only [List.nil_append, flF, List.map_cons, List.map_nil, List.flatMap_cons, List.flatMap_nil, List.append_nil]
    induction alF ws h with
    | nil => rfl
    | cons v l ih => rw [List.flatMap_cons, ih]; rfl
  | g :: hs => by
    rw [List.cons_append, flF, flF, flF_snoc ws h hs, List.flatMap_assoc]
    congr 1
    funext v
    rw [List.map_flatMap, List.flatMap_map]
    congr 1
    funext r
    rw [List.map_map]
    rfl
theorem al_len (ws : List W) (h : Option W) : (alF ws h).length ≤ ws.length := List.length_filter_le ..
theorem fl_mem {ws : List W} : ∀ {hs : List (Option W)} {r : List W}, r ∈ flF ws hs → r.length = hs.length ∧ ∀ v ∈ r, v ∈ ws
  | [], r, h => by
    rw [flF] at h
    rw [List.mem_singleton.mp h]
    exact ⟨rfl, fun v hv => nomatch hv⟩
  | h :: t, r, hr => by
    rw [flF] at hr
    obtain ⟨v, h1, h2⟩ := List.mem_flatMap.mp hr
    obtain ⟨q, h3, rfl⟩ := List.mem_map.mp h2
    obtain ⟨a1, a2⟩ := fl_mem h3
    refine ⟨by simp [a1], fun u hu => ?_⟩
    rcases List.mem_cons.mp hu with rfl | hu
    · exact (List.mem_filter.mp h1).1
    · exact a2 u hu
theorem flatMap_len {α β : Type} (f : α → List β) (c : Nat) : ∀ (l : List α), (∀ x ∈ l, (f x).length ≤ c) → (l.flatMap f).length ≤ l.length * c
  | [], _ => by simp
  | x :: l, h => by
    rw [List.flatMap_cons, List.length_append, List.length_cons, Nat.succ_mul]
    have := flatMap_len f c l fun y hy => h y (List.mem_cons_of_mem _ hy)
    have := h x List.mem_cons_self
    omega
theorem fl_len5 (ws : List W) (hw : ws.length ≤ 5) : ∀ hs : List (Option W), (flF ws hs).length ≤ 5 ^ hs.length
  | [] => by simp [flF]
  | h :: t => by
    rw [flF, List.length_cons, Nat.pow_succ]
    have h1 := flatMap_len (fun v => (flF ws t).map (v :: ·)) (5 ^ t.length) (alF ws h) fun x _ => by rw [List.length_map]; exact fl_len5 ws hw t
    have h2 := al_len ws h
    have h3 : (alF ws h).length * 5 ^ t.length ≤ 5 * 5 ^ t.length := Nat.mul_le_mul_right _ (by omega)
    omega
/-! slips, by the row -/
def slF : W → List W → List Int
  | _, [] => []
  | w, v :: r => gp w v :: slF v r
theorem slips_eq : ∀ (r : List W) (w : W), slipsF w r = slF w r
  | [], _ => rfl
  | v :: r, w => by
    rw [slF, ← slips_eq r v]
    unfold slipsF
    rw [List.length_cons, List.range_succ_eq_map, List.map_cons, List.map_map]
    congr 1
    apply List.map_congr_left
    intro k _
    cases k with
    | zero => rfl
    | succ k => rfl
/-! least of all -/
section
variable {α : Type} {lt : α → α → Bool}
theorem leastBy_le (tr : ∀ a b c, lt b a = false → lt c b = false → lt c a = false) (irr : ∀ a, lt a a = false) (as : ∀ a b, lt a b = true → lt b a = false) : ∀ (xs : List α) (x : α), ∀ y ∈ x :: xs, lt y (leastBy lt x xs) = false
  | [], x, y, hy => by
    rw [List.mem_singleton.mp hy]
    exact irr x
  | z :: xs, x, y, hy => by
    unfold leastBy
    rw [List.foldl_cons]
    have ih := leastBy_le tr irr as xs (if lt z x then z else x)
    unfold leastBy at ih
    have h0 := ih _ List.mem_cons_self
    rcases List.mem_cons.mp hy with rfl | hy
    · cases c : lt z y with
      | true =>
        rw [c] at h0; simp only [if_true, Bool.false_eq_true, if_false] at h0 ⊢
        exact tr _ _ _ h0 (as _ _ c)
      | false =>
        rw [c] at h0; simp only [if_true, Bool.false_eq_true, if_false] at h0 ⊢
        exact h0
    · rcases List.mem_cons.mp hy with rfl | hy
      · cases c : lt y x with
        | true =>
          rw [c] at h0; simp only [if_true, Bool.false_eq_true, if_false] at h0 ⊢
          exact h0
        | false =>
          rw [c] at h0; simp only [if_true, Bool.false_eq_true, if_false] at h0 ⊢
          exact tr _ _ _ h0 c
      · exact ih y (List.mem_cons_of_mem _ hy)
end
theorem lmin_some {l : List Int} {m : Int} (h : lmin l = some m) : m ∈ l ∧ ∀ y ∈ l, m ≤ y := by
  cases l with
  | nil => cases h
  | cons x xs =>
    have e : leastBy (fun a b => decide (a < b)) x xs = m := Option.some.inj h
    refine ⟨by rw [← e]; exact leastBy_mem xs x, fun y hy => ?_⟩
    have := leastBy_le (lt := fun a b : Int => decide (a < b)) (fun a b c h1 h2 => by simp at *; omega) (fun a => by simp) (fun a b h => by simp at *; omega) xs x y hy
    rw [e] at this
    simp at this
    exact this
theorem lmin_ne {l : List Int} (h : l ≠ []) : ∃ m, lmin l = some m := by
  cases l with
  | nil => exact absurd rfl h
  | cons x xs => exact ⟨_, rfl⟩
/-! the best of all -/
/-- least sums behind a word, row by row -/
def uF (ws : List W) : List (Option W) → W → Int
  | [], _ => 0
  | h :: t, v => (lmin (sumsL (maskF ws h (ws.map fun u => some (uF ws t u))) fun j => gp v (ws.getD j []))).getD 0
def kn (ws : List W) (hs : List (Option W)) : Prop := ∀ h ∈ hs, h = none ∨ ∃ v ∈ ws, h = some v
/-- the row at hand: known and masked -/
theorem mask_at (ws : List W) (h : Option W) (f : W → Int) {j : Nat} (hj : j < ws.length) : (maskF ws h (ws.map fun u => some (f u))).getD j none = if okB h (ws.getD j []) = true then some (f (ws.getD j [])) else none := by
  rw [maskF, get_map_range _ _ hj, gets (fun u => some (f u)) ws [] none hj]
  simp [okB]
theorem sums_mem (ws : List W) (h : Option W) (f : W → Int) (c : Nat → Int) (y : Int) : y ∈ sumsL (maskF ws h (ws.map fun u => some (f u))) c ↔ ∃ j, j < ws.length ∧ okB h (ws.getD j []) = true ∧ y = f (ws.getD j []) + c j := by
  unfold sumsL
  rw [mask_len]
  constructor
  · intro hy
    obtain ⟨j, h1, rfl⟩ := List.mem_map.mp hy
    obtain ⟨h2, h3⟩ := List.mem_filter.mp h1
    have hj := List.mem_range.mp h2
    rw [mask_at ws h f hj] at h3 ⊢
    by_cases c : okB h (ws.getD j []) = true
    · exact ⟨j, hj, c, by rw [if_pos c]; rfl⟩
    · rw [if_neg c] at h3; cases h3
  · rintro ⟨j, hj, h1, rfl⟩
    refine List.mem_map.mpr ⟨j, List.mem_filter.mpr ⟨List.mem_range.mpr hj, ?_⟩, ?_⟩
    · rw [mask_at ws h f hj, if_pos h1]; rfl
    · rw [mask_at ws h f hj, if_pos h1]; rfl
theorem ok_some (ws : List W) (hn : 1 ≤ ws.length) {h : Option W} (hk : h = none ∨ ∃ v ∈ ws, h = some v) : ∃ j, j < ws.length ∧ okB h (ws.getD j []) = true := by
  rcases hk with rfl | ⟨v, hv, rfl⟩
  · exact ⟨0, by omega, by simp [okB]⟩
  · obtain ⟨j, hj, e⟩ := List.getElem_of_mem hv
    exact ⟨j, hj, by simp [okB, hj, e]⟩
theorem u_spec (ws : List W) (hn : 1 ≤ ws.length) {h : Option W} (t : List (Option W)) (hk : h = none ∨ ∃ v ∈ ws, h = some v) (v : W) :
    lmin (sumsL (maskF ws h (ws.map fun u => some (uF ws t u))) fun j => gp v (ws.getD j [])) = some (uF ws (h :: t) v) ∧ (∃ j, j < ws.length ∧ okB h (ws.getD j []) = true ∧ uF ws (h :: t) v = gp v (ws.getD j []) + uF ws t (ws.getD j [])) ∧
      ∀ j, j < ws.length → okB h (ws.getD j []) = true → uF ws (h :: t) v ≤ gp v (ws.getD j []) + uF ws t (ws.getD j []) := by
  obtain ⟨j, hj, ho⟩ := ok_some ws hn hk
  have hm := (sums_mem ws h (uF ws t) (fun j => gp v (ws.getD j [])) _).mpr ⟨j, hj, ho, rfl⟩
  obtain ⟨m, hl⟩ := lmin_ne (l := sumsL (maskF ws h (ws.map fun u => some (uF ws t u))) fun j => gp v (ws.getD j [])) (fun z => by rw [z] at hm; cases hm)
  have hu : uF ws (h :: t) v = m := by rw [uF, hl]; rfl
  rw [hu]
  obtain ⟨h1, h2⟩ := lmin_some hl
  obtain ⟨i, hi, hi2, hi3⟩ := (sums_mem ws h (uF ws t) (fun j => gp v (ws.getD j [])) _).mp h1
  refine ⟨hl, ⟨i, hi, hi2, by rw [hi3]; exact Int.add_comm _ _⟩, fun j hj ho => ?_⟩
  have := h2 _ ((sums_mem ws h (uF ws t) (fun j => gp v (ws.getD j [])) _).mpr ⟨j, hj, ho, rfl⟩)
  rw [Int.add_comm]
  exact this
/-! pairs -/
def plt (p q : Int × Int) : Bool := if p.1 = q.1 then decide (p.2 < q.2) else decide (p.1 < q.1)
def prL (ws : List W) (h : Option W) (t : List (Option W)) (u : W) : List (Int × Int) := ((List.range ws.length).filter fun j => okB h (ws.getD j [])).map fun j => (gp u (ws.getD j []) + uF ws t (ws.getD j []), (j : Int))
def bestP : List (Int × Int) → Int × Int
  | [] => (0, 0)
  | x :: xs => leastBy plt x xs
theorem best_spec {l : List (Int × Int)} (h : l ≠ []) : bestP l ∈ l ∧ ∀ y ∈ l, (bestP l).1 < y.1 ∨ (bestP l).1 = y.1 ∧ (bestP l).2 ≤ y.2 := by
  cases l with
  | nil => exact absurd rfl h
  | cons x xs =>
    refine ⟨leastBy_mem xs x, fun y hy => ?_⟩
    have := leastBy_le (lt := plt) (fun a b c h1 h2 => by
      unfold plt at *
      split at h1 <;> split at h2 <;> split <;> simp at * <;> omega) (fun a => by simp [plt]) (fun a b h => by
      unfold plt at *
      split at h <;> split <;> simp at * <;> omega) xs x y hy
    have e : bestP (x :: xs) = leastBy plt x xs := rfl
    rw [e]
    generalize leastBy plt x xs = z at *
    unfold plt at this
    split at this <;> simp at this <;> omega
/-- the one who is told next -/
def nxP (ws : List W) (h : Option W) (t : List (Option W)) (u : W) : Nat := (bestP (prL ws h t u)).2.toNat
theorem nx_spec (ws : List W) (hn : 1 ≤ ws.length) {h : Option W} (t : List (Option W)) (hk : h = none ∨ ∃ v ∈ ws, h = some v) (u : W) :
    bestP (prL ws h t u) = (uF ws (h :: t) u, ((nxP ws h t u : Nat) : Int)) ∧ nxP ws h t u < ws.length ∧ okB h (ws.getD (nxP ws h t u) []) = true ∧ uF ws (h :: t) u = gp u (ws.getD (nxP ws h t u) []) + uF ws t (ws.getD (nxP ws h t u) []) ∧
      ∀ j, j < ws.length → okB h (ws.getD j []) = true → uF ws (h :: t) u = gp u (ws.getD j []) + uF ws t (ws.getD j []) → nxP ws h t u ≤ j := by
  obtain ⟨_, ⟨i, hi, hi2, hi3⟩, hmin⟩ := u_spec ws hn t hk u
  have mem : ∀ j, j < ws.length → okB h (ws.getD j []) = true → (gp u (ws.getD j []) + uF ws t (ws.getD j []), (j : Int)) ∈ prL ws h t u := fun j hj ho => List.mem_map.mpr ⟨j, List.mem_filter.mpr ⟨List.mem_range.mpr hj, ho⟩, rfl⟩
  obtain ⟨b1, b2⟩ := best_spec (l := prL ws h t u) (fun z => by have := mem i hi hi2; rw [z] at this; cases this)
  unfold nxP
  generalize bestP (prL ws h t u) = b at *
  obtain ⟨j, hj, rfl⟩ := List.mem_map.mp b1
  obtain ⟨hj1, hj2⟩ := List.mem_filter.mp hj
  have hj1 := List.mem_range.mp hj1
  have q1 := b2 _ (mem i hi hi2)
  have q2 := hmin j hj1 hj2
  dsimp only at q1 ⊢
  have q3 : uF ws (h :: t) u = gp u (ws.getD j []) + uF ws t (ws.getD j []) := by omega
  rw [Int.toNat_natCast]
  refine ⟨by rw [q3], hj1, hj2, q3, fun k hk ho hk3 => ?_⟩
  have := b2 _ (mem k hk ho)
  dsimp only at this
  omega
end Hd
end

/-! part: K35m -/
section
set_option Elab.async false
set_option linter.all false
set_option maxRecDepth 100000
set_option maxHeartbeats 400000
namespace Hd
open PySem PySem.Spec Q
structure TO {α : Type} (lt : α → α → Bool) : Prop where
  irr : ∀ a, lt a a = false
  tot : ∀ a b, a ≠ b → lt a b = !lt b a
  tr : ∀ a b c, lt a b = true → lt b c = true → lt a c = true
section
variable {α β : Type} [DecidableEq α] [DecidableEq β] {lt : α → α → Bool} {lt2 : β → β → Bool}
theorem TO.le_tr (h : TO lt) (a b c : α) (h1 : (!lt b a) = true) (h2 : (!lt c b) = true) : (!lt c a) = true := by
  simp only [Bool.not_eq_true'] at *
  cases h3 : lt c a with
  | false => rfl
  | true =>
    by_cases e : c = b
    · subst e; rw [h1] at h3; exact nomatch h3
    · have q := h.tot b c (Ne.symm e)
      rw [h2] at q
      have := h.tr b c a q h3
      rw [h1] at this; exact nomatch this
theorem TO.le_tot (h : TO lt) (a b : α) : (!lt b a || !lt a b) = true := by
  by_cases e : a = b
  · subst e; simp [h.irr]
  · have := h.tot a b e
    rw [this]
    cases lt b a <;> rfl
theorem sort_head (h : TO lt) (l : List α) (z : α) (hz : z ∈ l) (hm : ∀ y ∈ l, y ≠ z → lt z y = true) : ∃ t, (l.mergeSort fun a b => !lt b a) = z :: t := by
  have p := List.mergeSort_perm l (fun a b => !lt b a)
  have hs : (l.mergeSort fun a b => !lt b a).Pairwise (fun a b => (!lt b a) = true) := List.pairwise_mergeSort h.le_tr h.le_tot l
  have hz2 := p.mem_iff.mpr hz
  cases hl : (l.mergeSort fun a b => !lt b a) with
  | nil => rw [hl] at hz2; cases hz2
  | cons x t =>
    rw [hl] at hz2 hs
    by_cases e : x = z
    · exact ⟨t, by rw [e]⟩
    · rcases List.mem_cons.mp hz2 with e2 | e2
      · exact absurd e2.symm e
      · have q := (List.pairwise_cons.mp hs).1 z e2
        have hx : x ∈ l := p.mem_iff.mp (by rw [hl]; exact List.mem_cons_self)
        have q2 := hm x hx e
        rw [q2] at q
        exact nomatch q
theorem to_w : TO wlt := ⟨wlt_irr, wlt_tot, wlt_trans⟩
theorem to_row (h : TO lt) : TO (rlt lt) := ⟨fun a => by
    induction a with
    | nil => rfl
    | cons x xs ih => simp [rlt, ih], fun a => by
    induction a with
    | nil =>
      intro b hb
      cases b with
      | nil => exact absurd rfl hb
      | cons y ys => rfl
    | cons x xs ih =>
      intro b hb
      cases b with
      | nil => rfl
      | cons y ys =>
        rw [rlt, rlt]
        by_cases e : x = y
        · subst e
          rw [if_pos rfl, if_pos rfl]
          exact ih ys fun z => hb (by rw [z])
        · rw [if_neg e, if_neg (Ne.symm e)]
          exact h.tot x y e, fun a => by
    induction a with
    | nil =>
      intro b c h1 h2
      cases b with
      | nil => cases h1
      | cons y ys =>
        cases c with
        | nil => cases h2
        | cons z zs => rfl
    | cons x xs ih =>
      intro b c h1 h2
      cases b with
      | nil => cases h1
      | cons y ys =>
        cases c with
        | nil => cases h2
        | cons z zs =>
          rw [rlt] at h1 h2 ⊢
          by_cases e : x = y
          · subst e
            rw [if_pos rfl] at h1
            by_cases e2 : x = z
            · subst e2
              rw [if_pos rfl] at h2 ⊢
              exact ih ys zs h1 h2
            · rw [if_neg e2] at h2 ⊢
              exact h2
          · rw [if_neg e] at h1
            by_cases e2 : y = z
            · subst e2
              rw [if_neg e]
              exact h1
            · rw [if_neg e2] at h2
              by_cases e3 : x = z
              · subst e3
                have := h.tr x y x h1 h2
                rw [h.irr] at this
                exact nomatch this
              · rw [if_neg e3]
                exact h.tr x y z h1 h2⟩
theorem to_int : TO (fun a b : Int => decide (a < b)) := ⟨fun a => by simp, fun a b h => by
    rw [← decide_not]
    exact decide_eq_decide.mpr (by omega), fun a b c h1 h2 => by simp at *; omega⟩
theorem to_pair (h : TO lt) (h2 : TO lt2) : TO (fun p q : α × β => if p.1 = q.1 then lt2 p.2 q.2 else lt p.1 q.1) := ⟨fun a => by simp [h2.irr], fun a b hn => by
    by_cases e : a.1 = b.1
    · rw [if_pos e, if_pos e.symm]
      exact h2.tot _ _ fun z => hn (Prod.ext e z)
    · rw [if_neg e, if_neg (Ne.symm e)]
      exact h.tot _ _ e, fun a b c h1 h3 => by
    by_cases e : a.1 = b.1
    · rw [if_pos e] at h1
      by_cases e2 : b.1 = c.1
      · rw [if_pos e2] at h3
        rw [if_pos (e.trans e2)]
        exact h2.tr _ _ _ h1 h3
      · rw [if_neg e2] at h3
        rw [if_neg (by rw [e]; exact e2), e]
        exact h3
    · rw [if_neg e] at h1
      by_cases e2 : b.1 = c.1
      · rw [if_neg (by rw [← e2]; exact e), ← e2]
        exact h1
      · rw [if_neg e2] at h3
        have h4 := h.tr _ _ _ h1 h3
        by_cases e3 : a.1 = c.1
        · rw [e3, h.irr] at h4
          exact nomatch h4
        · rw [if_neg e3]
          exact h4⟩
end
/-! the greedy row is the first of the best -/
def grF (ws : List W) : List (Option W) → W → List W
  | [], _ => []
  | h :: t, u => ws.getD (nxP ws h t u) [] :: grF ws t (ws.getD (nxP ws h t u) [])
theorem al_mem {ws : List W} {h : Option W} {v : W} (hv : v ∈ alF ws h) : ∃ j, j < ws.length ∧ v = ws.getD j [] ∧ okB h (ws.getD j []) = true := by
  obtain ⟨h1, h2⟩ := List.mem_filter.mp hv
  obtain ⟨j, hj, e⟩ := List.getElem_of_mem h1
  have e2 : ws.getD j [] = v := by simp [hj, e]
  exact ⟨j, hj, e2.symm, by rw [e2]; exact h2⟩
theorem al_of {ws : List W} {h : Option W} {j : Nat} (hj : j < ws.length) (ho : okB h (ws.getD j []) = true) : ws.getD j [] ∈ alF ws h := by
  refine List.mem_filter.mpr ⟨?_, ho⟩
  simp [hj]
theorem kn_tail {ws : List W} {h : Option W} {t : List (Option W)} (hk : kn ws (h :: t)) : (h = none ∨ ∃ v ∈ ws, h = some v) ∧ kn ws t := ⟨hk h List.mem_cons_self, fun g hg => hk g (List.mem_cons_of_mem _ hg)⟩
theorem sorted_at {ws : List W} (hp : ws.Pairwise (fun a b => wlt a b = true)) {i j : Nat} (hij : i < j) (hj : j < ws.length) : wlt (ws.getD i []) (ws.getD j []) = true := by
  have := List.pairwise_iff_getElem.mp hp i j (by omega) hj hij
  have hi : i < ws.length := by omega
  simpa [List.getD_eq_getElem?_getD, hi, hj] using this
theorem gr_spec (ws : List W) (hn : 1 ≤ ws.length) (hp : ws.Pairwise (fun a b => wlt a b = true)) : ∀ (hs : List (Option W)) (u : W), kn ws hs → grF ws hs u ∈ flF ws hs ∧ (slF u (grF ws hs u)).sum = uF ws hs u ∧
    ∀ r ∈ flF ws hs, uF ws hs u ≤ (slF u r).sum ∧ ((slF u r).sum = uF ws hs u → r ≠ grF ws hs u → rlt wlt (grF ws hs u) r = true)
  | [], u, _ => ⟨by simp [flF, grF], rfl, fun r hr => by
    rw [flF] at hr
    rw [List.mem_singleton.mp hr]
    exact ⟨Int.le_refl _, fun _ h => absurd rfl h⟩⟩
  | h :: t, u, hk => by
    obtain ⟨k1, k2⟩ := kn_tail hk
    obtain ⟨_, n1, n2, n3, n4⟩ := nx_spec ws hn t k1 u
    obtain ⟨g1, g2, g3⟩ := gr_spec ws hn hp t (ws.getD (nxP ws h t u) []) k2
    rw [grF]
    refine ⟨?_, ?_, fun r hr => ?_⟩
    · rw [flF]
      exact List.mem_flatMap.mpr ⟨_, al_of n1 n2, List.mem_map.mpr ⟨_, g1, rfl⟩⟩
    · rw [slF, List.sum_cons, g2, n3]
    · rw [flF] at hr
      obtain ⟨v, h1, h2⟩ := List.mem_flatMap.mp hr
      obtain ⟨q, h3, rfl⟩ := List.mem_map.mp h2
      obtain ⟨j, hj, rfl, ho⟩ := al_mem h1
      obtain ⟨_, _, hmin⟩ := u_spec ws hn t k1 u
      have m1 := hmin j hj ho
      obtain ⟨f1, f2, f3⟩ := gr_spec ws hn hp t (ws.getD j []) k2
      obtain ⟨f4, f5⟩ := f3 q h3
      rw [slF, List.sum_cons]
      refine ⟨by omega, fun hs hne => ?_⟩
      have e1 : (slF (ws.getD j []) q).sum = uF ws t (ws.getD j []) := by omega
      have e2 := n4 j hj ho (by omega)
      rw [rlt]
      by_cases c : ws.getD (nxP ws h t u) [] = ws.getD j []
      · rw [if_pos c, c]
        refine f5 e1 fun z => hne ?_
        rw [c, z]
      · rw [if_neg c]
        have : nxP ws h t u ≠ j := fun z => c (by rw [z])
        exact sorted_at hp (by omega) hj
end Hd
end

/-! part: K35n -/
section
set_option Elab.async false
set_option linter.all false
set_option maxRecDepth 100000
set_option maxHeartbeats 400000
namespace Hd
open PySem PySem.Spec Q
def tW (r : List W) : D := .tuple (r.map wD)
theorem e_fillings (ws : List W) (hw : ws.length ≤ 5) (hs : List (Option W)) (hh : hs.length ≤ 4) : Ph__law_fillings [.tuple (ws.map wD), .tuple (hs.map oD)] = some (.list ((flF ws hs).map tW)) := by
  have hl := line_ge
  simp -implicitDefEqProofs [Ph__law_fillings, b__law_fillings]
  obtain ⟨ρ', e1, x3, x4, x5, x6, e2⟩ := forL_all (step := turnD (sN 3) L__law_fillings_2) (xs := hs) (mk := oD)
    (fun pre (ρ : Rho) => ∃ x3 x4 x5 x6, ρ = [.im (.tuple (ws.map wD)), .im (.tuple (hs.map oD)), .im (.list ((flF ws pre).map tW)), x3, x4, x5, x6])
    [.im (.tuple (ws.map wD)), .im (.tuple (hs.map oD)), .im (.list [.tuple []]), .un, .un, .un, .un] ⟨_, _, _, _, rfl⟩ (by
    rintro pre post ρ h ⟨y3, y4, y5, y6, rfl⟩ hx
    have hp := split_len hx
    have l5 := fl_len5 ws hw pre
    have l6 : 5 ^ pre.length ≤ 5 ^ 3 := Nat.pow_le_pow_right (by omega) (by omega)
    have hmem := fun r hr => @fl_mem ws pre r hr
    rw [flF_snoc]
    generalize flF ws pre = R at *
    obtain ⟨ρ2, e1, x5, x6, e2⟩ := forL_all (step := turnD (sN 5) L__law_fillings_1) (xs := R) (mk := tW)
      (fun pr (ρ : Rho) => ∃ x5 x6, ρ = [.im (.tuple (ws.map wD)), .im (.tuple (hs.map oD)), .im (.list (R.map tW)), .im (oD h), .im (.list ((pr.flatMap fun r => (alF ws h).map fun v => r ++ [v]).map tW)), x5, x6])
      [.im (.tuple (ws.map wD)), .im (.tuple (hs.map oD)), .im (.list (R.map tW)), .im (oD h), .im (.list []), y5, y6] ⟨_, _, rfl⟩ (by
      rintro pr po ρ r ⟨z5, z6, rfl⟩ hy
      have hpr := split_len hy
      have b1 := flatMap_len (fun r => (alF ws h).map fun v => r ++ [v]) 5 pr (fun x _ => by rw [List.length_map]; exact Nat.le_trans (al_len ws h) hw)
      have b2 := al_len ws h
      have hrl := (hmem r (split_mem hy)).1
      rw [List.flatMap_append, List.map_append]
      have e0 : ([r].flatMap fun r => (alF ws h).map fun v => r ++ [v]) = (alF ws h).map fun v => r ++ [v] := by simp
      rw [e0]
      generalize (pr.flatMap fun r => (alF ws h).map fun v => r ++ [v]) = G at *
      refine ⟨_, .inl ?_, .im (tW r), z6, rfl⟩
      have hc : fLc (fI (vF 0)) (sN 6) (fOrT (fT (f2 isND (vF 3) (cD .none))) (fT (f2 eqD (vF 3) (vF 6)))) (f2 addD (vF 5) (fTup (aCons (vF 6) (aNil)))) [6] [.im (.tuple (ws.map wD)), .im (.tuple (hs.map oD)), .im (.list (R.map tW)), .im (oD h), .im (.list (G.map tW)), .im (tW r), z6] = some (.list (((alF ws h).map fun v => r ++ [v]).map tW)) := by
        simp -implicitDefEqProofs
        rw [lcL_map (p := okB h) (g := fun v => tW (r ++ [v])) (fun v hv => by
          have e1 := is_none h
          have e2 := oD_eq h v
          cases h with
          | none => simp [e1, okB]
          | some u =>
            by_cases c : u = v
            · subst c; simp [e1, e2, okB]
            · simp [e1, e2, okB, c]) (fun v hv hp => by
          have e3 : addD (tW r) (.tuple [wD v]) = some (tW (r ++ [v])) := by
            unfold tW
            rw [List.map_append]
            exact if_pos (by simp; omega)
          simp [e3]), Option.bind_some, lcB_small (by
            have : (ws.filter (okB h)).length ≤ ws.length := List.length_filter_le ..
            simp; omega)]
        rfl
      have e4 : G.length + (alF ws h).length ≤ sizeLine := by omega
      simp -implicitDefEqProofs only [L__law_fillings_1]
      simp -implicitDefEqProofs only [turnD_e]
      generalize hq : fLc (fI (vF 0)) (sN 6) (fOrT (fT (f2 isND (vF 3) (cD .none))) (fT (f2 eqD (vF 3) (vF 6)))) (f2 addD (vF 5) (fTup (aCons (vF 6) (aNil)))) [6] = q at *
      simp -implicitDefEqProofs [hc, e4])
    subst e2
    refine ⟨_, .inl ?_, .im (oD h), .im (.list ((R.flatMap fun r => (alF ws h).map fun v => r ++ [v]).map tW)), x5, x6, rfl⟩
    generalize (R.flatMap fun r => (alF ws h).map fun v => r ++ [v]) = G at *
    simp -implicitDefEqProofs [L__law_fillings_2]
    rw [e1]
    rfl)
  rw [e1]
  subst e2
  simp -implicitDefEqProofs
end Hd
end

/-! part: K35o -/
section
set_option Elab.async false
set_option linter.all false
set_option maxRecDepth 100000
set_option maxHeartbeats 400000
namespace Hd
open PySem PySem.Spec Q
def rowS (ws : List W) : List (Option W) → List (Option Int)
  | [] => List.replicate ws.length (some 0)
  | h :: t => stepF ws (maskF ws h (rowS ws t))
def restL (ws : List W) : List (Option W) → List (List (Option Int))
  | [] => []
  | h :: t => maskF ws h (rowS ws t) :: restL ws t
def rsSt (ws : List W) (st : List (Option Int) × List (List (Option Int))) (h : Option W) : List (Option Int) × List (List (Option Int)) := (stepF ws (maskF ws h st.1), st.2 ++ [maskF ws h st.1])
theorem rs_eq (ws : List W) : ∀ hs : List (Option W), hs.reverse.foldl (rsSt ws) (List.replicate ws.length (some 0), []) = (rowS ws hs, (restL ws hs).reverse)
  | [] => rfl
  | h :: t => by
    rw [List.reverse_cons, List.foldl_append, rs_eq ws t]
    simp [rsSt, rowS, restL]
theorem rowS_len (ws : List W) : ∀ hs, (rowS ws hs).length = ws.length
  | [] => by simp [rowS]
  | h :: t => by rw [rowS, step_len]
theorem rs_len (ws : List W) : ∀ (hs : List (Option W)) (st : List (Option Int) × List (List (Option Int))), st.1.length = ws.length → (hs.foldl (rsSt ws) st).1.length = ws.length ∧ (hs.foldl (rsSt ws) st).2.length = st.2.length + hs.length
  | [], st, h => ⟨h, rfl⟩
  | g :: t, st, h => by
    rw [List.foldl_cons]
    obtain ⟨a, b⟩ := rs_len ws t (rsSt ws st g) (by simp [rsSt, step_len])
    refine ⟨a, ?_⟩
    rw [b]
    simp [rsSt]
    omega
theorem rest_step (ws : List W) (hs : List (Option W)) (hws : okS ws) (h : Option W) (row : List (Option Int)) (hr : row.length = ws.length) (R : List D) (hR : R.length < sizeLine) (y5 y6 y7 : Sl) :
    turnD (sN 5) L_rest_of_1 (oD h) [.im (.tuple (ws.map wD)), .im (.tuple (hs.map oD)), .im (gapsD ws), .im (rL row), .ow (.list R), y5, y6, y7] =
      some (.nx [.im (.tuple (ws.map wD)), .im (.tuple (hs.map oD)), .im (gapsD ws), .im (rL (stepF ws (maskF ws h row))), .ow (.list (R ++ [rL (maskF ws h row)])), .im (oD h), y6, y7]) := by
  obtain ⟨hw, _⟩ := id hws
  have en := enum_mk (mk := oI) none row (rL row) (.inl rfl)
  have r2 := rg1_n (k := ws.length) (by omega)
  have c1 : fLc (fEnum (vF 3)) (sT 2 (sCons (sN 6) (sCons (sN 7) (sNil)))) (fYes) (fIf (fT (f2 inD (vF 5) (fTup (aCons (cD .none) (aCons (f2 ixD (vF 0) (vF 6)) (aNil)))))) (vF 7) (cD .none)) [6, 7]
      [.im (.tuple (ws.map wD)), .im (.tuple (hs.map oD)), .im (gapsD ws), .im (rL row), .ow (.list R), .im (oD h), y6, y7] = some (rL (maskF ws h row)) := by
    simp -implicitDefEqProofs [en, hr]
    simp only [← List.getD_eq_getElem?_getD]
    rw [lcL_all (g := fun p => oI ((maskF ws h row).getD p none)) (by simp) (fun p hp => by
      have hp' := List.mem_range.mp hp
      rw [maskF, get_map_range _ none hp']
      have a2 := hin h (ws.getD p [])
      have a1 := wget ws hp'
      generalize ws.getD p [] = v at *
      generalize row.getD p none = o at *
      by_cases c : h = none ∨ h = some v
      · simp [a2, c, a1]
      · simp [a2, c, a1, oI]), Option.bind_some, lcB_small (by simp; omega)]
    rw [map_oI _ (mask_len ..)]
    rfl
  have c2 : fLc (fIs rg1D (aCons (fB lenD (aCons (vF 0) (aNil))) (aNil))) (sN 6) (fYes) (fB (Ph_least_sum) (aCons (vF 3) (aCons (f2 ixD (vF 2) (vF 6)) (aNil)))) [6]
      [.im (.tuple (ws.map wD)), .im (.tuple (hs.map oD)), .im (gapsD ws), .im (rL (maskF ws h row)), .ow (.list (R ++ [rL (maskF ws h row)])), .im (oD h), y6, y7] = some (rL (stepF ws (maskF ws h row))) := by
    simp -implicitDefEqProofs [r2]
    have ml := mask_len ws h row
    have hes := e_step ws (maskF ws h row) ml hw.2
    have hst := step_len ws (maskF ws h row)
    generalize maskF ws h row = rw' at *
    rw [lcL_all (g := fun p => oI ((stepF ws rw').getD p none)) (by simp) (fun p hp => by
      have hp' := List.mem_range.mp hp
      have a1 := hes p hp' (rL rw') (.inl rfl)
      generalize (stepF ws rw').getD p none = o at *
      rw [← a1]
      cases ixD (gapsD ws) (.int (p : Int)) <;> rfl), Option.bind_some, lcB_small (by simp; omega)]
    rw [map_oI _ hst]
    rfl
  generalize maskF ws h row = mrow at *
  generalize stepF ws mrow = srow at *
  simp -implicitDefEqProofs [L_rest_of_1, ↓c1, ↓c2, hR]
theorem e_rest_of (ws : List W) (hs : List (Option W)) (hws : okS ws) (hh : hs.length ≤ 4) : Ph_rest_of [.tuple (ws.map wD), .tuple (hs.map oD)] = some (.list ((restL ws hs).map rL)) := by
  have hl := line_ge
  obtain ⟨hw, _⟩ := id hws
  have hrep := rep_1 (.int 0) ws.length (by omega)
  have e0 : List.replicate ws.length (PyData.int 0) = (List.replicate ws.length (some (0 : Int))).map oI := by simp [oI]
  rw [e0] at hrep
  simp -implicitDefEqProofs [Ph_rest_of, b_rest_of, e_gaps_of ws hws]
  have hrep' : repLD (.list [.int 0]) (.int (ws.length : Int)) = some (.list ((List.replicate ws.length (some (0 : Int))).map oI)) := hrep
  have hrv : (hs.map oD).reverse = hs.reverse.map oD := by rw [List.map_reverse]
  rw [hrep']
  obtain ⟨ρ', e1, x5, x6, x7, e2⟩ := forL_all (step := turnD (sN 5) L_rest_of_1) (xs := hs.reverse) (mk := oD)
    (fun pre (ρ : Rho) => ∃ x5 x6 x7, ρ = [.im (.tuple (ws.map wD)), .im (.tuple (hs.map oD)), .im (gapsD ws), .im (rL (pre.foldl (rsSt ws) (List.replicate ws.length (some 0), [])).1), .ow (.list ((pre.foldl (rsSt ws) (List.replicate ws.length (some 0), [])).2.map rL)), x5, x6, x7])
    [.im (.tuple (ws.map wD)), .im (.tuple (hs.map oD)), .im (gapsD ws), .im (rL (List.replicate ws.length (some 0))), .ow (.list []), .un, .un, .un] ⟨_, _, _, rfl⟩ (by
    rintro pre post ρ h ⟨y5, y6, y7, rfl⟩ hx
    obtain ⟨l1, l2⟩ := rs_len ws pre (List.replicate ws.length (some 0), []) (by simp)
    rw [List.foldl_append, List.foldl_cons, List.foldl_nil]
    generalize pre.foldl (rsSt ws) (List.replicate ws.length (some 0), []) = st at *
    obtain ⟨row, rows⟩ := st
    dsimp only at l1 l2 ⊢
    refine ⟨_, .inl (rest_step ws hs hws h row l1 (rows.map rL) ?_ y5 y6 y7), .im (oD h), y6, y7, ?_⟩
    · have := split_len hx
      rw [List.length_map, l2]
      simp at this ⊢
      omega
    · simp [rsSt])
  rw [rs_eq] at e2
  subst e2
  have hrv2 : (hs.reverse.map oD) = (hs.map oD).reverse := by rw [List.map_reverse]
  rw [hrv2] at e1
  rw [show rL (List.replicate ws.length (some 0)) = .list ((List.replicate ws.length (some (0 : Int))).map oI) from rfl] at e1
  clear hrep' hrep e0
  generalize (List.replicate ws.length (some (0 : Int))).map oI = X at *
  have hv : revD (.tuple (hs.map oD)) = some (hs.map oD).reverse := rfl
  rw [Option.bind_some]
  simp -implicitDefEqProofs [hv, -List.map_reverse]
  rw [e1]
  simp -implicitDefEqProofs
end Hd
end

/-! part: K35p -/
section
set_option Elab.async false
set_option linter.all false
set_option maxRecDepth 100000
set_option maxHeartbeats 400000
namespace Hd
open PySem PySem.Spec Q
theorem rowS_u (ws : List W) (hn : 1 ≤ ws.length) : ∀ hs, kn ws hs → rowS ws hs = ws.map fun v => some (uF ws hs v)
  | [], _ => by
    rw [rowS]
    apply List.ext_getElem
    · simp
    · intro i h1 h2
      simp [uF]
  | h :: t, hk => by
    obtain ⟨k1, k2⟩ := kn_tail hk
    rw [rowS, rowS_u ws hn t k2, stepF]
    apply List.ext_getElem
    · simp
    · intro i h1 h2
      simp only [List.length_map, List.length_range] at h1
      simp only [List.getElem_map, List.getElem_range]
      have e : ws.getD i [] = ws[i] := by simp [h1]
      rw [(u_spec ws hn t k1 (ws.getD i [])).1, e]
theorem rest_split (ws : List W) : ∀ (hs : List (Option W)) (pre post : List (List (Option Int))) (x : List (Option Int)), restL ws hs = pre ++ x :: post → ∃ h t, hs.drop pre.length = h :: t ∧ x = maskF ws h (rowS ws t)
  | [], pre, post, x, e => by simp [restL] at e
  | h :: t, pre, post, x, e => by
    rw [restL] at e
    cases pre with
    | nil =>
      rw [List.nil_append] at e
      injection e with e1 e2
      exact ⟨h, t, rfl, e1.symm⟩
    | cons y pre =>
      rw [List.cons_append] at e
      injection e with e1 e2
      exact rest_split ws t pre post x e2
theorem rest_len (ws : List W) : ∀ hs : List (Option W), (restL ws hs).length = hs.length
  | [] => rfl
  | h :: t => by rw [restL, List.length_cons, List.length_cons, rest_len ws t]
def stN (ws : List W) (hs : List (Option W)) (w : W) : Nat → W × List W × List Int
  | 0 => (w, [], [])
  | k + 1 => match hs.drop k with
    | [] => stN ws hs w k
    | h :: t => (ws.getD (nxP ws h t (stN ws hs w k).1) [], (stN ws hs w k).2.1 ++ [ws.getD (nxP ws h t (stN ws hs w k).1) []], (stN ws hs w k).2.2 ++ [uF ws (h :: t) (stN ws hs w k).1])
theorem st_gr (ws : List W) (hs : List (Option W)) (w : W) : ∀ k, k ≤ hs.length → (stN ws hs w k).2.1 ++ grF ws (hs.drop k) (stN ws hs w k).1 = grF ws hs w ∧ (stN ws hs w k).2.1.length = k ∧ (stN ws hs w k).2.2.length = k ∧ (0 < k → (stN ws hs w k).2.2.head? = some (uF ws hs w))
  | 0, _ => ⟨rfl, rfl, rfl, fun h => absurd h (Nat.lt_irrefl _)⟩
  | k + 1, hk => by
    obtain ⟨h1, h2, h3, h4⟩ := st_gr ws hs w k (by omega)
    have e : hs.drop k = hs[k] :: hs.drop (k + 1) := List.drop_eq_getElem_cons (by omega)
    rw [stN, e]
    dsimp only
    rw [e, grF] at h1
    refine ⟨by rw [List.append_assoc]; exact h1, by simp [h2], by simp [h3], fun _ => ?_⟩
    cases k with
    | zero =>
      rw [List.drop_zero] at e
      show some (uF ws (hs[0] :: hs.drop 1) w) = _
      rw [← e]
    | succ k =>
      have := h4 (by omega)
      rw [List.head?_append, this]
      rfl
def pD (p : Int × Int) : D := .tuple [.int p.1, .int p.2]
theorem minA_p {l : List (Int × Int)} (h : l ≠ []) : minA [.list (l.map pD)] = some (pD (bestP l)) := by
  cases l with
  | nil => exact absurd rfl h
  | cons x xs =>
    have := minOf_nice (nice_pair nice_int nice_int) (by decide) (ordd_pair nice_int nice_int ordd_int ordd_int fun a => by simp) x xs
    exact this
theorem least_step (ws : List W) (hs : List (Option W)) (hws : okS ws) (h : Option W) (t : List (Option W)) (hk : h = none ∨ ∃ v ∈ ws, h = some v) (hk2 : kn ws t) (u : W) (hu : okW u) (X Y : List D) (hX : X.length < sizeLine) (hY : Y.length < sizeLine) (y5 y6 y7 y9 y10 y8 : Sl) :
    turnD (sN 5) L_least_by_1 (rL (maskF ws h (rowS ws t))) [.im (.tuple (ws.map wD)), .im (wD u), .im (.tuple (hs.map oD)), .ow (.list X), .ow (.list Y), y5, y6, y7, y8, y9, y10] =
      some (.nx [.im (.tuple (ws.map wD)), .im (wD (ws.getD (nxP ws h t u) [])), .im (.tuple (hs.map oD)), .ow (.list (X ++ [wD (ws.getD (nxP ws h t u) [])])), .ow (.list (Y ++ [.int (uF ws (h :: t) u)])), .im (rL (maskF ws h (rowS ws t))), .im (.int (uF ws (h :: t) u)), .im (.int (nxP ws h t u : Nat)), y8, y9, y10]) := by
  obtain ⟨hw, ho⟩ := id hws
  rw [rowS_u ws hw.1 t hk2]
  obtain ⟨n0, n1, n2, n3, n4⟩ := nx_spec ws hw.1 t hk u
  have ml := mask_len ws h (ws.map fun v => some (uF ws t v))
  have hat := fun j (hj : j < ws.length) => mask_at ws h (uF ws t) hj
  have en := enum_mk (mk := oI) none (maskF ws h (ws.map fun v => some (uF ws t v))) (rL (maskF ws h (ws.map fun v => some (uF ws t v)))) (.inl rfl)
  generalize maskF ws h (ws.map fun v => some (uF ws t v)) = row at *
  have c1 : fLc (fEnum (vF 5)) (sT 2 (sCons (sN 9) (sCons (sN 10) (sNil)))) (fT (f2 notND (vF 10) (cD .none))) (fTup (aCons (f2 addD (fB (Ph_gap_of) (aCons (vF 1) (aCons (f2 ixD (vF 0) (vF 9)) (aNil)))) (vF 10)) (aCons (vF 9) (aNil)))) [9, 10]
      [.im (.tuple (ws.map wD)), .im (wD u), .im (.tuple (hs.map oD)), .ow (.list X), .ow (.list Y), .im (rL row), y6, y7, y8, y9, y10] = some (.list ((prL ws h t u).map pD)) := by
    simp -implicitDefEqProofs [en, ml]
    simp only [← List.getD_eq_getElem?_getD]
    rw [lcL_map (p := fun j => okB h (ws.getD j [])) (g := fun j => pD (gp u (ws.getD j []) + uF ws t (ws.getD j []), (j : Int))) (fun j hj => by
      have hj' := List.mem_range.mp hj
      rw [hat j hj']
      generalize ws.getD j [] = v
      by_cases c : okB h v = true
      · simp [c, oI_nn]
      · simp [c, oI_nn]) (fun j hj hp => by
      have hj' := List.mem_range.mp hj
      rw [hat j hj', if_pos hp]
      have a1 := wget ws hj'
      have a2 := e_gap_of u (ws.getD j []) (okW_len hu) (okW_len (getD_ok ho hj'))
      generalize ws.getD j [] = v at *
      simp [a1, a2, oI, pD]), Option.bind_some, lcB_small (by
        have : ((List.range ws.length).filter fun j => okB h (ws.getD j [])).length ≤ (List.range ws.length).length := List.length_filter_le ..
        simp at this ⊢
        omega)]
    unfold prL
    rw [List.map_map]
    rfl
  have c2 : minA [.list ((prL ws h t u).map pD)] = some (pD (uF ws (h :: t) u, ((nxP ws h t u : Nat) : Int))) := by
    rw [minA_p, n0]
    intro z
    obtain ⟨_, ⟨i, hi, hi2, hi3⟩, _⟩ := u_spec ws hw.1 t hk u
    have mem : (gp u (ws.getD i []) + uF ws t (ws.getD i []), (i : Int)) ∈ prL ws h t u := List.mem_map.mpr ⟨i, List.mem_filter.mpr ⟨List.mem_range.mpr hi, hi2⟩, rfl⟩
    rw [z] at mem
    cases mem
  have a1 := wget ws n1
  generalize (prL ws h t u).map pD = PL at *
  generalize nxP ws h t u = pl at *
  generalize ws.getD pl [] = v at *
  simp -implicitDefEqProofs [L_least_by_1, ↓c1, c2, pD, hX, hY, a1]
def knB (ws : List W) (h : Option W) : Bool := match h with
  | none => true
  | some v => decide (v ∈ ws)
theorem kn_all (ws : List W) (hs : List (Option W)) : hs.all (knB ws) = true ↔ kn ws hs := by
  rw [List.all_eq_true]
  unfold kn
  constructor
  · intro h o ho
    have := h o ho
    cases o with
    | none => exact .inl rfl
    | some v => exact .inr ⟨v, by simpa [knB] using this, rfl⟩
  · intro h o ho
    rcases h o ho with rfl | ⟨v, hv, rfl⟩
    · rfl
    · simpa [knB] using hv
theorem e_least_by (w : W) (ws : List W) (hs : List (Option W)) (hw : okW w) (hws : okS ws) (hp : ws.Pairwise (fun a b => wlt a b = true)) (hh : okH hs) (d : D) (hd : d = .tuple (hs.map oD) ∨ d = .list (hs.map oD)) :
    Ph_least_by [.tuple (ws.map wD), wD w, d] = some (if hs.all (knB ws) = true then .tuple [.int (uF ws hs w), .tuple ((grF ws hs w).map wD)] else .none) := by
  have hl := line_ge
  have e1 := e_to_words ws hws.1 hws.2 (hso_of hp) _ (.inl rfl)
  have e2 := e_to_heard hs hh d hd
  have e3 : fLc (fI (vF 2)) (sN 8) (fYes) (fOr (f2 isND (vF 8) (cD .none)) (f2 inD (vF 8) (vF 0))) [8] [.im (.tuple (ws.map wD)), .im (wD w), .im (.tuple (hs.map oD)), .un, .un, .un, .un, .un, .un, .un, .un] = some (.list (hs.map fun h => .bool (knB ws h))) := by
    have := hh.1
    simp -implicitDefEqProofs
    rw [lcL_all (g := fun h => PyData.bool (knB ws h)) (by simp) (fun h _ => by
      have e := is_none h
      cases h with
      | none => simp [e, knB]
      | some v =>
        have := nice_w.in_t (by decide) v ws
        simp [oD_some, wD_none, this, knB]), Option.bind_some, lcB_small (by simp; omega)]
  by_cases hk : hs.all (knB ws) = true
  · rw [if_pos hk]
    have hk' := (kn_all ws hs).mp hk
    have e4 := e_rest_of ws hs hws hh.1.2
    have e5 : allD [.list (hs.map fun h => .bool (knB ws h))] = some (.bool true) := by simp [← hk, List.all_map]
    simp -implicitDefEqProofs [Ph_least_by, b_least_by, e1, e2, e_to_word _ hw, e_need_w, e_need_t, ↓e3, e5, e4]
    obtain ⟨ρ', q1, x5, x6, x7, x8, x9, x10, q2⟩ := forL_all (step := turnD (sN 5) L_least_by_1) (xs := restL ws hs) (mk := rL)
      (fun pre (ρ : Rho) => ∃ x5 x6 x7 x8 x9 x10, ρ = [.im (.tuple (ws.map wD)), .im (wD (stN ws hs w pre.length).1), .im (.tuple (hs.map oD)), .ow (.list ((stN ws hs w pre.length).2.1.map wD)), .ow (.list ((stN ws hs w pre.length).2.2.map .int)), x5, x6, x7, x8, x9, x10])
      [.im (.tuple (ws.map wD)), .im (wD w), .im (.tuple (hs.map oD)), .ow (.list []), .ow (.list []), .un, .un, .un, .un, .un, .un] ⟨_, _, _, _, _, _, rfl⟩ (by
      rintro pre post ρ x ⟨y5, y6, y7, y8, y9, y10, rfl⟩ hx
      obtain ⟨h, t, hd, rfl⟩ := rest_split ws hs pre post x hx
      have hpl := split_len hx
      rw [rest_len] at hpl
      obtain ⟨g1, g2, g3, _⟩ := st_gr ws hs w pre.length (by omega)
      have hkt : kn ws (h :: t) := by
        intro o ho
        rw [← hd] at ho
        exact hk' o (List.mem_of_mem_drop ho)
      obtain ⟨k1, k2⟩ := kn_tail hkt
      have hu : okW (stN ws hs w pre.length).1 := by
        clear g1 g2 g3 hkt hd hx
        have : ∀ k, okW (stN ws hs w k).1 := by
          intro k
          induction k with
          | zero => exact hw
          | succ k ih =>
            rw [stN]
            cases hk2 : hs.drop k with
            | nil => exact ih
            | cons g t' =>
              have hkt : kn ws (g :: t') := fun o ho => hk' o (List.mem_of_mem_drop (by rw [hk2]; exact ho))
              obtain ⟨k1, k2⟩ := kn_tail hkt
              exact getD_ok hws.2 (nx_spec ws hws.1.1 t' k1 _).2.1
        exact this _
      have st1 := least_step ws hs hws h t k1 k2 (stN ws hs w pre.length).1 hu ((stN ws hs w pre.length).2.1.map wD) ((stN ws hs w pre.length).2.2.map .int) (by rw [List.length_map]; have := hh.1.2; omega) (by rw [List.length_map]; have := hh.1.2; omega) y5 y6 y7 y9 y10 y8
      refine ⟨_, .inl st1, ?_⟩
      rw [List.length_append, List.length_singleton, stN, hd]
      dsimp only
      rw [List.map_append, List.map_append]
      exact ⟨_, _, _, _, _, _, rfl⟩)
    rw [q1]
    subst q2
    rw [rest_len]
    obtain ⟨g1, g2, g3, g4⟩ := st_gr ws hs w hs.length (Nat.le_refl _)
    rw [List.drop_length, grF, List.append_nil] at g1
    have g5 := g4 hh.1.1
    rw [g1]
    generalize (stN ws hs w hs.length).2.2 = S at *
    cases S with
    | nil => cases g5
    | cons s S =>
      cases g5
      have a0 : L2.atI (PyData.int (uF ws hs w) :: S.map .int) 0 = some (.int (uF ws hs w)) := at_n (uF ws hs w :: S) (k := 0) (by simp)
      simp -implicitDefEqProofs [a0]
  · rw [if_neg hk]
    have e5 : allD [.list (hs.map fun h => .bool (knB ws h))] = some (.bool false) := by
      have : hs.all (knB ws) = false := by simpa using hk
      simp [← this, List.all_map]
    simp -implicitDefEqProofs [Ph_least_by, b_least_by, e1, e2, e_to_word _ hw, e_need_w, e_need_t, ↓e3, e5]
end Hd
end

/-! part: K35q -/
section
set_option Elab.async false
set_option linter.all false
set_option maxRecDepth 100000
set_option maxHeartbeats 400000
namespace Hd
open PySem PySem.Spec Q
/-! the first of the ranked -/
def rkD (p : Int × List W) : D := .tuple [.int p.1, tW p.2]
def rkt (p q : Int × List W) : Bool := if p.1 = q.1 then rlt wlt p.2 q.2 else decide (p.1 < q.1)
theorem nice_tW : Nice 1 tW := nice_tup nice_w
theorem ordd_tW : Ordd tW (rlt wlt) := ordd_tupL nice_w ordd_w
theorem nice_rk : Nice 2 rkD := nice_pair (nice_int.up (by decide)) nice_tW
theorem to_rk : TO rkt := to_pair to_int (to_row to_w)
theorem ordd_rk : Ordd rkD rkt := ordd_pair nice_int nice_tW ordd_int ordd_tW fun a => (to_row to_w).irr a
theorem sorted_rk (l : List (Int × List W)) : sortedD [.list (l.map rkD)] = some (.list ((l.mergeSort fun a b => !rkt b a).map rkD)) :=
  sorted_tup nice_rk (by decide) ordd_rk (fun a => ⟨_, _, rfl⟩) l _ (.inl rfl)
def evL (w : W) (rows : List (List W)) : List (Int × List W) := rows.map fun r => ((slF w r).sum, r)
theorem ranked_head (ws : List W) (hn : 1 ≤ ws.length) (hp : ws.Pairwise (fun a b => wlt a b = true)) (hs : List (Option W)) (w : W) (hk : kn ws hs) :
    ∃ t, ((evL w (flF ws hs)).mergeSort fun a b => !rkt b a) = (uF ws hs w, grF ws hs w) :: t := by
  obtain ⟨g1, g2, g3⟩ := gr_spec ws hn hp hs w hk
  refine sort_head to_rk _ _ (List.mem_map.mpr ⟨_, g1, by rw [g2]⟩) ?_
  intro y hy hne
  obtain ⟨r, hr, rfl⟩ := List.mem_map.mp hy
  obtain ⟨h1, h2⟩ := g3 r hr
  unfold rkt
  dsimp only
  by_cases c : uF ws hs w = (slF w r).sum
  · rw [if_pos c]
    exact h2 c.symm fun z => hne (by rw [z, g2])
  · rw [if_neg c]
    exact decide_eq_true (by omega)
theorem fl_nil (ws : List W) : ∀ hs : List (Option W), ¬ kn ws hs → flF ws hs = []
  | [], h => absurd (fun g hg => nomatch hg) h
  | h :: t, hk => by
    rw [flF]
    by_cases c : h = none ∨ ∃ v ∈ ws, h = some v
    · have : ¬ kn ws t := fun z => hk fun g hg => by
        rcases List.mem_cons.mp hg with rfl | hg
        · exact c
        · exact z g hg
      rw [fl_nil ws t this]
      simp
    · have : alF ws h = [] := by
        refine List.filter_eq_nil_iff.mpr fun v hv => ?_
        unfold okB
        simp only [decide_eq_true_eq]
        rintro (rfl | rfl)
        · exact c (.inl rfl)
        · exact c (.inr ⟨v, hv, rfl⟩)
      rw [this]
      rfl
/-! the first that fits -/
theorem findSome_filter {α β : Type} (g : α → Option β) (p : α → Bool) (hp : ∀ a, p a = (g a).isSome) : ∀ l : List α, l.findSome? g = (l.filter p).head?.bind g
  | [] => rfl
  | a :: l => by
    rw [List.findSome?_cons, List.filter_cons, hp a, findSome_filter g p hp l]
    cases e : g a with
    | none => rfl
    | some b => simp [e]
def cB (ws : List W) (m : Int) : List (Option W) → W → Bool
  | [], _ => true
  | h :: t, u => ws.any fun v => (cB ws m t v && okB h v) && decide (gp u v ≤ m)
def pkB (ws : List W) (m : Int) (h : Option W) (t : List (Option W)) (u v : W) : Bool := (cB ws m t v && okB h v) && decide (gp u v ≤ m)
def goF (ws : List W) (m : Int) : List (Option W) → W → Option (List W)
  | [], _ => some []
  | h :: t, u => (ws.filter (pkB ws m h t u)).head?.bind fun v => (goF ws m t v).map (v :: ·)
theorem cB_go (ws : List W) (m : Int) : ∀ (hs : List (Option W)) (u : W), cB ws m hs u = (goF ws m hs u).isSome
  | [], _ => rfl
  | h :: t, u => by
    have e : cB ws m (h :: t) u = ws.any (pkB ws m h t u) := rfl
    rw [e, goF]
    cases c : ws.filter (pkB ws m h t u) with
    | nil =>
      rw [List.head?_nil, Option.bind_none, Option.isSome_none, List.any_eq_false]
      exact List.filter_eq_nil_iff.mp c
    | cons v l =>
      have hv : v ∈ ws.filter (pkB ws m h t u) := by rw [c]; exact List.mem_cons_self
      obtain ⟨h1, h2⟩ := List.mem_filter.mp hv
      have h3 : cB ws m t v = true := by
        simp only [pkB, Bool.and_eq_true] at h2
        exact h2.1.1
      rw [cB_go ws m t v] at h3
      rw [List.head?_cons, Option.bind_some, Option.isSome_map, h3, List.any_eq_true]
      exact ⟨v, h1, h2⟩
def fitB (m : Int) (u : W) (r : List W) : Bool := (slF u r).all fun s => decide (s ≤ m)
theorem go_spec (ws : List W) (m : Int) : ∀ (hs : List (Option W)) (u : W), ((flF ws hs).filter (fitB m u)).head? = goF ws m hs u
  | [], _ => rfl
  | h :: t, u => by
    rw [flF, List.filter_flatMap, List.head?_flatMap, goF]
    have e : (fun v => (((flF ws t).map (v :: ·)).filter (fitB m u)).head?) = fun v => if gp u v ≤ m then (goF ws m t v).map (v :: ·) else none := by
      funext v
      rw [List.filter_map, List.head?_map]
      have e2 : fitB m u ∘ (v :: ·) = fun r => decide (gp u v ≤ m) && fitB m v r := by
        funext r
        show fitB m u (v :: r) = _
        rw [fitB, slF, List.all_cons]
        rfl
      rw [e2]
      by_cases c : gp u v ≤ m
      · rw [if_pos c, decide_eq_true c]
        simp only [Bool.true_and]
        rw [go_spec ws m t v]
      · rw [if_neg c, decide_eq_false c]
        simp
    rw [e, findSome_filter _ (fun v => cB ws m t v && decide (gp u v ≤ m)), alF, List.filter_filter]
    · have e3 : ws.filter (fun v => (cB ws m t v && decide (gp u v ≤ m)) && okB h v) = ws.filter (pkB ws m h t u) := by
        apply List.filter_congr
        intro v _
        unfold pkB
        cases cB ws m t v <;> cases okB h v <;> simp
      rw [e3]
      cases c : ws.filter (pkB ws m h t u) with
      | nil => rfl
      | cons v l =>
        have hv : v ∈ ws.filter (pkB ws m h t u) := by rw [c]; exact List.mem_cons_self
        obtain ⟨h1, h2⟩ := List.mem_filter.mp hv
        have h3 : gp u v ≤ m := by
          simp only [pkB, Bool.and_eq_true, decide_eq_true_eq] at h2
          exact h2.2
        simp only [List.head?_cons, Option.bind_some, if_pos h3]
    · intro v
      rw [cB_go ws m t v]
      by_cases c : gp u v ≤ m
      · rw [if_pos c, decide_eq_true c, Option.isSome_map, Bool.and_true]
      · rw [if_neg c, decide_eq_false c]; simp
theorem mostA_le (xs : List Int) (x m : Int) : mostBy (fun a b : Int => decide (a < b)) x xs ≤ m ↔ ∀ y ∈ x :: xs, y ≤ m := by
  induction xs generalizing x with
  | nil => simp [mostBy]
  | cons z xs ih =>
    unfold mostBy at ih ⊢
    rw [List.foldl_cons, ih]
    by_cases c : x < z
    · simp [c]; omega
    · simp [c]; omega
theorem maxA_le {l : List Int} (h : l ≠ []) (m : Int) : (maxA [.list (l.map .int)]).bind (fun x => leD x (.int m)) = some (.bool (l.all fun s => decide (s ≤ m))) := by
  cases l with
  | nil => exact absurd rfl h
  | cons x xs =>
    have e : maxA [.list ((x :: xs).map .int)] = some (.int (mostBy (fun a b : Int => decide (a < b)) x xs)) := maxOf_nice nice_int (by decide) ordd_int x xs
    have e2 := mostA_le xs x m
    rw [e, Option.bind_some]
    simp
    rw [Bool.eq_iff_iff]
    simp [e2]
/-! the rows that can end so -/
def nwB (ws : List W) (m : Int) (h : Option W) (t : List (Option W)) : List Bool := ws.map fun v => cB ws m t v && okB h v
def rwB (ws : List W) (m : Int) (hs : List (Option W)) : List Bool := ws.map fun v => cB ws m hs v
def rsB (ws : List W) (m : Int) : List (Option W) → List (List Bool)
  | [] => []
  | h :: t => nwB ws m h t :: rsB ws m t
theorem rsB_len (ws : List W) (m : Int) : ∀ hs : List (Option W), (rsB ws m hs).length = hs.length
  | [] => rfl
  | h :: t => by rw [rsB, List.length_cons, List.length_cons, rsB_len ws m t]
theorem rsB_split (ws : List W) (m : Int) : ∀ (hs : List (Option W)) (pre post : List (List Bool)) (x : List Bool), rsB ws m hs = pre ++ x :: post → ∃ h t, hs.drop pre.length = h :: t ∧ x = nwB ws m h t
  | [], pre, post, x, e => by simp [rsB] at e
  | h :: t, pre, post, x, e => by
    rw [rsB] at e
    cases pre with
    | nil =>
      rw [List.nil_append] at e
      injection e with e1 e2
      exact ⟨h, t, rfl, e1.symm⟩
    | cons y pre =>
      rw [List.cons_append] at e
      injection e with e1 e2
      exact rsB_split ws m t pre post x e2
def bL (l : List Bool) : D := .list (l.map .bool)
end Hd
end

/-! part: K35r -/
section
set_option Elab.async false
set_option linter.all false
set_option maxRecDepth 100000
set_option maxHeartbeats 400000
namespace Hd
open PySem PySem.Spec Q
theorem range_getD {α : Type} (d : α) (l : List α) : (List.range l.length).map (fun j => l.getD j d) = l := by
  apply List.ext_getElem
  · simp
  · intro i h1 h2
    simp at h1
    simp [h1]
theorem range_map {α β : Type} (d : α) (f : α → β) (l : List α) {n : Nat} (hn : l.length = n) : (List.range n).map (fun j => f (l.getD j d)) = l.map f := by
  subst hn
  have := congrArg (List.map f) (range_getD d l)
  rw [List.map_map] at this
  exact this
theorem range_pick {α β : Type} (d : α) (f : α → β) (p : α → Bool) (l : List α) : ((List.range l.length).filter fun j => p (l.getD j d)).map (fun j => f (l.getD j d)) = (l.filter p).map f := by
  have := congrArg (fun x => (List.filter p x).map f) (range_getD d l)
  rw [List.filter_map, List.map_map] at this
  exact this
theorem nw_at (ws : List W) (m : Int) (h : Option W) (t : List (Option W)) {j : Nat} (hj : j < ws.length) : (nwB ws m h t).getD j false = (cB ws m t (ws.getD j []) && okB h (ws.getD j [])) := by
  rw [nwB, gets (fun v => cB ws m t v && okB h v) ws [] false hj]
theorem nw_len (ws : List W) (m : Int) (h : Option W) (t : List (Option W)) : (nwB ws m h t).length = ws.length := by simp [nwB]
theorem me_step1 (ws : List W) (hs : List (Option W)) (m : Int) (hws : okS ws) (h : Option W) (t : List (Option W)) (R : List D) (hR : R.length < sizeLine) (y1 y7 y8 y9 y10 y11 y12 y13 y14 y15 : Sl) :
    turnD (sN 7) L_most_each_1 (oD h) [.im (.tuple (ws.map wD)), y1, .im (.tuple (hs.map oD)), .im (.int m), .im (gapsD ws), .im (bL (rwB ws m t)), .ow (.list R), y7, y8, y9, y10, y11, y12, y13, y14, y15] =
      some (.nx [.im (.tuple (ws.map wD)), y1, .im (.tuple (hs.map oD)), .im (.int m), .im (gapsD ws), .im (bL (rwB ws m (h :: t))), .ow (.list (R ++ [bL (nwB ws m h t)])), .im (oD h), y8, .im (bL (nwB ws m h t)), y10, y11, y12, y13, y14, y15]) := by
  obtain ⟨hw, _⟩ := id hws
  have en := enum_mk (mk := PyData.bool) false (rwB ws m t) (bL (rwB ws m t)) (.inl rfl)
  have rl : (rwB ws m t).length = ws.length := by simp [rwB]
  have c1 : fLc (fEnum (vF 5)) (sT 2 (sCons (sN 12) (sCons (sN 10) (sNil)))) (fYes) (fAnd (vF 10) (f2 inD (vF 7) (fTup (aCons (cD .none) (aCons (f2 ixD (vF 0) (vF 12)) (aNil)))))) [12, 10]
      [.im (.tuple (ws.map wD)), y1, .im (.tuple (hs.map oD)), .im (.int m), .im (gapsD ws), .im (bL (rwB ws m t)), .ow (.list R), .im (oD h), y8, y9, y10, y11, y12, y13, y14, y15] = some (bL (nwB ws m h t)) := by
    simp -implicitDefEqProofs [en, rl]
    simp only [← List.getD_eq_getElem?_getD]
    rw [lcL_all (g := fun p => .bool ((nwB ws m h t).getD p false)) (by simp) (fun p hp => by
      have hp' := List.mem_range.mp hp
      rw [nw_at ws m h t hp', rwB, gets _ ws [] false hp']
      have a2 := hin h (ws.getD p [])
      have a1 := wget ws hp'
      generalize ws.getD p [] = v at *
      cases cB ws m t v <;> simp [a1, a2, okB]), Option.bind_some, lcB_small (by simp; omega)]
    rw [range_map false PyData.bool _ (nw_len ..)]
    rfl
  have c2 : fLc (fI (vF 4)) (sN 11) (fYes) (fB anyD (aCons (fLc (fEnum (vF 11)) (sT 2 (sCons (sN 13) (sCons (sN 15) (sNil)))) (fYes) (fAnd (f2 ixD (vF 9) (vF 13)) (f2 leD (vF 15) (vF 3))) [13, 15]) (aNil))) [11]
      [.im (.tuple (ws.map wD)), y1, .im (.tuple (hs.map oD)), .im (.int m), .im (gapsD ws), .im (bL (rwB ws m t)), .ow (.list (R ++ [bL (nwB ws m h t)])), .im (oD h), y8, .im (bL (nwB ws m h t)), y10, y11, y12, y13, y14, y15] = some (bL (rwB ws m (h :: t))) := by
    have hat : ∀ p, p < ws.length → L2.atI ((nwB ws m h t).map PyData.bool) (p : Int) = some (.bool ((nwB ws m h t).getD p false)) := fun p hp => at_mk (nwB ws m h t) false (by rw [nw_len]; exact hp)
    have hnw := fun p (hp : p < ws.length) => nw_at ws m h t hp
    have hg : gapsD ws = .list (ws.map fun one => .tuple ((ws.map fun o => gp one o).map .int)) := rfl
    rw [hg]
    simp -implicitDefEqProofs only [bL] at *
    generalize nwB ws m h t = nw at *
    simp -implicitDefEqProofs
    rw [lcL_all (g := fun one => .bool (cB ws m (h :: t) one)) (by simp) (fun one _ => by
      have en2 := enum_mk (mk := PyData.int) 0 (ws.map fun o => gp one o) (.tuple ((ws.map fun o => gp one o).map .int)) (.inr rfl)
      rw [List.map_map] at en2
      simp -implicitDefEqProofs [en2]
      rw [lcL_all (g := fun p => .bool (pkB ws m h t one (ws.getD p []))) (by simp) (fun p hp => by
        have hp' := List.mem_range.mp hp
        have a1 := hat p hp'
        have a2 := hnw p hp'
        have a3 := gets (fun o => gp one o) ws [] 0 hp'
        rw [a2] at a1
        unfold pkB
        generalize ws.getD p [] = v at *
        generalize (cB ws m t v && okB h v) = b at *
        simp only [← List.getD_eq_getElem?_getD, ← List.getElem?_map, a3]
        cases b <;> simp [a1])]
      rw [Option.bind_some, lcB_small (by simp; omega), range_map [] (fun v => PyData.bool (pkB ws m h t one v)) ws rfl]
      simp -implicitDefEqProofs
      rfl), Option.bind_some, lcB_small (by simp; omega)]
    rw [rwB, List.map_map]
    rfl
  simp -implicitDefEqProofs [L_most_each_1, ↓c1, ↓c2, hR]
theorem me_step2 (ws : List W) (hs : List (Option W)) (m : Int) (hws : okS ws) (h : Option W) (t : List (Option W)) (u : W) (hu : okW u) (T : List D) (hT : T.length < sizeLine) (y4 y5 y6 y7 y9 y10 y11 y12 y13 y14 y15 : Sl) :
    turnD (sN 5) L_most_each_2 (bL (nwB ws m h t)) [.im (.tuple (ws.map wD)), .im (wD u), .im (.tuple (hs.map oD)), .im (.int m), y4, y5, y6, y7, .ow (.list T), y9, y10, y11, y12, y13, y14, y15] =
      some (match (ws.filter (pkB ws m h t u)).head? with
        | none => .rt .none
        | some v => .nx [.im (.tuple (ws.map wD)), .im (wD v), .im (.tuple (hs.map oD)), .im (.int m), y4, .im (bL (nwB ws m h t)), y6, y7, .ow (.list (T ++ [wD v])), y9, .im (.list ((ws.filter (pkB ws m h t u)).map wD)), y11, y12, y13, y14, y15]) := by
  obtain ⟨hw, ho⟩ := id hws
  have en := enum_w ws
  have hat : ∀ p, p < ws.length → L2.atI ((nwB ws m h t).map PyData.bool) (p : Int) = some (.bool ((nwB ws m h t).getD p false)) := fun p hp => at_mk (nwB ws m h t) false (by rw [nw_len]; exact hp)
  have hnw := fun p (hp : p < ws.length) => nw_at ws m h t hp
  simp -implicitDefEqProofs only [bL] at *
  generalize nwB ws m h t = nw at *
  have c1 : fLc (fEnum (vF 0)) (sT 2 (sCons (sN 13) (sCons (sN 14) (sNil)))) (fAndT (fTr (f2 ixD (vF 5) (vF 13))) (fT (f2 leD (fB (Ph_gap_of) (aCons (vF 1) (aCons (vF 14) (aNil)))) (vF 3)))) (vF 14) [13, 14]
      [.im (.tuple (ws.map wD)), .im (wD u), .im (.tuple (hs.map oD)), .im (.int m), y4, .im (.list (nw.map .bool)), y6, y7, .ow (.list T), y9, y10, y11, y12, y13, y14, y15] = some (.list ((ws.filter (pkB ws m h t u)).map wD)) := by
    simp -implicitDefEqProofs [en]
    simp only [← List.getD_eq_getElem?_getD]
    rw [lcL_map (p := fun j => pkB ws m h t u (ws.getD j [])) (g := fun j => wD (ws.getD j [])) (fun p hp => by
      have hp' := List.mem_range.mp hp
      have a1 := hat p hp'
      have a2 := hnw p hp'
      have a3 := e_gap_of u (ws.getD p []) (okW_len hu) (okW_len (getD_ok ho hp'))
      rw [a2] at a1
      unfold pkB
      generalize ws.getD p [] = v at *
      generalize (cB ws m t v && okB h v) = b at *
      cases b <;> simp [a1, a3]) (fun p hp hq => by simp), Option.bind_some, lcB_small (by
        have : ((List.range ws.length).filter fun j => pkB ws m h t u (ws.getD j [])).length ≤ (List.range ws.length).length := List.length_filter_le ..
        simp at this ⊢
        omega), range_pick [] wD (pkB ws m h t u) ws]
  generalize ws.filter (pkB ws m h t u) = F at *
  cases F with
  | nil => simp -implicitDefEqProofs [L_most_each_2, ↓c1]
  | cons v F =>
    have a0 : L2.atI (wD v :: F.map wD) 0 = some (wD v) := at_mk (mk := wD) (v :: F) (k := 0) [] (by simp)
    simp -implicitDefEqProofs [L_most_each_2, ↓c1, a0, hT]
end Hd
end

/-! part: K35r2 -/
section
set_option Elab.async false
set_option linter.all false
set_option maxRecDepth 100000
set_option maxHeartbeats 400000
namespace Hd
open PySem PySem.Spec Q
theorem ok_mem {ws : List W} {p : W → Bool} {v : W} (ho : ∀ w ∈ ws, okW w) (e : (ws.filter p).head? = some v) : okW v := by
  have : v ∈ ws.filter p := by
    cases c : ws.filter p with
    | nil => rw [c] at e; cases e
    | cons x l => rw [c] at e; cases e; exact List.mem_cons_self
  exact ho v (List.mem_filter.mp this).1
def oT (r : Option (List W)) : D := match r with
  | none => .none
  | some r => tW r
theorem e_most_each (w : W) (ws : List W) (hs : List (Option W)) (m : Int) (hw : okW w) (hws : okS ws) (hp : ws.Pairwise (fun a b => wlt a b = true)) (hh : okH hs) (hm : 0 ≤ m ∧ m ≤ 8) :
    Ph_most_each [.tuple (ws.map wD), wD w, .tuple (hs.map oD), .int m] = some (oT (goF ws m hs w)) := by
  have hl := line_ge
  have e1 := e_to_words ws hws.1 hws.2 (hso_of hp) _ (.inl rfl)
  have e2 := e_to_heard hs hh _ (.inl rfl)
  have hrep := rep_1 (.bool true) ws.length (by have := hws.1.2; omega)
  have e0 : PyData.list (List.replicate ws.length (PyData.bool true)) = bL (rwB ws m []) := by
    refine congrArg PyData.list (List.ext_getElem (by simp [rwB]) ?_)
    intro i h1 h2
    simp [rwB, cB]
  rw [e0] at hrep
  simp -implicitDefEqProofs [Ph_most_each, b_most_each, e1, e2, e_to_word _ hw, e_need_w, e_need_t, e_need_within _ _ _ _ hm, e_gaps_of ws hws]
  have hrep' : repLD (.list [.bool true]) (.int (ws.length : Int)) = some (bL (rwB ws m [])) := hrep
  rw [hrep', Option.bind_some]
  have hv : revD (.tuple (hs.map oD)) = some (hs.map oD).reverse := rfl
  have hrv2 : (hs.map oD).reverse = hs.reverse.map oD := by rw [List.map_reverse]
  obtain ⟨ρ', q1, x7, x9, q2⟩ := forL_all (step := turnD (sN 7) L_most_each_1) (xs := hs.reverse) (mk := oD)
    (fun pre (ρ : Rho) => ∃ x7 x9, ρ = [.im (.tuple (ws.map wD)), .im (wD w), .im (.tuple (hs.map oD)), .im (.int m), .im (gapsD ws), .im (bL (rwB ws m pre.reverse)), .ow (.list ((rsB ws m pre.reverse).reverse.map bL)), x7, .un, x9, .un, .un, .un, .un, .un, .un])
    [.im (.tuple (ws.map wD)), .im (wD w), .im (.tuple (hs.map oD)), .im (.int m), .im (gapsD ws), .im (bL (rwB ws m [])), .ow (.list []), .un, .un, .un, .un, .un, .un, .un, .un, .un] ⟨_, _, rfl⟩ (by
    rintro pre post ρ h ⟨y7, y9, rfl⟩ hx
    have hpl := split_len hx
    have hlen : ((rsB ws m pre.reverse).reverse.map bL).length < sizeLine := by
      rw [List.length_map, List.length_reverse, rsB_len]
      have := hh.1.2
      simp at hpl ⊢
      omega
    refine ⟨_, .inl (me_step1 ws hs m hws h pre.reverse _ hlen _ y7 _ y9 _ _ _ _ _ _), .im (oD h), .im (bL (nwB ws m h pre.reverse)), ?_⟩
    simp [rsB])
  rw [List.reverse_reverse] at q2
  subst q2
  simp -implicitDefEqProofs [hv, -List.map_reverse]
  rw [hrv2, q1]
  simp -implicitDefEqProofs [revSD_e]
  rw [← List.map_reverse]
  rcases forL_any (step := turnD (sN 5) L_most_each_2) (xs := rsB ws m hs) (mk := bL)
    (fun pre (ρ : Rho) => ∃ u T y5 y10, okW u ∧ T.length = pre.length ∧ goF ws m hs w = (goF ws m (hs.drop pre.length) u).map (T ++ ·) ∧ ρ = [.im (.tuple (ws.map wD)), .im (wD u), .im (.tuple (hs.map oD)), .im (.int m), .im (gapsD ws), y5, .ow (.list ((rsB ws m hs).reverse.map bL)), x7, .ow (.list (T.map wD)), x9, y10, .un, .un, .un, .un, .un])
    (fun _ => False) (fun d => d = .none ∧ goF ws m hs w = none)
    [.im (.tuple (ws.map wD)), .im (wD w), .im (.tuple (hs.map oD)), .im (.int m), .im (gapsD ws), .im (bL (rwB ws m hs)), .ow (.list ((rsB ws m hs).reverse.map bL)), x7, .ow (.list []), x9, .un, .un, .un, .un, .un, .un]
    ⟨w, [], _, _, hw, rfl, by simp, rfl⟩ (by
    rintro pre post ρ x ⟨u, T, y5, y10, hu, hT, hg, rfl⟩ hx
    obtain ⟨h, t, hd, rfl⟩ := rsB_split ws m hs pre post x hx
    have hpl := split_len hx
    rw [rsB_len] at hpl
    have hTl : (T.map wD).length < sizeLine := by
      rw [List.length_map, hT]
      have := hh.1.2
      omega
    have st2 := me_step2 ws hs m hws h t u hu (T.map wD) hTl (.im (gapsD ws)) y5 (.ow (.list ((rsB ws m hs).reverse.map bL))) x7 x9 y10 .un .un .un .un .un
    rw [hd, goF] at hg
    have hd2 : hs.drop (pre.length + 1) = t := by
      rw [← List.drop_drop, hd]; rfl
    cases e : (ws.filter (pkB ws m h t u)).head? with
    | none =>
      rw [e] at st2 hg
      exact .inr (.inr ⟨_, st2, rfl, hg⟩)
    | some v =>
      rw [e] at st2 hg
      refine .inl ⟨_, .inl st2, v, T ++ [v], .im (bL (nwB ws m h t)), .im (.list ((ws.filter (pkB ws m h t u)).map wD)), ok_mem hws.2 e, by simp [hT], ?_, by simp⟩
      rw [hg, List.length_append, List.length_singleton, hd2]
      simp
      rfl) with ⟨ρ', a1, a2⟩ | ⟨d, a1, a2⟩
  · rcases a2 with ⟨u, T, y5, y10, hu, hT, hg, rfl⟩ | a2
    · rw [a1, hg]
      simp [rsB_len, goF, oT, tW]
    · exact a2.elim
  · obtain ⟨rfl, a3⟩ := a2
    rw [a1, a3]
    rfl
end Hd
end

/-! part: K35s -/
section
set_option Elab.async false
set_option linter.all false
set_option maxRecDepth 100000
set_option maxHeartbeats 400000
namespace Hd
open PySem PySem.Spec Q
def T7_law : Bd := bSeq (bAsg 20 (f2 modD (fB (Ph__law_cell) (aCons (vF 0) (aCons (cD (.int 7)) (aNil)))) (cD (.int 5)))) (bSeq (bAsg 21 (fLc (fI (vF 18)) (sN 23) (fT (f2 leD (fB maxA (aCons (fB (Ph__law_slips) (aCons (vF 1) (aCons (vF 23) (aNil)))) (aNil))) (vF 20))) (vF 23) [23])) (bRet (fB (Ph__law_same 4) (aCons (fB (Ph_most_each) (aCons (vF 12) (aCons (vF 1) (aCons (vF 13) (aCons (vF 20) (aNil)))))) (aCons (fIf (fT (f2 neD (vF 21) (fLst (aNil)))) (f2 ixD (vF 21) (cD (.int 0))) (cD .none)) (aNil))))))
def T6_law : Bd := bSeq (bAsg 18 (fB (Ph__law_fillings) (aCons (vF 12) (aCons (vF 13) (aNil))))) (bSeq (bAsg 19 (fB sortedD (aCons (fLc (fI (vF 18)) (sN 23) (fYes) (fTup (aCons (fB sumD (aCons (fB (Ph__law_slips) (aCons (vF 1) (aCons (vF 23) (aNil)))) (aNil))) (aCons (vF 23) (aNil)))) [23]) (aNil)))) (bSeq (bIf (fNotT (fTr (fB (Ph__law_same 4) (aCons (fB (Ph_least_by) (aCons (vF 12) (aCons (vF 1) (aCons (fB (Ph__law_listed 4) (aCons (vF 13) (aNil))) (aNil))))) (aCons (fIf (fT (f2 neD (vF 19) (fLst (aNil)))) (f2 ixD (vF 19) (cD (.int 0))) (cD .none)) (aNil)))))) (bRet (cD (.bool false))) (bNext)) (T7_law)))
def T5_law : Bd := bSeq (bAsg 15 (f2 modD (fB (Ph__law_cell) (aCons (vF 0) (aCons (cD (.int 5)) (aNil)))) (fB lenD (aCons (vF 14) (aNil))))) (bSeq (bAsg 16 (f2 modD (fB (Ph__law_cell) (aCons (vF 0) (aCons (cD (.int 6)) (aNil)))) (fB lenD (aCons (vF 12) (aNil))))) (bSeq (bAsg 17 (f2 addD (f2 addD (fSl (vF 14) (oNo) (oIs (vF 15))) (fTup (aCons (f2 addD (f2 addD (fSl (f2 ixD (vF 14) (vF 15)) (oNo) (oIs (vF 16))) (fTup (aCons (fIf (fT (f2 isND (f2 ixD (f2 ixD (vF 14) (vF 15)) (vF 16)) (cD .none))) (cD (.int 0)) (f2 addD (f2 ixD (f2 ixD (vF 14) (vF 15)) (vF 16)) (cD (.int 1)))) (aNil)))) (fSl (f2 ixD (vF 14) (vF 15)) (oIs (f2 addD (vF 16) (cD (.int 1)))) (oNo))) (aNil)))) (fSl (vF 14) (oIs (f2 addD (vF 15) (cD (.int 1)))) (oNo)))) (bSeq (bIf (fT (f2 neD (fLc (fI (fLst (aCons (cD (.int 7)) (aCons (fSl (vF 14) (oIs (cD (.int 1))) (oNo)) (aCons (vF 17) (aCons (f2 addD (f2 addD (fSl (vF 14) (oNo) (oIs (vF 15))) (fTup (aCons (fSl (f2 ixD (vF 14) (vF 15)) (oIs (cD (.int 1))) (oNo)) (aNil)))) (fSl (vF 14) (oIs (f2 addD (vF 15) (cD (.int 1)))) (oNo))) (aNil))))))) (sN 25) (fT (f2 notBD (fB (Ph_table_holds) (aCons (vF 1) (aCons (vF 12) (aCons (vF 13) (aCons (vF 25) (aNil)))))) (cD (.bool false)))) (vF 25) [25]) (fLst (aNil)))) (bRet (cD (.bool false))) (bNext)) (T6_law))))
def T4_law : Bd := bSeq (bAsg 12 (fB (Ph__law_words) (aCons (fB (Ph__law_numbers) (aCons (vF 0) (aCons (cD (.int 3)) (aCons (f2 addD (cD (.int 1)) (f2 modD (fB (Ph__law_cell) (aCons (vF 0) (aCons (cD (.int 4)) (aNil)))) (cD (.int 5)))) (aNil))))) (aNil)))) (bSeq (bAsg 13 (fB tupD (aCons (fLc (fIs rg1D (aCons (fB lenD (aCons (vF 3) (aNil))) (aNil))) (sN 15) (fYes) (fIf (fAndT (fT (f2 notND (f2 ixD (vF 3) (vF 15)) (cD .none))) (fT (f2 gtD (f2 modD (fB intD (aCons (f2 fdivD (f2 ixD (vF 2) (vF 15)) (cD (.int 31))) (aNil))) (cD (.int 5))) (cD (.int 0))))) (f2 ixD (vF 12) (f2 modD (fB intD (aCons (f2 fdivD (f2 ixD (vF 2) (vF 15)) (cD (.int 7))) (aNil))) (fB lenD (aCons (vF 12) (aNil))))) (f2 ixD (vF 3) (vF 15))) [15]) (aNil)))) (bSeq (bAsg 14 (fB (Ph__law_table) (aCons (vF 1) (aCons (vF 12) (aCons (vF 13) (aNil)))))) (bSeq (bIf (fOrT (fNotT (fTr (fB (Ph__law_same 4) (aCons (fB (Ph_table) (aCons (vF 1) (aCons (vF 12) (aCons (vF 13) (aNil))))) (aCons (vF 14) (aNil)))))) (fT (f2 notBD (fB (Ph_table_holds) (aCons (vF 1) (aCons (fB (Ph__law_listed 4) (aCons (vF 12) (aNil))) (aCons (vF 13) (aCons (fB (Ph__law_listed 4) (aCons (vF 14) (aNil))) (aNil)))))) (cD (.bool true))))) (bRet (cD (.bool false))) (bNext)) (T5_law))))
def T3_law : Bd := bSeq (bOwn 9 (fLst (aNil))) (bSeq (bAsg 10 (fLst (aNil))) (bSeq (bFor (fIs rg1D (aCons (fB lenD (aCons (vF 4) (aNil))) (aNil))) (sN 11) (L_law_2)) (bSeq (bIf (fOrT (fNotT (fTr (fB (Ph__law_same 4) (aCons (fB (Ph_who_slipped) (aCons (vF 1) (aCons (vF 3) (aNil)))) (aCons (fB tupD (aCons (vP 9) (aNil))) (aNil)))))) (fNotT (fTr (fB (Ph__law_same 4) (aCons (fB (Ph_may_have) (aCons (vF 1) (aCons (vF 3) (aNil)))) (aCons (fB tupD (aCons (vF 10) (aNil))) (aNil))))))) (bRet (cD (.bool false))) (bNext)) (T4_law))))
def T2_law : Bd := bSeq (bIf (fOrT (fT (f2 neD (fB (Ph_gap) (aCons (vF 1) (aCons (f2 ixD (vF 7) (f1 negD (cD (.int 1)))) (aNil)))) (fB (Ph__law_gap) (aCons (vF 1) (aCons (f2 ixD (vF 7) (f1 negD (cD (.int 1)))) (aNil)))))) (fOrT (fT (f2 neD (fB (Ph_least) (aCons (vF 1) (aCons (fB (Ph__law_listed 4) (aCons (vF 3) (aNil))) (aNil)))) (fB sumD (aCons (vF 6) (aNil))))) (fOrT (fNotT (fTr (fB (Ph__law_same 4) (aCons (fB (Ph_floor) (aCons (vF 1) (aCons (vF 3) (aNil)))) (aCons (vF 6) (aNil)))))) (fNotT (fTr (fB (Ph__law_same 4) (aCons (fB (Ph_filling) (aCons (vF 1) (aCons (vF 3) (aNil)))) (aCons (vF 7) (aNil))))))))) (bRet (cD (.bool false))) (bNext)) (bSeq (bIf (fNotT (fTr (fB (Ph__law_same 4) (aCons (fB (Ph_slips_of) (aCons (vF 1) (aCons (fB (Ph__law_listed 4) (aCons (vF 7) (aNil))) (aNil)))) (aCons (fB tupD (aCons (fB (Ph__law_slips) (aCons (vF 1) (aCons (vF 7) (aNil)))) (aNil))) (aNil)))))) (bRet (cD (.bool false))) (bNext)) (T3_law))
def T1_law : Bd := bSeq (bOwn 7 (fLst (aNil))) (bSeq (bFor (fI (vF 3)) (sN 8) (L_law_1)) (bSeq (bAsg 7 (fB tupD (aCons (vP 7) (aNil)))) (T2_law)))
def b_law2 : Bd := bSeq (bAsg 1 (fB (Ph__law_word) (aCons (f2 modD (fB (Ph__law_cell) (aCons (vF 0) (aCons (cD (.int 0)) (aNil)))) (f2 powD (cD (.int 10)) (cD (.int 6)))) (aNil)))) (bSeq (bAsg 2 (fB (Ph__law_numbers) (aCons (vF 0) (aCons (cD (.int 1)) (aCons (f2 addD (cD (.int 1)) (f2 modD (fB (Ph__law_cell) (aCons (vF 0) (aCons (cD (.int 2)) (aNil)))) (cD (.int 4)))) (aNil)))))) (bSeq (bAsg 3 (fB tupD (aCons (fLc (fI (vF 2)) (sN 24) (fYes) (fIf (fT (f2 gtD (f2 modD (fB intD (aCons (f2 fdivD (vF 24) (cD (.int 50))) (aNil))) (cD (.int 3))) (cD (.int 0)))) (fB (Ph__law_word) (aCons (fB intD (aCons (vF 24) (aNil))) (aNil))) (cD .none)) [24]) (aNil)))) (bSeq (bAsg 4 (fLc (fIs rg1D (aCons (fB lenD (aCons (vF 3) (aNil))) (aNil))) (sN 15) (fT (f2 notND (f2 ixD (vF 3) (vF 15)) (cD .none))) (vF 15) [15])) (bSeq (bAsg 5 (f2 addD (fLst (aCons (vF 1) (aNil))) (fLc (fI (vF 4)) (sN 15) (fYes) (f2 ixD (vF 3) (vF 15)) [15]))) (bSeq (bAsg 6 (fB tupD (aCons (fLc (fIs rg1D (aCons (fB lenD (aCons (vF 4) (aNil))) (aNil))) (sN 15) (fYes) (fB (Ph__law_gap) (aCons (f2 ixD (vF 5) (vF 15)) (aCons (f2 ixD (vF 5) (f2 addD (vF 15) (cD (.int 1)))) (aNil)))) [15]) (aNil)))) (T1_law))))))
theorem b_law_eq : b_law = b_law2 := rfl
theorem tame_w (n : Nat) (w : W) : tame (n + 1) (wD w) = true := nice_w.lay w
theorem tame_o (n : Nat) (h : Option W) : tame (n + 1) (oD h) = true := by
  cases h with
  | none => rfl
  | some w => exact tame_w n w
theorem tame_tW (n : Nat) (r : List W) (h : r.length ≤ 1000) : tame (n + 2) (tW r) = true := tame_mk (tame_w n) r h
theorem tame_rk (p : Int × List W) (h : p.2.length ≤ 1000) : tame 4 (rkD p) = true := tame_two rfl (tame_tW 1 p.2 h)
theorem li_o (hs : List (Option W)) (h : hs.length ≤ 1000) : Ph__law_listed 4 [.tuple (hs.map oD)] = some (.list (hs.map oD)) := by
  rw [e_listed_g 4 _ (tame_mk (n := 3) (tame_o 2) hs h), lstd_mk (mk' := oD) (n := 3) (fun z => by cases z <;> rfl)]
theorem li_w (ws : List W) (h : ws.length ≤ 1000) : Ph__law_listed 4 [.tuple (ws.map wD)] = some (.list (ws.map wD)) := by
  rw [e_listed_g 4 _ (tame_mk (n := 3) (tame_w 2) ws h), lstd_mk (mk' := wD) (n := 3) (fun z => rfl)]
theorem ev_c (ns : List Int) (w : W) (ws : List W) (hs : List (Option W)) (hw : okW w) (hws : okS ws) (h5 : ws.length ≤ 5) (hh : okH hs) (y2 y3 y4 y5 y6 y7 y8 y9 y10 y11 y14 y15 y16 y17 y19 y20 y21 y22 y23 y24 y25 : Sl) :
    fLc (fI (vF 18)) (sN 23) (fYes) (fTup (aCons (fB sumD (aCons (fB (Ph__law_slips) (aCons (vF 1) (aCons (vF 23) (aNil)))) (aNil))) (aCons (vF 23) (aNil)))) [23]
      [.im (.list (ns.map .int)), .im (wD w), y2, y3, y4, y5, y6, y7, y8, y9, y10, y11, .im (.tuple (ws.map wD)), .im (.tuple (hs.map oD)), y14, y15, y16, y17, .im (.list ((flF ws hs).map tW)), y19, y20, y21, y22, y23, y24, y25] = some (.list ((evL w (flF ws hs)).map rkD)) := by
  have l5 := fl_len5 ws h5 hs
  have l6 : 5 ^ hs.length ≤ 5 ^ 4 := Nat.pow_le_pow_right (by omega) (by have := hh.1.2; omega)
  have hmem := fun r hr => @fl_mem ws hs r hr
  unfold evL
  generalize flF ws hs = F at *
  simp -implicitDefEqProofs
  rw [lcL_all (g := fun r => rkD ((slF w r).sum, r)) (by simp) (fun r hr => by
    obtain ⟨a1, a2⟩ := hmem r hr
    have e1 : Ph__law_slips [wD w, tW r] = some (.list ((slipsF w r).map .int)) := e_law_slips w r hw (fun v hv => hws.2 v (a2 v hv)) (by have := hh.1.2; omega)
    rw [slips_eq] at e1
    simp [e1, rkD]), Option.bind_some, lcB_small (by simp; omega)]
  rfl
theorem go_c (ns : List Int) (w : W) (ws : List W) (hs : List (Option W)) (m : Int) (hw : okW w) (hws : okS ws) (h5 : ws.length ≤ 5) (hh : okH hs) (y2 y3 y4 y5 y6 y7 y8 y9 y10 y11 y14 y15 y16 y17 y19 y21 y22 y23 y24 y25 : Sl) :
    fLc (fI (vF 18)) (sN 23) (fT (f2 leD (fB maxA (aCons (fB (Ph__law_slips) (aCons (vF 1) (aCons (vF 23) (aNil)))) (aNil))) (vF 20))) (vF 23) [23]
      [.im (.list (ns.map .int)), .im (wD w), y2, y3, y4, y5, y6, y7, y8, y9, y10, y11, .im (.tuple (ws.map wD)), .im (.tuple (hs.map oD)), y14, y15, y16, y17, .im (.list ((flF ws hs).map tW)), y19, .im (.int m), y21, y22, y23, y24, y25] = some (.list (((flF ws hs).filter (fitB m w)).map tW)) := by
  have l5 := fl_len5 ws h5 hs
  have l6 : 5 ^ hs.length ≤ 5 ^ 4 := Nat.pow_le_pow_right (by omega) (by have := hh.1.2; omega)
  have hmem := fun r hr => @fl_mem ws hs r hr
  generalize flF ws hs = F at *
  have lf : (F.filter (fitB m w)).length ≤ F.length := List.length_filter_le ..
  simp -implicitDefEqProofs
  rw [lcL_map (p := fitB m w) (g := tW) (fun r hr => by
    obtain ⟨a1, a2⟩ := hmem r hr
    have e1 : Ph__law_slips [wD w, tW r] = some (.list ((slipsF w r).map .int)) := e_law_slips w r hw (fun v hv => hws.2 v (a2 v hv)) (by have := hh.1.2; omega)
    rw [slips_eq] at e1
    have hne : slF w r ≠ [] := by
      cases r with
      | nil => simp at a1; have := hh.1.1; omega
      | cons v r => simp [slF]
    have e2 := maxA_le hne m
    unfold fitB
    generalize slF w r = l at *
    cases e3 : maxA [.list (l.map .int)] with
    | none => rw [e3] at e2; cases e2
    | some x =>
      rw [e3] at e2
      simp at e2
      simp [e1, e3, e2]) (fun r hr hp => by simp), Option.bind_some, lcB_small (by simp; omega)]
theorem law_T7 (ns : List Int) (w : W) (ws : List W) (hs : List (Option W)) (hw : okW w) (hws : okS ws) (h5 : ws.length ≤ 5) (hp : ws.Pairwise (fun a b => wlt a b = true)) (hh : okH hs) (y2 y3 y4 y5 y6 y7 y8 y9 y10 y11 y14 y15 y16 y17 y19 y20 y21 y22 y23 y24 y25 : Sl) :
    T7_law [.im (.list (ns.map .int)), .im (wD w), y2, y3, y4, y5, y6, y7, y8, y9, y10, y11, .im (.tuple (ws.map wD)), .im (.tuple (hs.map oD)), y14, y15, y16, y17, .im (.list ((flF ws hs).map tW)), y19, y20, y21, y22, y23, y24, y25] = some (.rt (.bool true)) := by
  have hc7 : Ph__law_cell [.list (ns.map .int), .int 7] = some (.int (ns[7]?.getD 0)) := by have := e_cell ns 7; simpa using this
  have hm0 := Int.emod_nonneg (ns[7]?.getD 0) (show (5 : Int) ≠ 0 by decide)
  have hm1 := Int.emod_lt_of_pos (ns[7]?.getD 0) (show (0 : Int) < 5 by decide)
  have em := e_most_each w ws hs (ns[7]?.getD 0 % 5) hw hws hp hh (by omega)
  have go := go_c ns w ws hs (ns[7]?.getD 0 % 5) hw hws h5 hh y2 y3 y4 y5 y6 y7 y8 y9 y10 y11 y14 y15 y16 y17 y19 y21 y22 y23 y24 y25
  have gs := go_spec ws (ns[7]?.getD 0 % 5) hs w
  have hmem := fun r hr => @fl_mem ws hs r hr
  have gn := (nice_lst nice_tW).ne (by decide) ((flF ws hs).filter (fitB (ns[7]?.getD 0 % 5) w)) []
  have hl4 := hh.1.2
  rw [List.map_nil] at gn
  rw [← gs] at em
  clear gs
  have hF : ∀ r ∈ (flF ws hs).filter (fitB (ns[7]?.getD 0 % 5) w), r.length ≤ 1000 := fun r hr => by
    have := (hmem r (List.mem_filter.mp hr).1).1
    omega
  clear hmem
  generalize (flF ws hs).filter (fitB (ns[7]?.getD 0 % 5) w) = G at *
  generalize flF ws hs = F at *
  cases G with
  | nil =>
    have sm : Ph__law_same 4 [.none, .none] = some (.bool true) := e_same_r 4 _ rfl
    have em' : Ph_most_each [.tuple (ws.map wD), wD w, .tuple (hs.map oD), .int (ns[7]?.getD 0 % 5)] = some .none := em
    have gn' : neD (.list []) (.list []) = some (.bool false) := rfl
    simp -implicitDefEqProofs [T7_law, hc7, ↓go, em', gn', sm]
  | cons r l =>
    have sm : Ph__law_same 4 [tW r, tW r] = some (.bool true) := e_same_r 4 _ (tame_tW 2 r (hF r List.mem_cons_self))
    have em' : Ph_most_each [.tuple (ws.map wD), wD w, .tuple (hs.map oD), .int (ns[7]?.getD 0 % 5)] = some (tW r) := em
    have a0 : L2.atI ((r :: l).map tW) 0 = some (tW r) := at_mk (mk := tW) (r :: l) (k := 0) [] (by simp)
    rw [decide_eq_false (by simp : ¬ r :: l = [])] at gn
    generalize (r :: l).map tW = GL at *
    simp -implicitDefEqProofs [T7_law, hc7, ↓go, em', gn, a0, sm]
theorem law_T6 (ns : List Int) (w : W) (ws : List W) (hs : List (Option W)) (hw : okW w) (hws : okS ws) (h5 : ws.length ≤ 5) (hp : ws.Pairwise (fun a b => wlt a b = true)) (hh : okH hs) (y2 y3 y4 y5 y6 y7 y8 y9 y10 y11 y14 y15 y16 y17 y18 y19 y20 y21 y22 y23 y24 y25 : Sl) :
    T6_law [.im (.list (ns.map .int)), .im (wD w), y2, y3, y4, y5, y6, y7, y8, y9, y10, y11, .im (.tuple (ws.map wD)), .im (.tuple (hs.map oD)), y14, y15, y16, y17, y18, y19, y20, y21, y22, y23, y24, y25] = some (.rt (.bool true)) := by
  have ef := e_fillings ws h5 hs hh.1.2
  have el := e_least_by w ws hs hw hws hp hh (.list (hs.map oD)) (.inr rfl)
  have eli := li_o hs (by have := hh.1.2; omega)
  have ev := ev_c ns w ws hs hw hws h5 hh y2 y3 y4 y5 y6 y7 y8 y9 y10 y11 y14 y15 y16 y17 y19 y20 y21 y22 y23 y24 y25
  have hmem := fun r hr => @fl_mem ws hs r hr
  have sk := sorted_rk (evL w (flF ws hs))
  have rn := (nice_lst nice_rk).ne (by decide) ((evL w (flF ws hs)).mergeSort fun a b => !rkt b a) []
  have hT := fun z19 => law_T7 ns w ws hs hw hws h5 hp hh y2 y3 y4 y5 y6 y7 y8 y9 y10 y11 y14 y15 y16 y17 z19 y20 y21 y22 y23 y24 y25
  by_cases c : hs.all (knB ws) = true
  · obtain ⟨t, ht⟩ := ranked_head ws hws.1.1 hp hs w ((kn_all ws hs).mp c)
    rw [if_pos c] at el
    have sr : Ph__law_same 4 [.tuple [.int (uF ws hs w), .tuple ((grF ws hs w).map wD)], rkD (uF ws hs w, grF ws hs w)] = some (.bool true) := e_same_r 4 _ (tame_rk (uF ws hs w, grF ws hs w) (by
      have := (gr_spec ws hws.1.1 hp hs w ((kn_all ws hs).mp c)).1
      have := (hmem _ this).1
      have := hh.1.2
      dsimp only
      omega))
    rw [ht] at sk rn
    have a0 : L2.atI (((uF ws hs w, grF ws hs w) :: t).map rkD) 0 = some (rkD (uF ws hs w, grF ws hs w)) := at_mk (mk := rkD) ((uF ws hs w, grF ws hs w) :: t) (k := 0) (0, []) (by simp)
    rw [decide_eq_false (by simp : ¬ (uF ws hs w, grF ws hs w) :: t = []), List.map_nil] at rn
    clear ht hmem
    generalize (evL w (flF ws hs)).map rkD = E at *
    generalize (flF ws hs).map tW = F at *
    generalize ((uF ws hs w, grF ws hs w) :: t).map rkD = RK at *
    generalize rkD (uF ws hs w, grF ws hs w) = rk0 at *
    generalize uF ws hs w = u at *
    generalize grF ws hs w = g at *
    simp -implicitDefEqProofs [T6_law, ef, ↓ev, sk, eli, el, rn, a0, sr, hT]
  · rw [if_neg c] at el
    have sr : Ph__law_same 4 [.none, .none] = some (.bool true) := e_same_r 4 _ rfl
    have hnil := fl_nil ws hs (fun z => c ((kn_all ws hs).mpr z))
    have e0 : evL w ([] : List (List W)) = [] := rfl
    have gn' : neD (.list []) (.list []) = some (.bool false) := rfl
    rw [hnil] at ef ev hT
    rw [e0] at ev
    rw [List.map_nil] at ef hT
    rw [List.map_nil, List.map_nil] at ev
    have s0 : sortedD [.list []] = some (.list []) := by
      have := sorted_rk []
      simpa using this
    simp -implicitDefEqProofs [T6_law, ef, ↓ev, s0, eli, el, gn', sr, hT]
end Hd
end

/-! part: K35t -/
section
set_option Elab.async false
set_option linter.all false
set_option maxRecDepth 100000
set_option maxHeartbeats 400000
namespace Hd
open PySem PySem.Spec Q
def chg {α : Type} (l : List α) (k : Nat) (e : α) : List α := l.take k ++ [e] ++ l.drop (k + 1)
theorem chg_ne {α : Type} (d : α) (l : List α) (k : Nat) (hk : k < l.length) (e : α) (he : e ≠ l.getD k d) : chg l k e ≠ l := fun h => by
  apply he
  have h1 : (chg l k e)[k]? = some e := by
    rw [chg, List.append_assoc, List.getElem?_append_right (by simp; omega)]
    simp [Nat.min_eq_left (Nat.le_of_lt hk)]
  rw [h] at h1
  simp [List.getD_eq_getElem?_getD, h1]
theorem cut_takeS (ds : List D) (k : Nat) (hk : k ≤ ds.length) : cutL ds none (some (k : Int)) = ds.take k := by
  have h0 : ¬ (k : Int) < 0 := by omega
  unfold cutL HT.sIx
  simp only [if_neg h0, List.drop_zero, Nat.sub_zero, Int.toNat_natCast, Nat.min_eq_left hk]
theorem cut_dropS (ds : List D) (k : Nat) (hk : k + 1 ≤ ds.length) : cutL ds (some ((k : Int) + 1)) none = ds.drop (k + 1) := by
  have h0 : ¬ ((k : Int) + 1) < 0 := by omega
  unfold cutL HT.sIx
  have e : ((k : Int) + 1).toNat = k + 1 := by omega
  simp only [if_neg h0, e, Nat.min_eq_left hk]
  rw [List.take_of_length_le (by simp)]
theorem cut_1 {α : Type} (mk : α → D) (l : List α) (h : 1 ≤ l.length) : cutL (l.map mk) (some 1) none = (l.drop 1).map mk := by
  have := cut_dropS (l.map mk) 0 (by simp; omega)
  rw [← List.map_drop] at this
  simpa using this
def bump : Option Int → Option Int
  | none => some 0
  | some v => some (v + 1)
theorem bump_ne : ∀ o, bump o ≠ o
  | none => by simp [bump]
  | some v => by simp [bump]; omega
theorem law_T5 (ns : List Int) (w : W) (ws : List W) (hs : List (Option W)) (hw : okW w) (hws : okS ws) (h5 : ws.length ≤ 5) (hp : ws.Pairwise (fun a b => wlt a b = true)) (hh : okH hs) (y2 y3 y4 y5 y6 y7 y8 y9 y10 y11 y15 y16 y17 y18 y19 y20 y21 y22 y23 y24 y25 : Sl) :
    T5_law [.im (.list (ns.map .int)), .im (wD w), y2, y3, y4, y5, y6, y7, y8, y9, y10, y11, .im (.tuple (ws.map wD)), .im (.tuple (hs.map oD)), .im (.tuple ((tbF w ws hs).map rT)), y15, y16, y17, y18, y19, y20, y21, y22, y23, y24, y25] = some (.rt (.bool true)) := by
  have hlen := line_ge
  have hc5 : Ph__law_cell [.list (ns.map .int), .int 5] = some (.int (ns[5]?.getD 0)) := by have := e_cell ns 5; simpa using this
  have hc6 : Ph__law_cell [.list (ns.map .int), .int 6] = some (.int (ns[6]?.getD 0)) := by have := e_cell ns 6; simpa using this
  have hT := fun z15 z16 z17 => law_T6 ns w ws hs hw hws h5 hp hh y2 y3 y4 y5 y6 y7 y8 y9 y10 y11 (.im (.tuple ((tbF w ws hs).map rT))) z15 z16 z17 y18 y19 y20 y21 y22 y23 y24 y25
  have t7 := holds_7 w ws hs hw hws (hso_of hp) hh (.tuple (ws.map wD)) (.inl rfl)
  have tt := holds_t w ws hs hw hws (hso_of hp) hh (.tuple (ws.map wD)) (.inl rfl)
  have hRl : (tbF w ws hs).length = hs.length := by simp [tbF]
  have hrl : ∀ r ∈ tbF w ws hs, r.length = ws.length := fun r hr => by
    obtain ⟨i, _, rfl⟩ := List.mem_map.mp hr
    exact tbR_len ..
  generalize hR : tbF w ws hs = R at *
  have hn := hws.1.1
  have hh1 := hh.1
  obtain ⟨k, hk1, hk2⟩ := mod_nat (ns[5]?.getD 0) (show (0 : Int) < (R.length : Int) by omega)
  obtain ⟨j, hj1, hj2⟩ := mod_nat (ns[6]?.getD 0) (show (0 : Int) < (ws.length : Int) by omega)
  have hk : k < R.length := by omega
  have hrk : (R.getD k []).length = ws.length := hrl _ (by rw [List.getD_eq_getElem?_getD, List.getElem?_eq_getElem hk]; exact List.getElem_mem hk)
  have hj : j < (R.getD k []).length := by omega
  have hm5 : modD (.int (ns[5]?.getD 0)) (.int (R.length : Int)) = some (.int (k : Int)) := by rw [mod_pos (by omega), hk1]
  have hm6 : modD (.int (ns[6]?.getD 0)) (.int (ws.length : Int)) = some (.int (j : Int)) := by rw [mod_pos (by omega), hj1]
  have a1 : L2.atI (R.map rT) (k : Int) = some (.tuple ((R.getD k []).map oI)) := at_mk (mk := rT) R [] hk
  have a2 : L2.atI ((R.getD k []).map oI) (j : Int) = some (oI ((R.getD k []).getD j none)) := at_mk (mk := oI) (R.getD k []) none hj
  have c1 := cut_takeS (R.map rT) k (by simp; omega)
  have c2 := cut_dropS (R.map rT) k (by simp; omega)
  have c3 := cut_takeS ((R.getD k []).map oI) j (by simp only [List.length_map]; omega)
  have c4 := cut_dropS ((R.getD k []).map oI) j (by simp only [List.length_map]; omega)
  have c5 := cut_1 rT R (by omega)
  have c6 := cut_1 oI (R.getD k []) (by omega)
  rw [← List.map_take] at c1 c3
  rw [← List.map_drop] at c2 c4
  have cl : ∀ e : List (Option Int), e.length ≤ 1000 → ∀ r ∈ chg R k e, r.length ≤ 1000 := fun e he r hr => by
    rw [chg] at hr
    rcases List.mem_append.mp hr with hr | hr
    · rcases List.mem_append.mp hr with hr | hr
      · rw [hrl r (List.mem_of_mem_take hr)]; omega
      · rw [List.mem_singleton.mp hr]; exact he
    · rw [hrl r (List.mem_of_mem_drop hr)]; omega
  have cl2 : ∀ e, (chg R k e).length ≤ 1000 := fun e => by simp [chg]; omega
  have w1 := tt (R.drop 1) (by simp; omega) (fun r hr => by rw [hrl r (List.mem_of_mem_drop hr)]; omega)
  have w2 := tt (chg R k (chg (R.getD k []) j (bump ((R.getD k []).getD j none)))) (cl2 _) (cl _ (by simp only [chg, List.length_append, List.length_take, List.length_drop, List.length_singleton]; omega))
  have w3 := tt (chg R k ((R.getD k []).drop 1)) (cl2 _) (cl _ (by simp only [List.length_drop]; omega))
  have d1 : R.drop 1 ≠ R := fun h => by
    have := congrArg List.length h
    simp at this
    omega
  have d2 := chg_ne [] R k hk (chg (R.getD k []) j (bump ((R.getD k []).getD j none))) (chg_ne none _ j hj _ (bump_ne _))
  have d3 := chg_ne [] R k hk ((R.getD k []).drop 1) (fun h => by
    have := congrArg List.length h
    simp only [List.length_drop] at this
    omega)
  simp only [d1, d2, d3, decide_false] at w1 w2 w3
  have hA : (R.take k).length ≤ 4 := by simp; omega
  have hB : (R.drop (k + 1)).length ≤ 4 := by simp; omega
  have hC : ((R.getD k []).take j).length ≤ 5 := by simp only [List.length_take]; omega
  have hE : ((R.getD k []).drop (j + 1)).length ≤ 5 := by simp only [List.length_drop]; omega
  simp only [chg] at w2 w3
  clear d1 d2 d3 cl cl2 hrl tt
  generalize R.take k = A at *
  generalize R.drop (k + 1) = B at *
  generalize R.drop 1 = F at *
  generalize R.getD k [] = r at *
  generalize r.take j = C at *
  generalize r.drop (j + 1) = G at *
  generalize r.drop 1 = H at *
  generalize r.getD j none = o at *
  have hs1 : A.length + 1 ≤ sizeLine := by omega
  have hs2 : A.length + 1 + B.length ≤ sizeLine := by omega
  have hs3 : C.length + 1 ≤ sizeLine := by omega
  have hs4 : C.length + 1 + G.length ≤ sizeLine := by omega
  simp -implicitDefEqProofs only [List.map_append, List.map_cons, List.map_nil] at w2 w3
  have w2' := w2
  have w3' := w3
  rw [show rT (C ++ [bump o] ++ G) = .tuple (C.map oI ++ [oI (bump o)] ++ G.map oI) by simp [rT]] at w2'
  rw [show rT H = .tuple (H.map oI) from rfl] at w3'
  have e0 : neD (.list []) (.list []) = some (.bool false) := rfl
  have ei : ((fIf (fT (f2 isND (cD (oI o)) (cD .none))) (cD (.int 0)) (f2 addD (cD (oI o)) (cD (.int 1)))) [] : Option D) = some (oI (bump o)) := by
    cases o with
    | none => rfl
    | some v => simp [oI, bump]
  simp -implicitDefEqProofs at ei
  simp -implicitDefEqProofs only [List.append_assoc, List.singleton_append] at w2' w3'
  simp -implicitDefEqProofs [T5_law, hc5, hc6, hm5, hm6, c1, c2, c3, c4, c5, c6, a1, a2, ei, hs1, hs2, hs3, hs4]
  rw [lcL_no (fun d hd => by
    simp only [List.mem_cons, List.not_mem_nil, or_false] at hd
    rcases hd with rfl | rfl | rfl | rfl
    · simp [t7]
    · simp [w1]
    · simp [w2']
    · simp [w3'])]
  simp -implicitDefEqProofs [lcB, e0, hT]
end Hd
end

/-! part: K35u -/
section
set_option Elab.async false
set_option linter.all false
set_option maxRecDepth 100000
set_option maxHeartbeats 400000
namespace Hd
open PySem PySem.Spec Q
theorem tame_mem {α : Type} {mk : α → D} {n : Nat} (xs : List α) (h : ∀ a ∈ xs, tame n (mk a) = true) (hl : xs.length ≤ 1000) : tame (n + 1) (.tuple (xs.map mk)) = true := by
  simp only [tame, Bool.and_eq_true, decide_eq_true_eq, List.all_eq_true, List.mem_map, forall_exists_index, and_imp, forall_apply_eq_imp_iff₂, List.length_map]
  exact ⟨hl, h⟩
theorem tame_I (n : Nat) (o : Option Int) : tame (n + 1) (oI o) = true := by cases o <;> rfl
def mxF (ws : List W) (l : List Int) (hs : List (Option W)) : List (Option W) := (List.range hs.length).map fun k => if (hs.getD k none).isSome = true ∧ l.getD k 0 / 31 % 5 > 0 then some (ws.getD (l.getD k 0 / 7 % (ws.length : Int)).toNat []) else hs.getD k none
theorem mx_ok (ws : List W) (l : List Int) (hs : List (Option W)) (hws : okS ws) (hh : okH hs) : okH (mxF ws l hs) := by
  refine ⟨by simpa [mxF] using hh.1, fun w hw => ?_⟩
  obtain ⟨k, hk, e⟩ := List.mem_map.mp hw
  have hk := List.mem_range.mp hk
  split at e
  · injection e with e
    rw [← e]
    have h1 := hws.1.1
    have a0 := Int.emod_nonneg (l.getD k 0 / 7) (show (ws.length : Int) ≠ 0 by omega)
    have a1 := Int.emod_lt_of_pos (l.getD k 0 / 7) (show 0 < (ws.length : Int) by omega)
    exact getD_ok hws.2 (by omega)
  · refine hh.2 w ?_
    rw [← e, List.getD_eq_getElem?_getD, List.getElem?_eq_getElem hk]
    exact List.getElem_mem hk
theorem mx_c (ns : List Int) (w : W) (ws : List W) (l : List Int) (hs : List (Option W)) (hws : okS ws) (hh : okH hs) (hl : l.length = hs.length) (y1 y4 y5 y6 y7 y8 y9 y10 y11 y13 y14 y15 y16 y17 y18 y19 y20 y21 y22 y23 y24 y25 : Sl) :
    fLc (fIs rg1D (aCons (fB lenD (aCons (vF 3) (aNil))) (aNil))) (sN 15) (fYes) (fIf (fAndT (fT (f2 notND (f2 ixD (vF 3) (vF 15)) (cD .none))) (fT (f2 gtD (f2 modD (fB intD (aCons (f2 fdivD (f2 ixD (vF 2) (vF 15)) (cD (.int 31))) (aNil))) (cD (.int 5))) (cD (.int 0))))) (f2 ixD (vF 12) (f2 modD (fB intD (aCons (f2 fdivD (f2 ixD (vF 2) (vF 15)) (cD (.int 7))) (aNil))) (fB lenD (aCons (vF 12) (aNil))))) (f2 ixD (vF 3) (vF 15))) [15]
      [.im (.list (ns.map .int)), y1, .im (.list (l.map .int)), .im (.tuple (hs.map oD)), y4, y5, y6, y7, y8, y9, y10, y11, .im (.tuple (ws.map wD)), y13, y14, y15, y16, y17, y18, y19, y20, y21, y22, y23, y24, y25] = some (.list ((mxF ws l hs).map oD)) := by
  have hn := hws.1.1
  have hh1 := hh.1.2
  have r2 := rg1_n (k := hs.length) (by omega)
  simp -implicitDefEqProofs [r2]
  rw [lcL_all (g := fun k => oD (if (hs.getD k none).isSome = true ∧ l.getD k 0 / 31 % 5 > 0 then some (ws.getD (l.getD k 0 / 7 % (ws.length : Int)).toNat []) else hs.getD k none)) (by simp) (fun k hk => by
    have hk' := List.mem_range.mp hk
    have b1 : L2.atI (hs.map oD) (k : Int) = some (oD (hs.getD k none)) := at_mk (mk := oD) hs none hk'
    have b2 := at_n l (k := k) (by omega)
    have a0 := Int.emod_nonneg (l.getD k 0 / 7) (show (ws.length : Int) ≠ 0 by omega)
    have a1 := Int.emod_lt_of_pos (l.getD k 0 / 7) (show 0 < (ws.length : Int) by omega)
    have b3 := wget ws (p := (l.getD k 0 / 7 % (ws.length : Int)).toNat) (by omega)
    rw [Int.toNat_of_nonneg a0] at b3
    have b4 : modD (.int (l.getD k 0 / 7)) (.int (ws.length : Int)) = some (.int (l.getD k 0 / 7 % (ws.length : Int))) := mod_pos (by omega)
    have b5 := not_none (hs.getD k none)
    generalize l.getD k 0 = n at *
    generalize hs.getD k none = h at *
    generalize ws.getD (n / 7 % (ws.length : Int)).toNat [] = v at *
    cases h with
    | none => simp [b1, b5]
    | some u =>
      by_cases c : n / 31 % 5 > 0
      · have c' : 0 < n / 31 % 5 := c
        simp [b1, wD_nn, b2, c', b4, b3, oD_some]
      · have c' : ¬ 0 < n / 31 % 5 := c
        simp [b1, b5, b2, c']), Option.bind_some, lcB_small (by simp; omega)]
  rw [mxF, List.map_map]
  rfl
theorem law_T4 (ns : List Int) (w : W) (l : List Int) (hs : List (Option W)) (hw : okW w) (hh : okH hs) (hl : l.length = hs.length) (y4 y5 y6 y7 y8 y9 y10 y11 y12 y13 y14 y15 y16 y17 y18 y19 y20 y21 y22 y23 y24 y25 : Sl) :
    T4_law [.im (.list (ns.map .int)), .im (wD w), .im (.list (l.map .int)), .im (.tuple (hs.map oD)), y4, y5, y6, y7, y8, y9, y10, y11, y12, y13, y14, y15, y16, y17, y18, y19, y20, y21, y22, y23, y24, y25] = some (.rt (.bool true)) := by
  have hlen := line_ge
  have hc4 : Ph__law_cell [.list (ns.map .int), .int 4] = some (.int (ns[4]?.getD 0)) := by have := e_cell ns 4; simpa using this
  obtain ⟨k, hk, hk2⟩ := mod_nat (ns[4]?.getD 0) (show (0 : Int) < 5 by decide)
  have hn : ∃ l : List Int, l.length = k + 1 ∧ Ph__law_numbers [.list (ns.map .int), .int 3, .int (1 + (k : Int))] = some (.list (l.map .int)) := by
    obtain ⟨l, h1, h2⟩ := e_numbers ns 3 (k + 1) (by omega)
    exact ⟨l, h1, by rw [show (1 + (k : Int)) = ((k + 1 : Nat) : Int) by omega]; exact h2⟩
  obtain ⟨q, hq, hn⟩ := hn
  obtain ⟨hws, h5, hp⟩ := ws_props q (by omega)
  have ew := e_law_words q (by omega)
  generalize wsF q = ws at *
  have mc := fun z1 z13 => mx_c ns w ws l hs hws hh hl z1 y4 y5 y6 y7 y8 y9 y10 y11 z13 y14 y15 y16 y17 y18 y19 y20 y21 y22 y23 y24 y25
  have mok := mx_ok ws l hs hws hh
  generalize mxF ws l hs = ms at *
  have et : Ph__law_table [wD w, .tuple (ws.map wD), .tuple (ms.map oD)] = some (.tuple ((tbF w ws ms).map rT)) := e_law_table w ws ms hw hws mok.1.2
  have e1 := e_table w ws ms hw hws (hso_of hp) mok
  have hRl : (tbF w ws ms).length = ms.length := by simp [tbF]
  have hrl : ∀ r ∈ tbF w ws ms, r.length = ws.length := fun r hr => by
    obtain ⟨i, _, rfl⟩ := List.mem_map.mp hr
    exact tbR_len ..
  have hm4 := mok.1.2
  have e2 := holds_l w ws ms hw hws (hso_of hp) mok (.list (ws.map wD)) (.inr rfl) (tbF w ws ms) (by omega) (fun r hr => by rw [hrl r hr]; omega)
  have tm : tame 4 (.tuple ((tbF w ws ms).map rT)) = true := tame_mem _ (fun r hr => tame_mk (n := 2) (tame_I 1) r (by rw [hrl r hr]; omega)) (by omega)
  have sm := e_same_r 4 _ tm
  have li : Ph__law_listed 4 [.tuple ((tbF w ws ms).map rT)] = some (.list ((tbF w ws ms).map rL)) := by
    rw [e_listed_g 4 _ tm, lstd_mk (mk := rT) (mk' := rL) (n := 3) (fun r => lstd_mk (mk := oI) (mk' := oI) (n := 2) (fun z => by cases z <;> rfl) r)]
  have lw := li_w ws (by omega)
  have hT := law_T5 ns w ws ms hw hws h5 hp mok (.im (.list (l.map .int))) (.im (.tuple (hs.map oD))) y4 y5 y6 y7 y8 y9 y10 y11 y15 y16 y17 y18 y19 y20 y21 y22 y23 y24 y25
  rw [decide_eq_true rfl] at e2
  generalize tbF w ws ms = R at *
  simp -implicitDefEqProofs [T4_law, hc4]
  rw [hk]
  simp -implicitDefEqProofs [hn, ew, ↓mc, et, e1, sm, lw, li, e2, hT]
end Hd
end

/-! part: K35v -/
section
set_option Elab.async false
set_option linter.all false
set_option maxRecDepth 100000
set_option maxHeartbeats 400000
namespace Hd
open PySem PySem.Spec Q
theorem kn_lt {hs : List (Option W)} {k : Nat} (hk : k < (knF hs).length) : (knF hs).getD k 0 < hs.length ∧ (hs.getD ((knF hs).getD k 0) none).isSome = true := by
  have : (knF hs).getD k 0 ∈ knF hs := by
    rw [List.getD_eq_getElem?_getD, List.getElem?_eq_getElem hk]
    exact List.getElem_mem hk
  obtain ⟨h1, h2⟩ := List.mem_filter.mp this
  exact ⟨List.mem_range.mp h1, h2⟩
theorem kn_le (hs : List (Option W)) : (knF hs).length ≤ hs.length := by
  have : (knF hs).length ≤ (List.range hs.length).length := List.length_filter_le ..
  simpa using this
theorem fst_le {hs : List (Option W)} (hl : hs.length ≤ 4) {i : Nat} (hi : i < (knF hs).length) : fstF (knF hs) i ≤ 4 := by
  unfold fstF
  split
  · have := (kn_lt (hs := hs) (k := i - 1) (by omega)).1
    omega
  · omega
theorem lw_len {hs : List (Option W)} (hl : hs.length ≤ 4) (gs : List Int) : ∀ i, i ≤ (knF hs).length → (lwN (knF hs) gs i).1.length ≤ i ∧ (lwN (knF hs) gs i).2.length ≤ 5 * i
  | 0, _ => ⟨Nat.le_refl _, Nat.le_refl _⟩
  | i + 1, h => by
    obtain ⟨a1, a2⟩ := lw_len hl gs i (by omega)
    have b := (kn_lt (hs := hs) (k := i) (by omega)).1
    rw [lwN]
    split
    · refine ⟨?_, ?_⟩
      · dsimp only
        split
        · simp; omega
        · omega
      · simp only [rgF, List.length_append, List.length_map, List.length_range]; omega
    · exact ⟨by omega, by omega⟩
theorem law_T3 (ns : List Int) (w : W) (l : List Int) (hs : List (Option W)) (hw : okW w) (hh : okH hs) (hl : l.length = hs.length) (y5 y7 y8 y9 y10 y11 y12 y13 y14 y15 y16 y17 y18 y19 y20 y21 y22 y23 y24 y25 : Sl) :
    T3_law [.im (.list (ns.map .int)), .im (wD w), .im (.list (l.map .int)), .im (.tuple (hs.map oD)), .im (.list ((knF hs).map fun k => PyData.int (k : Nat))), y5, .im (.tuple ((gaF w hs).map .int)), y7, y8, y9, y10, y11, y12, y13, y14, y15, y16, y17, y18, y19, y20, y21, y22, y23, y24, y25] = some (.rt (.bool true)) := by
  have hlen := line_ge
  have h4 := hh.1.2
  have hkl := kn_le hs
  have r2 := rg1_n (k := (knF hs).length) (by omega)
  have e1 := e_who w hs hw hh
  have e2 := e_may w hs hw hh
  rw [← sure_eq w hs h4] at e1
  rw [← maybe_eq w hs h4] at e2
  have hgl : (gaF w hs).length = (knF hs).length := by simp [gaF]
  have hkn := fun k hk => @kn_lt hs k hk
  have hfs := fun i hi => @fst_le hs h4 i hi
  have hlw := lw_len h4 (gaF w hs)
  have hT := fun z8 z9 z10 z11 z22 => law_T4 ns w l hs hw hh hl (.im (.list ((knF hs).map fun k => PyData.int (k : Nat)))) y5 (.im (.tuple ((gaF w hs).map .int))) y7 z8 z9 z10 z11 y12 y13 y14 y15 y16 y17 y18 y19 y20 y21 z22 y23 y24 y25
  generalize gaF w hs = gs at *
  generalize knF hs = ks at *
  simp -implicitDefEqProofs [T3_law, r2]
  obtain ⟨ρ', q1, x11, x22, q2⟩ := forL_all (step := turnD (sN 11) L_law_2) (xs := List.range ks.length) (mk := fun k => PyData.int (k : Nat))
    (fun pre (ρ : Rho) => ∃ x11 x22, ρ = [.im (.list (ns.map .int)), .im (wD w), .im (.list (l.map .int)), .im (.tuple (hs.map oD)), .im (.list (ks.map fun k => PyData.int (k : Nat))), y5, .im (.tuple (gs.map PyData.int)), y7, y8, .ow (.list ((lwN ks gs pre.length).1.map fun k => PyData.int (k : Nat))), .im (.list ((lwN ks gs pre.length).2.map fun k => PyData.int (k : Nat))), x11, y12, y13, y14, y15, y16, y17, y18, y19, y20, y21, x22, y23, y24, y25])
    [.im (.list (ns.map .int)), .im (wD w), .im (.list (l.map .int)), .im (.tuple (hs.map oD)), .im (.list (ks.map fun k => PyData.int (k : Nat))), y5, .im (.tuple (gs.map PyData.int)), y7, y8, .ow (.list []), .im (.list []), y11, y12, y13, y14, y15, y16, y17, y18, y19, y20, y21, y22, y23, y24, y25] ⟨_, _, rfl⟩ (by
    rintro pre post ρ i ⟨z11, z22, rfl⟩ hx
    have hi := range_split hx
    obtain ⟨rfl, hi, _⟩ := hi
    rw [List.length_append, List.length_singleton, lwN]
    generalize pre.length = i at *
    obtain ⟨b1, b2⟩ := hlw i (by omega)
    have k1 : L2.atI (ks.map fun k => PyData.int (k : Nat)) (i : Int) = some (.int (ks.getD i 0 : Nat)) := at_mk (mk := fun k : Nat => PyData.int (k : Nat)) ks 0 hi
    have k2 : L2.atI (gs.map PyData.int) (i : Int) = some (.int (gs.getD i 0)) := at_n gs (by omega)
    have k3 := lr2_nat (fstF ks i) (ks.getD i 0 + 1) (by have := hfs i hi; omega) (by have := (hkn i hi).1; omega)
    have k4 : fIf (fT (f2 gtD (vF 11) (cD (.int 0)))) (f2 addD (f2 ixD (vF 4) (f2 subD (vF 11) (cD (.int 1)))) (cD (.int 1))) (cD (.int 0))
      [.im (.list (ns.map .int)), .im (wD w), .im (.list (l.map .int)), .im (.tuple (hs.map oD)), .im (.list (ks.map fun k => PyData.int (k : Nat))), y5, .im (.tuple (gs.map PyData.int)), y7, y8, .ow (.list ((lwN ks gs i).1.map fun k => PyData.int (k : Nat))), .im (.list ((lwN ks gs i).2.map fun k => PyData.int (k : Nat))), .im (.int i), y12, y13, y14, y15, y16, y17, y18, y19, y20, y21, z22, y23, y24, y25] = some (.int (fstF ks i : Nat)) := by
      unfold fstF
      by_cases c : i > 0
      · have k5 : L2.atI (ks.map fun k => PyData.int (k : Nat)) ((i : Int) - 1) = some (.int (ks.getD (i - 1) 0 : Nat)) := by
          have := at_mk (mk := fun k : Nat => PyData.int (k : Nat)) ks (k := i - 1) 0 (by omega)
          rw [show ((i : Int) - 1) = ((i - 1 : Nat) : Int) by omega]
          exact this
        generalize ks.getD (i - 1) 0 = p at *
        simp [c, k5]
      · simp [c]
    have b3 : (rgF (fstF ks i) (ks.getD i 0 + 1)).length ≤ 5 := by
      have := (hkn i hi).1
      simp only [rgF, List.length_map, List.length_range]
      omega
    rw [show (((ks.getD i 0 + 1 : Nat) : Int)) = ((ks.getD i 0 : Nat) : Int) + 1 by omega] at k3
    generalize rgF (fstF ks i) (ks.getD i 0 + 1) = rg at *
    generalize fstF ks i = fs at *
    generalize ks.getD i 0 = kk at *
    generalize gs.getD i 0 = g at *
    generalize lwN ks gs i = st at *
    obtain ⟨s1, s2⟩ := st
    dsimp only at b1 b2 ⊢
    have s3 : s2.length + rg.length ≤ sizeLine := by omega
    have s4 : s1.length < sizeLine := by omega
    by_cases c : g > 0
    · rw [if_pos c]
      by_cases c2 : fs = kk
      · refine ⟨_, .inl ?_, .im (.int (i : Nat)), .im (.int (fs : Nat)), rfl⟩
        have c' : 0 < g := c
        subst c2
        simp -implicitDefEqProofs [L_law_2, ↓k4, k2, c', k1, k3, s3, s4]
      · refine ⟨_, .inl ?_, .im (.int (i : Nat)), .im (.int (fs : Nat)), rfl⟩
        have c' : 0 < g := c
        have c3 : ¬ (fs : Int) = kk := by omega
        simp -implicitDefEqProofs [L_law_2, ↓k4, k2, c', k1, k3, s3, s4, c2, c3]
    · rw [if_neg c]
      refine ⟨_, .inl ?_, .im (.int (i : Nat)), .im (.int (fs : Nat)), rfl⟩
      have c' : ¬ 0 < g := c
      simp -implicitDefEqProofs [L_law_2, ↓k4, k2, c'])
  rw [List.length_range] at q2
  rw [q1]
  subst q2
  have hl1 := (hlw ks.length (Nat.le_refl _)).1
  have hl2 := (hlw ks.length (Nat.le_refl _)).2
  generalize lwN ks gs ks.length = st at *
  obtain ⟨s1, s2⟩ := st
  dsimp only at e1 e2 hl1 hl2 ⊢
  have sm : ∀ s : List Nat, s.length ≤ 1000 → Ph__law_same 4 [.tuple (s.map fun k => PyData.int (k : Nat)), .tuple (s.map fun k => PyData.int (k : Nat))] = some (.bool true) := fun s hs => e_same_r 4 _ (tame_mk (n := 3) (fun k => rfl) s hs)
  have sm1 := sm s1 (by omega)
  have sm2 := sm s2 (by omega)
  simp -implicitDefEqProofs [e1, e2, sm1, sm2, hT]
end Hd
end

/-! part: K35w -/
section
set_option Elab.async false
set_option linter.all false
set_option maxRecDepth 100000
set_option maxHeartbeats 400000
namespace Hd
open PySem PySem.Spec Q
theorem law_T2 (ns : List Int) (w : W) (l : List Int) (hs : List (Option W)) (hw : okW w) (hh : okH hs) (hl : l.length = hs.length) (y5 y8 y9 y10 y11 y12 y13 y14 y15 y16 y17 y18 y19 y20 y21 y22 y23 y24 y25 : Sl) :
    T2_law [.im (.list (ns.map .int)), .im (wD w), .im (.list (l.map .int)), .im (.tuple (hs.map oD)), .im (.list ((knF hs).map fun k => PyData.int (k : Nat))), y5, .im (.tuple ((gaF w hs).map .int)), .im (.tuple ((fillF w hs).map wD)), y8, y9, y10, y11, y12, y13, y14, y15, y16, y17, y18, y19, y20, y21, y22, y23, y24, y25] = some (.rt (.bool true)) := by
  have hlen := line_ge
  have h1 := hh.1.1
  have h4 := hh.1.2
  have hT := law_T3 ns w l hs hw hh hl y5 (.im (.tuple ((fillF w hs).map wD))) y8 y9 y10 y11 y12 y13 y14 y15 y16 y17 y18 y19 y20 y21 y22 y23 y24 y25
  have fl : (fillF w hs).length = hs.length := by
    have := fi_len hs w []
    simpa [fillF] using this
  have fo := (fi_ok hs hh.2 w [] hw (fun v hv => nomatch hv)).2
  rw [show (hs.foldl fiSt (w, [])).2 = fillF w hs from rfl] at fo
  have gl : (gaF w hs).length ≤ 4 := by have := kn_le hs; simp [gaF]; omega
  have e1 := e_least w hs hw hh (.list (hs.map oD)) (.inr rfl)
  have e2 := e_floor w hs hw hh (.tuple (hs.map oD)) (.inl rfl)
  have e3 := e_filling w hs hw hh
  have e4 := li_o hs (by omega)
  rw [← gaF_eq w hs h4] at e1 e2
  have s1 := e_same_r 4 _ (tame_ints 2 (gaF w hs) (by omega))
  generalize gaF w hs = gs at *
  have e5 := li_w (fillF w hs) (by omega)
  have e6 := e_slips_of w (fillF w hs) hw fo (by omega)
  have e7 := e_law_slips w (fillF w hs) hw fo (by omega)
  have sl : (slipsF w (fillF w hs)).length ≤ 1000 := by simp [slipsF]; omega
  have s2 := e_same_r 4 _ (tame_ints 2 (slipsF w (fillF w hs)) sl)
  have s3 := e_same_r 4 _ (tame_tW 2 (fillF w hs) (by omega))
  have hne : fillF w hs ≠ [] := fun z => by rw [z] at fl; simp at fl; omega
  have a1 := at_neg (mk := wD) (fillF w hs) [] hne
  have hlast : okW ((fillF w hs).getLastD []) := by
    apply fo
    rw [List.getLastD_eq_getLast?, List.getLast?_eq_some_getLast hne]
    exact List.getLast_mem hne
  have e8 := e_gap w _ hw hlast
  have e9 := e_law_gap w ((fillF w hs).getLastD []) (okW_len hw) (okW_len hlast)
  rw [tW] at s3
  generalize (fillF w hs).getLastD [] = v at *
  generalize slipsF w (fillF w hs) = sp at *
  generalize fillF w hs = ff at *
  simp -implicitDefEqProofs [T2_law, a1, e8, e9, e1, e2, e3, e4, s1, s2, s3, e5, e6, e7, hT]
theorem fi_last : ∀ (hs : List (Option W)) (w0 w : W) (l : List W), w = l.getLastD w0 → (hs.foldl fiSt (w, l)).1 = (hs.foldl fiSt (w, l)).2.getLastD w0
  | [], _, _, _, h => h
  | h :: hs, w0, w, l, e => by
    rw [List.foldl_cons]
    apply fi_last hs w0
    simp [List.getLastD_eq_getLast?]
theorem law_T1 (ns : List Int) (w : W) (l : List Int) (hs : List (Option W)) (hw : okW w) (hh : okH hs) (hl : l.length = hs.length) (y5 y7 y8 y9 y10 y11 y12 y13 y14 y15 y16 y17 y18 y19 y20 y21 y22 y23 y24 y25 : Sl) :
    T1_law [.im (.list (ns.map .int)), .im (wD w), .im (.list (l.map .int)), .im (.tuple (hs.map oD)), .im (.list ((knF hs).map fun k => PyData.int (k : Nat))), y5, .im (.tuple ((gaF w hs).map .int)), y7, y8, y9, y10, y11, y12, y13, y14, y15, y16, y17, y18, y19, y20, y21, y22, y23, y24, y25] = some (.rt (.bool true)) := by
  have hlen := line_ge
  have h4 := hh.1.2
  have hT := fun z8 => law_T2 ns w l hs hw hh hl y5 z8 y9 y10 y11 y12 y13 y14 y15 y16 y17 y18 y19 y20 y21 y22 y23 y24 y25
  generalize gaF w hs = gs at *
  generalize (knF hs).map (fun k => PyData.int (k : Nat)) = ks at *
  simp -implicitDefEqProofs [T1_law]
  obtain ⟨ρ', q1, x8, q2⟩ := forL_all (step := turnD (sN 8) L_law_1) (xs := hs) (mk := oD)
    (fun pre (ρ : Rho) => ∃ x8, ρ = [.im (.list (ns.map .int)), .im (wD w), .im (.list (l.map .int)), .im (.tuple (hs.map oD)), .im (.list ks), y5, .im (.tuple (gs.map PyData.int)), .ow (.list ((pre.foldl fiSt (w, [])).2.map wD)), x8, y9, y10, y11, y12, y13, y14, y15, y16, y17, y18, y19, y20, y21, y22, y23, y24, y25])
    [.im (.list (ns.map .int)), .im (wD w), .im (.list (l.map .int)), .im (.tuple (hs.map oD)), .im (.list ks), y5, .im (.tuple (gs.map PyData.int)), .ow (.list []), y8, y9, y10, y11, y12, y13, y14, y15, y16, y17, y18, y19, y20, y21, y22, y23, y24, y25] ⟨_, rfl⟩ (by
    rintro pre post ρ h ⟨z8, rfl⟩ hx
    have hpl := split_len hx
    have b1 := fi_len pre w []
    have b2 := fi_last pre w w [] rfl
    have b3 := (nice_lst nice_w).ne (by decide) (pre.foldl fiSt (w, [])).2 []
    rw [List.map_nil] at b3
    rw [List.foldl_append, List.foldl_cons, List.foldl_nil]
    generalize pre.foldl fiSt (w, []) = st at *
    obtain ⟨u, L⟩ := st
    dsimp only at b1 b2 b3
    subst b2
    have b4 : L.length < sizeLine := by simp at b1; omega
    refine ⟨_, .inl ?_, .im (oD h), rfl⟩
    cases h with
    | some v => simp -implicitDefEqProofs [L_law_1, wD_nn, oD_some, b4, fiSt]
    | none =>
      have n1 : notND (oD none) .none = some (.bool false) := rfl
      by_cases c : L = []
      · subst c
        have b3' : neD (.list []) (.list []) = some (.bool false) := rfl
        have b5 : ¬ sizeLine = 0 := by omega
        simp -implicitDefEqProofs [L_law_1, n1, b3', b5, fiSt]
      · have a1 := at_neg (mk := wD) L [] c
        have a2 : L.getLastD [] = L.getLastD w := by
          rw [List.getLastD_eq_getLast?, List.getLastD_eq_getLast?, List.getLast?_eq_some_getLast c]
          rfl
        rw [a2] at a1
        rw [decide_eq_false c] at b3
        simp -implicitDefEqProofs [L_law_1, n1, b3, b4, fiSt, a1])
  rw [q1]
  subst q2
  rw [show (hs.foldl fiSt (w, [])).2 = fillF w hs from rfl]
  simp -implicitDefEqProofs [hT]
end Hd
end

/-! part: K35x -/
section
set_option Elab.async false
set_option linter.all false
set_option maxRecDepth 100000
set_option maxHeartbeats 400000
namespace Hd
open PySem PySem.Spec Q
def hrF (l : List Int) : List (Option W) := l.map fun n => if n / 50 % 3 > 0 then some (mkw n) else none
theorem hr_len (l : List Int) : (hrF l).length = l.length := by simp [hrF]
theorem hr_ok (l : List Int) (h : 1 ≤ l.length ∧ l.length ≤ 4) : okH (hrF l) := by
  refine ⟨by rw [hr_len]; exact h, fun w hw => ?_⟩
  obtain ⟨n, _, e⟩ := List.mem_map.mp hw
  split at e
  · injection e with e
    rw [← e]; exact mkw_ok n
  · cases e
section
variable (ns : List Int) (w : W) (l : List Int)
theorem hr_c (h : l.length ≤ 4) (y1 y3 y4 y5 y6 y7 y8 y9 y10 y11 y12 y13 y14 y15 y16 y17 y18 y19 y20 y21 y22 y23 y24 y25 : Sl) :
    fLc (fI (vF 2)) (sN 24) (fYes) (fIf (fT (f2 gtD (f2 modD (fB intD (aCons (f2 fdivD (vF 24) (cD (.int 50))) (aNil))) (cD (.int 3))) (cD (.int 0)))) (fB (Ph__law_word) (aCons (fB intD (aCons (vF 24) (aNil))) (aNil))) (cD .none)) [24]
      [.im (.list (ns.map .int)), y1, .im (.list (l.map .int)), y3, y4, y5, y6, y7, y8, y9, y10, y11, y12, y13, y14, y15, y16, y17, y18, y19, y20, y21, y22, y23, y24, y25] = some (.list ((hrF l).map oD)) := by
  have e := fun n => e_word n
  simp -implicitDefEqProofs
  rw [lcL_all (g := fun n => oD (if n / 50 % 3 > 0 then some (mkw n) else none)) (by simp) (fun n hn => by
    have e := e_word n
    by_cases c : n / 50 % 3 > 0
    · have c' : 0 < n / 50 % 3 := c
      simp [c', e, oD_some]
    · have c' : ¬ 0 < n / 50 % 3 := c
      simp [c', oD_none]), Option.bind_some, lcB_small (by simp; omega)]
  rw [hrF, List.map_map]
  rfl
variable (hs : List (Option W))
theorem kn_c (h : hs.length ≤ 4) (y1 y2 y4 y5 y6 y7 y8 y9 y10 y11 y12 y13 y14 y15 y16 y17 y18 y19 y20 y21 y22 y23 y24 y25 : Sl) :
    fLc (fIs rg1D (aCons (fB lenD (aCons (vF 3) (aNil))) (aNil))) (sN 15) (fT (f2 notND (f2 ixD (vF 3) (vF 15)) (cD .none))) (vF 15) [15]
      [.im (.list (ns.map .int)), y1, y2, .im (.tuple (hs.map oD)), y4, y5, y6, y7, y8, y9, y10, y11, y12, y13, y14, y15, y16, y17, y18, y19, y20, y21, y22, y23, y24, y25] = some (.list ((knF hs).map fun k => PyData.int (k : Nat))) := by
  have r2 := rg1_n (k := hs.length) (by omega)
  simp -implicitDefEqProofs [r2]
  rw [lcL_map (p := fun k => (hs.getD k none).isSome) (g := fun k => PyData.int (k : Nat)) (fun k hk => by
    have hk' := List.mem_range.mp hk
    have b1 : L2.atI (hs.map oD) (k : Int) = some (oD (hs.getD k none)) := at_mk (mk := oD) hs none hk'
    have b5 := not_none (hs.getD k none)
    generalize hs.getD k none = h at *
    simp [b1, b5]) (fun k hk hp => by simp), Option.bind_some, lcB_small (by
      have := kn_le hs
      rw [knF] at this
      rw [List.length_map]
      omega)]
  rfl
theorem ch_c (h : hs.length ≤ 4) (y1 y2 y5 y6 y7 y8 y9 y10 y11 y12 y13 y14 y15 y16 y17 y18 y19 y20 y21 y22 y23 y24 y25 : Sl) :
    fLc (fI (vF 4)) (sN 15) (fYes) (f2 ixD (vF 3) (vF 15)) [15]
      [.im (.list (ns.map .int)), y1, y2, .im (.tuple (hs.map oD)), .im (.list ((knF hs).map fun k => PyData.int (k : Nat))), y5, y6, y7, y8, y9, y10, y11, y12, y13, y14, y15, y16, y17, y18, y19, y20, y21, y22, y23, y24, y25] = some (.list (((knF hs).map fun k => (hs.getD k none).getD []).map wD)) := by
  have hk := kn_le hs
  have hm : ∀ k ∈ knF hs, k < hs.length ∧ (hs.getD k none).isSome = true := fun k hk => by
    obtain ⟨h1, h2⟩ := List.mem_filter.mp hk
    exact ⟨List.mem_range.mp h1, h2⟩
  generalize knF hs = ks at *
  simp -implicitDefEqProofs
  rw [lcL_all (g := fun k => wD ((hs.getD k none).getD [])) (by simp) (fun k hk => by
    obtain ⟨h1, h2⟩ := hm k hk
    have b1 : L2.atI (hs.map oD) (k : Int) = some (oD (hs.getD k none)) := at_mk (mk := oD) hs none h1
    generalize hs.getD k none = o at *
    cases o with
    | none => cases h2
    | some v => simp [b1, oD_some]), Option.bind_some, lcB_small (by rw [List.length_map]; omega)]
  simp only [List.getD_eq_getElem?_getD]
  rfl
theorem ga_c (hw : okW w) (h : okH hs) (y1 y2 y3 y6 y7 y8 y9 y10 y11 y12 y13 y14 y15 y16 y17 y18 y19 y20 y21 y22 y23 y24 y25 : Sl) :
    fLc (fIs rg1D (aCons (fB lenD (aCons (vF 4) (aNil))) (aNil))) (sN 15) (fYes) (fB (Ph__law_gap) (aCons (f2 ixD (vF 5) (vF 15)) (aCons (f2 ixD (vF 5) (f2 addD (vF 15) (cD (.int 1)))) (aNil)))) [15]
      [.im (.list (ns.map .int)), y1, y2, y3, .im (.list ((knF hs).map fun k => PyData.int (k : Nat))), .im (.list ((chF w hs).map wD)), y6, y7, y8, y9, y10, y11, y12, y13, y14, y15, y16, y17, y18, y19, y20, y21, y22, y23, y24, y25] = some (.list ((gaF w hs).map .int)) := by
  have h4 := h.1.2
  have hk := kn_le hs
  have r2 := rg1_n (k := (knF hs).length) (by omega)
  have hcl : (chF w hs).length = (knF hs).length + 1 := by simp [chF]
  have hco : ∀ v ∈ chF w hs, okW v := fun v hv => by
    rcases List.mem_cons.mp hv with rfl | hv
    · exact hw
    · obtain ⟨k, hk, rfl⟩ := List.mem_map.mp hv
      obtain ⟨h1, h2⟩ := List.mem_filter.mp hk
      have h1 := List.mem_range.mp h1
      cases e : hs.getD k none with
      | none => rw [e] at h2; cases h2
      | some u =>
        refine h.2 u ?_
        rw [← e, List.getD_eq_getElem?_getD, List.getElem?_eq_getElem h1]
        exact List.getElem_mem h1
  unfold gaF
  generalize chF w hs = ch at *
  generalize knF hs = ks at *
  simp -implicitDefEqProofs [r2]
  rw [lcL_all (g := fun k => PyData.int (gp (ch.getD k []) (ch.getD (k + 1) []))) (by simp) (fun k hk => by
    have hk' := List.mem_range.mp hk
    have b1 : L2.atI (ch.map wD) (k : Int) = some (wD (ch.getD k [])) := at_mk (mk := wD) ch [] (by omega)
    have b2 : L2.atI (ch.map wD) ((k : Int) + 1) = some (wD (ch.getD (k + 1) [])) := at_mk (mk := wD) ch (k := k + 1) [] (by omega)
    have b3 := e_law_gap (ch.getD k []) (ch.getD (k + 1) []) (okW_len (getD_ok hco (by omega))) (okW_len (getD_ok hco (by omega)))
    generalize ch.getD k [] = a at *
    generalize ch.getD (k + 1) [] = b at *
    simp [b1, b2, b3]), Option.bind_some, lcB_small (by simp; omega)]
  simp only [List.getD_eq_getElem?_getD]
  rfl
end
theorem e_law (ns : List Int) : Ph_law [.list (ns.map .int)] = some (.bool true) := by
  have hlen := line_ge
  have hc0 : Ph__law_cell [.list (ns.map .int), .int 0] = some (.int (ns[0]?.getD 0)) := by have := e_cell ns 0; simpa using this
  have hc2 : Ph__law_cell [.list (ns.map .int), .int 2] = some (.int (ns[2]?.getD 0)) := by have := e_cell ns 2; simpa using this
  obtain ⟨k, hk, hk2⟩ := mod_nat (ns[2]?.getD 0) (show (0 : Int) < 4 by decide)
  have hn : ∃ l : List Int, l.length = k + 1 ∧ Ph__law_numbers [.list (ns.map .int), .int 1, .int (1 + (k : Int))] = some (.list (l.map .int)) := by
    obtain ⟨l, h1, h2⟩ := e_numbers ns 1 (k + 1) (by omega)
    exact ⟨l, h1, by rw [show (1 + (k : Int)) = ((k + 1 : Nat) : Int) by omega]; exact h2⟩
  obtain ⟨l, hll, hn⟩ := hn
  have ew := e_word (ns[0]?.getD 0 % 1000000)
  have hw := mkw_ok (ns[0]?.getD 0 % 1000000)
  generalize mkw (ns[0]?.getD 0 % 1000000) = w at *
  have hh := hr_ok l (by omega)
  have hhl := hr_len l
  have q1 := hr_c ns l (by omega) (.im (wD w)) .un .un .un .un .un .un .un .un .un .un .un .un .un .un .un .un .un .un .un .un .un .un .un
  generalize hrF l = hs at *
  have h4 := hh.1.2
  have q2 := kn_c ns hs h4 (.im (wD w)) (.im (.list (l.map .int))) .un .un .un .un .un .un .un .un .un .un .un .un .un .un .un .un .un .un .un .un .un .un
  have q3 := ch_c ns hs h4 (.im (wD w)) (.im (.list (l.map .int))) .un .un .un .un .un .un .un .un .un .un .un .un .un .un .un .un .un .un .un .un .un
  have q4 := ga_c ns w hs hw hh (.im (wD w)) (.im (.list (l.map .int))) (.im (.tuple (hs.map oD))) .un .un .un .un .un .un .un .un .un .un .un .un .un .un .un .un .un .un .un .un
  have hT := law_T1 ns w l hs hw hh hhl.symm (.im (.list ((chF w hs).map wD))) .un .un .un .un .un .un .un .un .un .un .un .un .un .un .un .un .un .un .un
  have hch : (chF w hs).map wD = wD w :: ((knF hs).map fun k => (hs.getD k none).getD []).map wD := rfl
  have hkl := kn_le hs
  rw [hch] at q4 hT
  have hs1 : 1 + (knF hs).length ≤ sizeLine := by omega
  have hL : ((knF hs).map fun k => (hs.getD k none).getD []).length = (knF hs).length := by simp
  generalize ((knF hs).map fun k => (hs.getD k none).getD []) = CH at *
  generalize (gaF w hs) = gs at *
  rw [← hL] at hs1
  generalize (knF hs).map (fun k => PyData.int (k : Nat)) = ks at *
  rw [Ph_law, b_law_eq]
  simp -implicitDefEqProofs [b_law2, hc0, hc2, ew]
  rw [hk]
  simp -implicitDefEqProofs [hn, ↓q1, ↓q2, ↓q3, ↓q4, hs1, hT]

end Hd
end

theorem PySem.Challenge.cw_playground_k35_whispers_by_tables_whole_holds : PySem.Challenge.rw_playground_k35_whispers_by_tables_whole.Holds := by
  exact law_from fun ns _ => Hd.e_law ns
