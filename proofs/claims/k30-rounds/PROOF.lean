import PyProof.Rows.All
import Wide.All
import OpenK.AllK
import Wide.FinOn
import HandS.ForMost
import HandS.Deep
import HandS.Conv
import HandS.Star
import HandS.TupAny
import HandS.Defaults
import HandS.IsInst
import HandS.Style
import HandS.Flow
import HandS.TupMul
import HandS.Strs
import KE.DataCmp
import KE.DataMinMax
import KE.SortData
import KE.DataAny
import KE.KTupSum
import HandS.Zip
import HandS.Rev
import KE.GoesEnum
import HandS.SetFor
import HandS.Head0
import HandS.Head1
import HandS.Head2
import HandS.HeadEnd
import HandS.HeadHook1
import HandS.HeadHook2
import KE.DataFind
import HandS.Gcd
import KE.GoesZip
import KE.GoesMore
import HandS.Text
import KE.KMathGC
import HandS.SortKw
import PyProof.MaxThree
import HandS.Dict
import PyProof.SliceStr2
import HandS.RepeatKit
import HandS.TupSets
import KE.KStateDown
import HandS.ForExc
import HandS.More
import HandS.Head3
import PySem.Challenge.RW_playground_k30_plans_kings_and_orders
/-! part: Q1 -/
section
set_option Elab.async false
set_option linter.all false
set_option maxRecDepth 100000
set_option maxHeartbeats 4000000
namespace Q
open PySem PySem.Spec PyProof.Rows L2
abbrev D := PyData

/-! ### representation -/
/-- a tuple whose object is known, or of the written part -/
def TupAt (K : PySem.W.Frag) (F : Hp) (a : Addr) (xs : List V) : Prop :=
  (∃ o, F a = some (.frz o (.tup xs)) ∧ o.cls = .type "tuple" ∧ o.dict = none) ∨
    ∃ (o : Obj) (its : Array Value) (n : Nat), K.lookup a = some o ∧ o.cls = .type "tuple" ∧ o.dict = none ∧ o.data = .seq its n ∧ its.size ≤ sizeLine ∧ Vals xs its.toList
theorem TupAt.sq {K : PySem.W.Frag} {F : Hp} {a : Addr} {xs : List V} (h : TupAt K F a xs) : SqT K F a xs := by
  rcases h with ⟨o, h, _⟩ | ⟨o, its, n, h1, h2, _, h4, h5, h6⟩
  · exact .inl (.inr ⟨o, h⟩)
  · exact .inr ⟨o, its, n, h1, h2, h4, h5, h6⟩
/-- a dict's key as a datum -/
def kD : Key → D
  | .inl i => .int i
  | .inr x => .str x
mutual
inductive Rep (K : PySem.W.Frag) (F : Hp) : V → D → Prop
  | non : Rep K F .non .none
  | bl (b : Bool) : Rep K F (.bl b) (.bool b)
  | int (i : Int) : Rep K F (.int i) (.int i)
  | str (x : Str) : Rep K F (.str x) (.str x)
  | lst {a : Addr} {xs : List V} {ds : List D} : SqL K F a xs → RepA K F xs ds → Rep K F (.ref a) (.list ds)
  | tup {a : Addr} {xs : List V} {ds : List D} : TupAt K F a xs → RepA K F xs ds → Rep K F (.ref a) (.tuple ds)
  | dct {a : Addr} {ks : List (Key × V)} {es : List (D × D)} : Rd F a (.dK ks) → RepK K F ks es → Rep K F (.ref a) (.dict es)
inductive RepA (K : PySem.W.Frag) (F : Hp) : List V → List D → Prop
  | nil : RepA K F [] []
  | cons {v : V} {vs : List V} {d : D} {ds : List D} : Rep K F v d → RepA K F vs ds → RepA K F (v :: vs) (d :: ds)
inductive RepK (K : PySem.W.Frag) (F : Hp) : List (Key × V) → List (D × D) → Prop
  | nil : RepK K F [] []
  | cons {k : Key} {v : V} {ks : List (Key × V)} {d : D} {es : List (D × D)} : Rep K F v d → RepK K F ks es → RepK K F ((k, v) :: ks) ((kD k, d) :: es)
end
theorem _root_.L2.Same.rd {H H' : Hp} {a : Addr} {u : HO} (e : Same H H') (h : Rd H a u) : Rd H' a u := by
  rcases h with h | ⟨o, h⟩
  · exact .inl (e _ _ h)
  · exact .inr ⟨o, e _ _ h⟩
/-! data without dicts -/
mutual
def nd : D → Bool
  | .dict _ => false
  | .list xs | .tuple xs => ndA xs
  | _ => true
def ndA : List D → Bool
  | [] => true
  | x :: xs => nd x && ndA xs
end
mutual
theorem nd_lay : ∀ d : D, d.canLay0 = true → nd d = true
  | .none, _ => by rw [nd] <;> intros <;> simp_all
  | .bool _, _ => by rw [nd] <;> intros <;> simp_all
  | .int _, _ => by rw [nd] <;> intros <;> simp_all
  | .str _, _ => by rw [nd] <;> intros <;> simp_all
  | .list xs, h => by rw [nd]; exact nd_layA xs (by simpa [PyData.canLay0] using h)
  | .tuple xs, h => by rw [nd]; exact nd_layA xs (by simpa [PyData.canLay0] using h)
  | .dict _, h => by simp [PyData.canLay0] at h
theorem nd_layA : ∀ ds : List D, PyData.canLayAll0 ds = true → ndA ds = true
  | [], _ => by rw [ndA]
  | x :: xs, h => by
    rw [ndA]
    rw [PyData.canLayAll0, Bool.and_eq_true] at h
    rw [nd_lay x h.1, nd_layA xs h.2]
    rfl
end
theorem nd_shaped {d : D} (h : SeqAt.shaped d = true) : nd d = true := nd_lay d (SeqAt.canLay_of_shaped h)
theorem _root_.L2.Same.sqT {K : PySem.W.Frag} {H H' : Hp} {a : Addr} {xs : List V} (e : Same H H') (h : SqT K H a xs) : SqT K H' a xs := by
  rcases h with (h | ⟨o, h⟩) | h
  · exact .inl (.inl (e _ _ h))
  · exact .inl (.inr ⟨o, e _ _ h⟩)
  · exact .inr h
theorem TupAt.mono {K : PySem.W.Frag} {H H' : Hp} {a : Addr} {xs : List V} (e : Same H H') (h : TupAt K H a xs) : TupAt K H' a xs := by
  rcases h with ⟨o, h, r⟩ | h
  · exact .inl ⟨o, e _ _ h, r⟩
  · exact .inr h
section
variable {K : PySem.W.Frag} {F F' : Hp}
mutual
theorem Rep.mono (e : Same F F') : ∀ {v : V} {d : D}, Rep K F v d → Rep K F' v d
  | _, _, .non => .non
  | _, _, .bl b => .bl b
  | _, _, .int i => .int i
  | _, _, .str x => .str x
  | _, _, .lst h r => .lst (e.seq h) (RepA.mono e r)
  | _, _, .tup h r => .tup (h.mono e) (RepA.mono e r)
  | _, _, .dct h r => .dct (e.rd h) (RepK.mono e r)
theorem RepA.mono (e : Same F F') : ∀ {vs : List V} {ds : List D}, RepA K F vs ds → RepA K F' vs ds
  | _, _, .nil => .nil
  | _, _, .cons h r => .cons (Rep.mono e h) (RepA.mono e r)
theorem RepK.mono (e : Same F F') : ∀ {ks : List (Key × V)} {es : List (D × D)}, RepK K F ks es → RepK K F' ks es
  | _, _, .nil => .nil
  | _, _, .cons h r => .cons (Rep.mono e h) (RepK.mono e r)
end
mutual
theorem Rep.dp : ∀ {v : V} {d : D}, Rep K F v d → nd d = true → Dp K F v d
  | _, _, .non, _ => .non
  | _, _, .bl b, _ => .bl b
  | _, _, .int i, _ => .int i
  | _, _, .str x, _ => .str x
  | _, _, .lst h r, n => .lst h (RepA.dp r (by rw [nd] at n; exact n))
  | _, _, .tup h r, n => .tup h.sq (RepA.dp r (by rw [nd] at n; exact n))
  | _, _, .dct h r, n => by rw [nd] at n; cases n
theorem RepA.dp : ∀ {vs : List V} {ds : List D}, RepA K F vs ds → ndA ds = true → DpAll K F vs ds
  | _, _, .nil, _ => .nil
  | _, _, .cons h r, n => .cons (Rep.dp h (by rw [ndA, Bool.and_eq_true] at n; exact n.1)) (RepA.dp r (by rw [ndA, Bool.and_eq_true] at n; exact n.2))
end
theorem RepA.length : ∀ {vs : List V} {ds : List D}, RepA K F vs ds → vs.length = ds.length
  | _, _, .nil => rfl
  | _, _, .cons _ r => congrArg Nat.succ (RepA.length r)
theorem RepA.get : ∀ {vs : List V} {ds : List D} {i : Nat} {d : D}, RepA K F vs ds → ds[i]? = some d → ∃ v, vs[i]? = some v ∧ Rep K F v d
  | _, _, _, _, .nil, e => by simp at e
  | _, _, 0, _, .cons h _, e => by simp at e; subst e; exact ⟨_, rfl, h⟩
  | _, _, i + 1, _, .cons _ r, e => by
    obtain ⟨v, h1, h2⟩ := RepA.get (i := i) r (by simpa using e)
    exact ⟨v, by simpa using h1, h2⟩
theorem RepA.getV : ∀ {vs : List V} {ds : List D} {i : Nat} {v : V}, RepA K F vs ds → vs[i]? = some v → ∃ d, ds[i]? = some d ∧ Rep K F v d
  | _, _, _, _, .nil, e => by simp at e
  | _, _, 0, _, .cons h _, e => by simp at e; subst e; exact ⟨_, rfl, h⟩
  | _, _, i + 1, _, .cons _ r, e => by
    obtain ⟨v, h1, h2⟩ := RepA.getV (i := i) r (by simpa using e)
    exact ⟨v, by simpa using h1, h2⟩
theorem RepA.append : ∀ {vs ws : List V} {ds es : List D}, RepA K F vs ds → RepA K F ws es → RepA K F (vs ++ ws) (ds ++ es)
  | _, _, _, _, .nil, s => s
  | _, _, _, _, .cons h r, s => .cons h (RepA.append r s)
theorem RepA.take : ∀ {vs : List V} {ds : List D} (n : Nat), RepA K F vs ds → RepA K F (vs.take n) (ds.take n)
  | _, _, 0, _ => by simp only [List.take_zero]; exact .nil
  | _, _, _ + 1, .nil => .nil
  | _, _, n + 1, .cons h r => .cons h (RepA.take n r)
theorem RepA.drop : ∀ {vs : List V} {ds : List D} (n : Nat), RepA K F vs ds → RepA K F (vs.drop n) (ds.drop n)
  | _, _, 0, r => by simpa using r
  | _, _, _ + 1, .nil => .nil
  | _, _, n + 1, .cons _ r => RepA.drop n r
theorem RepA.set : ∀ {vs : List V} {ds : List D} {v : V} {d : D} (i : Nat), RepA K F vs ds → Rep K F v d → RepA K F (vs.set i v) (ds.set i d)
  | _, _, _, _, _, .nil, _ => .nil
  | _, _, _, _, 0, .cons _ r, q => .cons q r
  | _, _, _, _, i + 1, .cons h r, q => .cons h (RepA.set i r q)
theorem RepA.eraseIdx : ∀ {vs : List V} {ds : List D} (i : Nat), RepA K F vs ds → RepA K F (vs.eraseIdx i) (ds.eraseIdx i)
  | _, _, _, .nil => .nil
  | _, _, 0, .cons _ r => r
  | _, _, i + 1, .cons h r => .cons h (RepA.eraseIdx i r)
theorem RepA.dropLast : ∀ {vs : List V} {ds : List D}, RepA K F vs ds → RepA K F vs.dropLast ds.dropLast
  | _, _, .nil => .nil
  | _, _, .cons _ .nil => .nil
  | _, _, .cons h (.cons h' r) => .cons h (RepA.dropLast (.cons h' r))
theorem RepA.reverse {vs : List V} {ds : List D} (h : RepA K F vs ds) : RepA K F vs.reverse ds.reverse := by
  match h with
  | .nil => exact .nil
  | .cons q r => rw [List.reverse_cons, List.reverse_cons]; exact RepA.append (RepA.reverse r) (.cons q .nil)
end
section
variable {K : PySem.W.Frag} {F F' : Hp}
theorem Rep.int_of {v : V} {i : Int} (h : Rep K F v (.int i)) : v = .int i := by cases h; rfl
theorem Rep.bl_of {v : V} {b : Bool} (h : Rep K F v (.bool b)) : v = .bl b := by cases h; rfl
theorem Rep.str_of {v : V} {x : Str} (h : Rep K F v (.str x)) : v = .str x := by cases h; rfl
theorem Rep.non_of {v : V} (h : Rep K F v .none) : v = .non := by cases h; rfl
theorem RepA.ints : ∀ {vs : List V} {ns : List Int}, RepA K F vs (ns.map .int) → vs = ns.map V.int
  | _, [], h => by cases h; rfl
  | _, n :: ns, h => by
    cases h with
    | cons h r => rw [Rep.int_of h, RepA.ints r]; rfl
theorem RepA.of_ints : ∀ (ns : List Int), RepA K F (ns.map V.int) (ns.map .int)
  | [] => .nil
  | n :: ns => .cons (.int n) (RepA.of_ints ns)
theorem RepA.bls : ∀ {vs : List V} {ns : List Bool}, RepA K F vs (ns.map .bool) → vs = ns.map V.bl
  | _, [], h => by cases h; rfl
  | _, n :: ns, h => by
    cases h with
    | cons h r => rw [Rep.bl_of h, RepA.bls r]; rfl
theorem RepA.strs : ∀ {vs : List V} {ns : List Str}, RepA K F vs (ns.map .str) → vs = ns.map V.str
  | _, [], h => by cases h; rfl
  | _, n :: ns, h => by
    cases h with
    | cons h r => rw [Rep.str_of h, RepA.strs r]; rfl
end

/-! ### slots, modes -/
inductive Sl where
  | un
  | im (d : D)
  | ow (d : D)
abbrev Rho := List Sl
inductive Md where
  | pk | fz | fr
/-- a changing object at a, its parts frozen -/
def Own (K : PySem.W.Frag) (F H : Hp) (a : Addr) : D → Prop
  | .list ds => ∃ vs, H a = some (.lst vs) ∧ RepA K F vs ds
  | .dict es => ∃ ks, H a = some (.dK ks) ∧ RepK K F ks es
  | _ => False
structure Bs where
  F0 : Hp
  G : Hp
/-- F' adds to F only what H does not have -/
def New (F F' H : Hp) : Prop := ∀ a, F' a ≠ none → F a ≠ none ∨ H a = none
structure Ext (F H F' H' : Hp) : Prop where
  f : Same F F'
  h : Same H H'
  n : New F F' H
  s : Same F' H'
theorem New.refl {F H : Hp} : New F F H := fun _ h => .inl h
theorem Ext.refl {F H : Hp} (h : Same F H) : Ext F H F H := ⟨.refl _, .refl _, .refl, h⟩
theorem Ext.trans {F H F1 H1 F2 H2 : Hp} (a : Ext F H F1 H1) (b : Ext F1 H1 F2 H2) : Ext F H F2 H2 :=
  ⟨a.f.trans b.f, a.h.trans b.h, fun c q => (b.n c q).elim (a.n c) fun z => .inr (a.h.free z), b.s⟩
/-- what is known of one value -/
def Res (K : PySem.W.Frag) (m : Md) (H0 F H : Hp) (v : V) (d : D) : Prop := match m with
  | .pk => Rep K F v d ∨ ∃ a, v = .ref a ∧ F a = none ∧ Own K F H a d
  | .fz => Rep K F v d
  | .fr => ∃ a, v = .ref a ∧ H0 a = none ∧ F a = none ∧ Own K F H a d
theorem Own.there {K : PySem.W.Frag} {F H : Hp} {a : Addr} {d : D} (h : Own K F H a d) : H a ≠ none := by
  cases d with
  | list ds => obtain ⟨vs, e, _⟩ := h; rw [e]; exact fun z => nomatch z
  | dict es => obtain ⟨vs, e, _⟩ := h; rw [e]; exact fun z => nomatch z
  | _ => exact h.elim
theorem Own.mono {K : PySem.W.Frag} {F H F' H' : Hp} {a : Addr} {d : D} (e : Same F F') (e2 : Same H H') (h : Own K F H a d) : Own K F' H' a d := by
  cases d with
  | list ds => obtain ⟨vs, q, r⟩ := h; exact ⟨vs, e2 _ _ q, r.mono e⟩
  | dict es => obtain ⟨vs, q, r⟩ := h; exact ⟨vs, e2 _ _ q, r.mono e⟩
  | _ => exact h.elim
theorem Ext.keepNone {F H F' H' : Hp} (x : Ext F H F' H') {a : Addr} (h1 : F a = none) (h2 : H a ≠ none) : F' a = none := by
  cases q : F' a with
  | none => rfl
  | some o => exact ((x.n a (by rw [q]; exact fun z => nomatch z)).elim (fun z => z h1) fun z => h2 z).elim
theorem Res.mono {K : PySem.W.Frag} {m : Md} {H0 F H F' H' : Hp} {v : V} {d : D} (h : Res K m H0 F H v d) (x : Ext F H F' H') : Res K m H0 F' H' v d := by
  cases m with
  | pk =>
    rcases h with h | ⟨a, e, f, o⟩
    · exact .inl (h.mono x.f)
    · exact .inr ⟨a, e, x.keepNone f o.there, o.mono x.f x.h⟩
  | fz => exact Rep.mono x.f h
  | fr =>
    obtain ⟨a, e, h0, f, o⟩ := h
    exact ⟨a, e, h0, x.keepNone f o.there, o.mono x.f x.h⟩
def SlOk (K : PySem.W.Frag) (F H G : Hp) (o : Option V) : Sl → Prop
  | .un => True
  | .im d => ∃ v, o = some v ∧ Rep K F v d
  | .ow d => ∃ a, o = some (.ref a) ∧ F a = none ∧ G a = none ∧ Own K F H a d
/-- the state of a def's names -/
structure Rel (K : PySem.W.Frag) (B : Bs) (F H : Hp) (σ : L2.St) (ρ : Rho) : Prop where
  len : σ.length = ρ.length
  f0 : Same B.F0 F
  g : Same B.G H
  fh : Same F H
  nw : New B.F0 F B.G
  sl : ∀ (i : Nat) (o : Option V) (s : Sl), σ[i]? = some o → ρ[i]? = some s → SlOk K F H B.G o s
  sep : ∀ (i j : Nat) (d e : D) (a : Addr), i ≠ j → ρ[i]? = some (.ow d) → ρ[j]? = some (.ow e) → σ[i]? = some (some (.ref a)) → σ[j]? ≠ some (some (.ref a))
theorem SlOk.mono {K : PySem.W.Frag} {F H F' H' G : Hp} {o : Option V} {s : Sl} (h : SlOk K F H G o s) (x : Ext F H F' H') : SlOk K F' H' G o s := by
  cases s with
  | un => trivial
  | im d => obtain ⟨v, e, r⟩ := h; exact ⟨v, e, r.mono x.f⟩
  | ow d => obtain ⟨a, e, f, g, o⟩ := h; exact ⟨a, e, x.keepNone f o.there, g, o.mono x.f x.h⟩
theorem Rel.ext {K : PySem.W.Frag} {B : Bs} {F H F' H' : Hp} {σ : L2.St} {ρ : Rho} (r : Rel K B F H σ ρ) (x : Ext F H F' H') : Rel K B F' H' σ ρ :=
  ⟨r.len, r.f0.trans x.f, r.g.trans x.h, x.s, fun a q => (x.n a q).elim (r.nw a) fun z => .inr (r.g.free z), fun i o s h1 h2 => (r.sl i o s h1 h2).mono x, r.sep⟩

/-! ### readings and what they give -/
def SemE (K : PySem.W.Frag) (m : Md) (t : TE) (f : Rho → Option D) : Prop :=
  ∀ (B : Bs) (F H : Hp) (σ : L2.St) (ρ : Rho) (d : D) (Q : VK), Rel K B F H σ ρ → f ρ = some d → (∀ v F' H', Ext F H F' H' → Res K m H F' H' v d → Q v H') → t σ H Q
def SemT (K : PySem.W.Frag) (t : TT) (f : Rho → Option Bool) : Prop :=
  ∀ (B : Bs) (F H : Hp) (σ : L2.St) (ρ : Rho) (b : Bool) (Q : Bool → Hp → Prop), Rel K B F H σ ρ → f ρ = some b → (∀ F' H', Ext F H F' H' → Q b H') → t σ H Q
inductive ResA (K : PySem.W.Frag) (m : Md) (H0 F H : Hp) : List V → List D → Prop
  | nil : ResA K m H0 F H [] []
  | cons {v vs d ds} : Res K m H0 F H v d → ResA K m H0 F H vs ds → ResA K m H0 F H (v :: vs) (d :: ds)
theorem ResA.mono {K : PySem.W.Frag} {m : Md} {H0 F H F' H' : Hp} (x : Ext F H F' H') : ∀ {vs : List V} {ds : List D}, ResA K m H0 F H vs ds → ResA K m H0 F' H' vs ds
  | _, _, .nil => .nil
  | _, _, .cons h r => .cons (h.mono x) (ResA.mono x r)
theorem ResA.rep {K : PySem.W.Frag} {H0 F H : Hp} : ∀ {vs : List V} {ds : List D}, ResA K .fz H0 F H vs ds → RepA K F vs ds
  | _, _, .nil => .nil
  | _, _, .cons h r => .cons h (ResA.rep r)
theorem ResA.length {K : PySem.W.Frag} {m : Md} {H0 F H : Hp} : ∀ {vs : List V} {ds : List D}, ResA K m H0 F H vs ds → vs.length = ds.length
  | _, _, .nil => rfl
  | _, _, .cons _ r => congrArg Nat.succ (ResA.length r)
def SemA (K : PySem.W.Frag) (m : Md) (t : TA) (f : Rho → Option (List D)) : Prop :=
  ∀ (B : Bs) (F H : Hp) (σ : L2.St) (ρ : Rho) (ds : List D) (Q : List V → Hp → Prop), Rel K B F H σ ρ → f ρ = some ds → (∀ vs F' H', Ext F H F' H' → ResA K m H F' H' vs ds → Q vs H') → t σ H Q
structure DE (X : Cx) (m : Md) (e : Expr) (t : TE) (f : Rho → Option D) : Prop where
  p : PE X e t
  s : SemE X.K m t f
structure DT (X : Cx) (e : Expr) (t : TT) (f : Rho → Option Bool) : Prop where
  p : PT X e t
  s : SemT X.K t f
structure DA (X : Cx) (m : Md) (es : List Expr) (t : TA) (f : Rho → Option (List D)) : Prop where
  p : PA X es t
  s : SemA X.K m t f
  n : ∀ ρ ds, f ρ = some ds → ds.length = es.length
/-! ### modes -/
theorem fr_pk {K : PySem.W.Frag} {H0 F H : Hp} {v : V} {d : D} (h : Res K .fr H0 F H v d) : Res K .pk H0 F H v d := by
  obtain ⟨a, e, _, f, o⟩ := h
  exact .inr ⟨a, e, f, o⟩
theorem fz_pk {K : PySem.W.Frag} {H0 F H : Hp} {v : V} {d : D} (h : Res K .fz H0 F H v d) : Res K .pk H0 F H v d := .inl h
theorem same_upd {F : Hp} {a : Addr} {o : HO} (h : F a = none) : Same F (upd F a o) := fun b u q => by rw [upd_ne (ne_of_none q h)]; exact q
theorem new_upd {F H : Hp} {a : Addr} {o : HO} (h : H a = none) : New F (upd F a o) H := fun b q => by
  by_cases e : b = a
  · subst e; exact .inr h
  · rw [upd_ne e] at q; exact .inl q
theorem same_upd2 {F H : Hp} {a : Addr} {o : HO} (h : Same F H) (e : H a = some o) (f : F a = none) : Same (upd F a o) H := fun b u q => by
  by_cases z : b = a
  · subst z; rw [upd_same] at q; cases q; exact e
  · rw [upd_ne z] at q; exact h _ _ q
/-- a new object is frozen -/
theorem fr_fz {K : PySem.W.Frag} {F H F' H' : Hp} {v : V} {d : D} (x : Ext F H F' H') (h : Res K .fr H F' H' v d) : ∃ F2, Ext F H F2 H' ∧ Res K .fz H F2 H' v d := by
  obtain ⟨a, rfl, h0, f, o⟩ := h
  cases d with
  | list ds =>
    obtain ⟨vs, e, r⟩ := o
    have s1 : Same F' (upd F' a (.lst vs)) := same_upd f
    refine ⟨upd F' a (.lst vs), ⟨x.f.trans s1, x.h, fun c q => ?_, same_upd2 x.s e f⟩, .lst (.of upd_same) (r.mono s1)⟩
    by_cases z : c = a
    · subst z; exact .inr h0
    · rw [upd_ne z] at q; exact x.n c q
  | dict es =>
    obtain ⟨vs, e, r⟩ := o
    have s1 : Same F' (upd F' a (.dK vs)) := same_upd f
    refine ⟨upd F' a (.dK vs), ⟨x.f.trans s1, x.h, fun c q => ?_, same_upd2 x.s e f⟩, .dct (.of upd_same) (r.mono s1)⟩
    by_cases z : c = a
    · subst z; exact .inr h0
    · rw [upd_ne z] at q; exact x.n c q
  | _ => exact o.elim
theorem DE.frz {X : Cx} {e : Expr} {t : TE} {f : Rho → Option D} (h : DE X .fr e t f) : DE X .fz e t f := ⟨h.p, fun B F H σ ρ d Q r hf q => h.s B F H σ ρ d Q r hf fun v F' H' x rs => by
  obtain ⟨F2, x2, r2⟩ := fr_fz x rs
  exact q v F2 H' x2 r2⟩
theorem DE.frp {X : Cx} {e : Expr} {t : TE} {f : Rho → Option D} (h : DE X .fr e t f) : DE X .pk e t f := ⟨h.p, fun B F H σ ρ d Q r hf q => h.s B F H σ ρ d Q r hf fun v F' H' x rs => q v F' H' x (fr_pk rs)⟩
theorem DE.fzp {X : Cx} {e : Expr} {t : TE} {f : Rho → Option D} (h : DE X .fz e t f) : DE X .pk e t f := ⟨h.p, fun B F H σ ρ d Q r hf q => h.s B F H σ ρ d Q r hf fun v F' H' x rs => q v F' H' x (fz_pk rs)⟩
/-! ### names, constants -/
def vF (i : Nat) : Rho → Option D := fun ρ => match ρ[i]? with
  | some (.im d) => some d
  | _ => none
def vP (i : Nat) : Rho → Option D := fun ρ => match ρ[i]? with
  | some (.im d) => some d
  | some (.ow d) => some d
  | _ => none
def cD (d : D) : Rho → Option D := fun _ => some d
theorem Rel.at {K : PySem.W.Frag} {B : Bs} {F H : Hp} {σ : L2.St} {ρ : Rho} (r : Rel K B F H σ ρ) {i : Nat} {s : Sl} (h : ρ[i]? = some s) : ∃ o, σ[i]? = some o ∧ SlOk K F H B.G o s := by
  have hi : i < σ.length := by rw [r.len]; exact (List.getElem?_eq_some_iff.mp h).1
  exact ⟨σ[i], List.getElem?_eq_getElem hi, r.sl i _ s (List.getElem?_eq_getElem hi) h⟩
section
variable {X : Cx} {pos : Pos}
theorem sem_varF {K : PySem.W.Frag} {i : Nat} : SemE K .fz (tVar i) (vF i) := fun B F H σ ρ d Q r hf q => by
  unfold vF at hf
  split at hf
  · rename_i d' e
    cases hf
    obtain ⟨o, h1, v, rfl, h2⟩ := r.at e
    exact ⟨v, h1, q v F H (.refl r.fh) h2⟩
  · cases hf
theorem sem_varP {K : PySem.W.Frag} {i : Nat} : SemE K .pk (tVar i) (vP i) := fun B F H σ ρ d Q r hf q => by
  unfold vP at hf
  split at hf
  · rename_i d' e
    cases hf
    obtain ⟨o, h1, v, rfl, h2⟩ := r.at e
    exact ⟨v, h1, q v F H (.refl r.fh) (.inl h2)⟩
  · rename_i d' e
    cases hf
    obtain ⟨o, h1, a, rfl, h2, h3, h4⟩ := r.at e
    exact ⟨_, h1, q _ F H (.refl r.fh) (.inr ⟨a, rfl, h2, h4⟩)⟩
  · cases hf
theorem de_v (i : Nat) {x : Str} (hN : X.N[i]? = some x := by rfl) (hv : Vis X.env.scope x := by first | exact Or.inl rfl | exact Or.inr (Or.inl rfl) | exact Or.inr (Or.inr rfl)) (hd : (x == ("__debug__" : Str)) = false := by decide)
    (hcd : (x == ("__classdict__" : Str)) = false := by decide) : DE X .fz (.Name x pos) (tVar i) (vF i) := ⟨pe_var hN hv hd hcd, sem_varF⟩
theorem de_p (i : Nat) {x : Str} (hN : X.N[i]? = some x := by rfl) (hv : Vis X.env.scope x := by first | exact Or.inl rfl | exact Or.inr (Or.inl rfl) | exact Or.inr (Or.inr rfl)) (hd : (x == ("__debug__" : Str)) = false := by decide)
    (hcd : (x == ("__classdict__" : Str)) = false := by decide) : DE X .pk (.Name x pos) (tVar i) (vP i) := ⟨pe_var hN hv hd hcd, sem_varP⟩
theorem sem_c {K : PySem.W.Frag} {v : V} {d : D} (h : ∀ F, Rep K F v d) : SemE K .fz (tC v) (cD d) := fun B F H σ ρ d' Q r hf q => by
  cases hf
  exact q v F H (.refl r.fh) (h F)
theorem de_int {i : Int} {j : Nat} : DE X .fz (.Constant (.int i) j pos) (tC (.int i)) (cD (.int i)) := ⟨pe_int, sem_c fun _ => .int i⟩
theorem de_bl {b : Bool} {j : Nat} : DE X .fz (.Constant (.bool b) j pos) (tC (.bl b)) (cD (.bool b)) := ⟨pe_bl, sem_c fun _ => .bl b⟩
theorem de_non {j : Nat} : DE X .fz (.Constant .none j pos) (tC .non) (cD .none) := ⟨pe_non, sem_c fun _ => .non⟩
theorem de_str {x : Str} {j : Nat} : DE X .fz (.Constant (.str x) j pos) (tC (.str x)) (cD (.str x)) := ⟨pe_str, sem_c fun _ => .str x⟩
theorem de_globI {x : Str} {i : Int} (hg : Gl X x) (hm : ∃ t, X.mg x = some (.int i t)) (hd : (x == ("__debug__" : Str)) = false := by decide) : DE X .fz (.Name x pos) (tC (.int i)) (cD (.int i)) := by
  obtain ⟨t, hm⟩ := hm
  exact ⟨pe_glob hg hm ⟨t, rfl⟩ hd, sem_c fun _ => .int i⟩
theorem de_globS {x : Str} {z : Str} (hg : Gl X x) (hm : ∃ t, X.mg x = some (.str z t)) (hd : (x == ("__debug__" : Str)) = false := by decide) : DE X .fz (.Name x pos) (tC (.str z)) (cD (.str z)) := by
  obtain ⟨t, hm⟩ := hm
  exact ⟨pe_glob hg hm ⟨t, rfl⟩ hd, sem_c fun _ => .str z⟩
end
end Q
end

/-! part: Q2 -/
section
set_option Elab.async false
set_option linter.all false
set_option maxRecDepth 100000
set_option maxHeartbeats 4000000
namespace Q
open PySem PySem.Spec PyProof.Rows L2
/-! ### what a value known by Res gives -/
section
variable {K : PySem.W.Frag} {m : Md} {H0 F H : Hp} {v : V} {d : D}
theorem Res.any (h : Res K m H0 F H v d) : Res K .pk H0 F H v d := by
  cases m with
  | pk => exact h
  | fz => exact fz_pk h
  | fr => exact fr_pk h
/-- as data over the whole heap -/
theorem Res.dp (h : Res K m H0 F H v d) (fh : Same F H) (n : nd d = true) : Dp K H v d := by
  rcases h.any with h | ⟨a, rfl, _, o⟩
  · exact (h.mono fh).dp n
  · cases d with
    | list ds => obtain ⟨vs, e, r⟩ := o; exact .lst (.of e) ((r.mono fh).dp (by rw [nd] at n; exact n))
    | dict es => rw [nd] at n; cases n
    | _ => exact o.elim
theorem Res.list {ds : List D} (h : Res K m H0 F H v (.list ds)) (fh : Same F H) : ∃ a xs, v = .ref a ∧ SqL K H a xs ∧ RepA K F xs ds := by
  rcases h.any with h | ⟨a, rfl, _, o⟩
  · cases h with
    | lst h1 r => exact ⟨_, _, rfl, fh.seq h1, r⟩
  · obtain ⟨vs, e, r⟩ := o
    exact ⟨a, vs, rfl, .of e, r⟩
theorem Res.rep (h : Res K m H0 F H v d) (n : ∀ ds, d ≠ .list ds) (n2 : ∀ es, d ≠ .dict es) : Rep K F v d := by
  rcases h.any with h | ⟨a, rfl, _, o⟩
  · exact h
  · cases d with
    | list ds => exact absurd rfl (n ds)
    | dict ds => exact absurd rfl (n2 ds)
    | _ => exact o.elim
theorem Res.tup {ds : List D} (h : Res K m H0 F H v (.tuple ds)) (fh : Same F H) : ∃ a xs, v = .ref a ∧ TupAt K H a xs ∧ RepA K F xs ds := by
  cases h.rep (fun _ z => nomatch z) (fun _ z => nomatch z) with
  | tup h1 r => exact ⟨_, _, rfl, TupAt.mono fh h1, r⟩
theorem Res.int {i : Int} (h : Res K m H0 F H v (.int i)) : v = .int i := (h.rep (fun _ z => nomatch z) (fun _ z => nomatch z)).int_of
theorem Res.bl {i : Bool} (h : Res K m H0 F H v (.bool i)) : v = .bl i := (h.rep (fun _ z => nomatch z) (fun _ z => nomatch z)).bl_of
theorem Res.str {i : Str} (h : Res K m H0 F H v (.str i)) : v = .str i := (h.rep (fun _ z => nomatch z) (fun _ z => nomatch z)).str_of
theorem Res.non (h : Res K m H0 F H v .none) : v = .non := (h.rep (fun _ z => nomatch z) (fun _ z => nomatch z)).non_of
theorem Res.back {F1 H1 : Hp} (h : Res K m H1 F H v d) (s : Same H0 H1) : Res K m H0 F H v d := by
  cases m with
  | pk => exact h
  | fz => exact h
  | fr =>
    obtain ⟨a, e, h0, r⟩ := h
    exact ⟨a, e, s.free h0, r⟩
end
/-- freezing a new tuple, a new list -/
theorem ext_new {F H F' H' : Hp} (x : Ext F H F' H') {a : Addr} {o : HO} (h : H' a = none) : Ext F H (upd F' a o) (upd H' a o) := by
  have hf : F' a = none := by
    cases q : F' a with
    | none => rfl
    | some u => rw [x.s _ _ q] at h; cases h
  refine ⟨x.f.trans (same_upd hf), x.h.trans (same_upd h), fun c q => ?_, fun b u q => ?_⟩
  · by_cases z : c = a
    · subst z; exact .inr (x.h.free h)
    · rw [upd_ne z] at q; exact x.n c q
  · by_cases z : b = a
    · subst z; rw [upd_same] at q ⊢; exact q
    · rw [upd_ne z] at q ⊢; exact x.s _ _ q
theorem ext_own {F H F' H' : Hp} (x : Ext F H F' H') {a : Addr} {o : HO} (h : H' a = none) : Ext F H F' (upd H' a o) :=
  ⟨x.f, x.h.trans (same_upd h), x.n, x.s.trans (same_upd h)⟩
theorem free_of {F H : Hp} (s : Same F H) {a : Addr} (h : H a = none) : F a = none := s.free h

/-! ### operations by values -/
/-- what a two-place operation gives of data -/
def OpS (K : PySem.W.Frag) (m : Md) (r : R2) (g : D → D → Option D) : Prop :=
  ∀ (F H Ha Hb : Hp) (x y : V) (d e z : D) (Q : VK), Same F H → Res K .pk Ha F H x d → Res K .pk Hb F H y e → g d e = some z → (∀ v F' H', Ext F H F' H' → Res K m H F' H' v z → Q v H') → r x y H Q
def f2 (g : D → D → Option D) (fa fb : Rho → Option D) : Rho → Option D := fun ρ => (fa ρ).bind fun x => (fb ρ).bind fun y => g x y
def f1 (g : D → Option D) (fa : Rho → Option D) : Rho → Option D := fun ρ => (fa ρ).bind g
theorem bind_some {α β : Type} {o : Option α} {g : α → Option β} {z : β} (h : o.bind g = some z) : ∃ x, o = some x ∧ g x = some z := by
  cases o with
  | none => cases h
  | some x => exact ⟨x, rfl, h⟩
theorem sem_op {K : PySem.W.Frag} {m m1 m2 : Md} {ta tb : TE} {r : R2} {g : D → D → Option D} {fa fb : Rho → Option D} (hs : OpS K m r g) (ha : SemE K m1 ta fa) (hb : SemE K m2 tb fb) : SemE K m (tOp r ta tb) (f2 g fa fb) := by
  intro B F H σ ρ z Q rel hf q
  obtain ⟨d, h1, h2⟩ := bind_some hf
  obtain ⟨e, h3, h4⟩ := bind_some h2
  refine ha B F H σ ρ d _ rel h1 fun x F1 H1 x1 r1 => ?_
  refine hb B F1 H1 σ ρ e _ (rel.ext x1) h3 fun y F2 H2 x2 r2 => ?_
  refine hs F2 H2 H H1 x y d e z Q x2.s (r1.mono x2).any r2.any h4 fun v F' H' x3 r3 => ?_
  exact q v F' H' ((x1.trans x2).trans x3) (r3.back (F1 := F1) (x1.h.trans x2.h))
section
variable {X : Cx} {a b c : Expr} {ta tb tc : TE} {pos : Pos} {m m1 m2 m3 : Md} {r : R2} {g : D → D → Option D} {fa fb fc : Rho → Option D}
theorem de_op {op : Operator} (ho : OpR X (binaryOp op) r) (hs : OpS X.K m r g) (ha : DE X m1 a ta fa) (hb : DE X m2 b tb fb) : DE X m (.BinOp a op b pos) (tOp r ta tb) (f2 g fa fb) :=
  ⟨pe_op ho ha.p hb.p, sem_op hs ha.s hb.s⟩
theorem de_cmp {op : CmpOp} (ho : OpR X (compareOp op) r) (hs : OpS X.K m r g) (hm : behindInMarks op b = false) (ha : DE X m1 a ta fa) (hb : DE X m2 b tb fb) : DE X m (.Compare a [op] [b] pos) (tOp r ta tb) (f2 g fa fb) :=
  ⟨pe_cmpR ho ha.p hb.p hm, sem_op hs ha.s hb.s⟩
def boolD : D → Option Bool
  | .bool b => some b
  | _ => none
def fT (f : Rho → Option D) : Rho → Option Bool := fun ρ => (f ρ).bind boolD
theorem boolD_some {d : D} {b : Bool} (h : boolD d = some b) : d = .bool b := by
  cases d with
  | bool c => cases h; rfl
  | _ => cases h
theorem sem_test {K : PySem.W.Frag} {t : TE} {f : Rho → Option D} (h : SemE K m t f) : SemT K (tTest t) (fT f) := by
  intro B F H σ ρ b Q rel hf q
  obtain ⟨d, h1, h2⟩ := bind_some hf
  cases boolD_some h2
  refine h B F H σ ρ _ _ rel h1 fun x F1 H1 x1 r1 => ?_
  exact ⟨b, r1.bl, q F1 H1 x1⟩
theorem dt_cmp {op : CmpOp} (ho : OpR X (compareOp op) r) (hs : OpS X.K .fz r g) (hm : behindInMarks op b = false) (ha : DE X m1 a ta fa) (hb : DE X m2 b tb fb) : DT X (.Compare a [op] [b] pos) (tTest (tOp r ta tb)) (fT (f2 g fa fb)) :=
  ⟨pt_cmpR ho ha.p hb.p hm, sem_test (sem_op hs ha.s hb.s)⟩
/-! ints -/
theorem ops_I0 {K : PySem.W.Frag} {f : Int → Int → V} {g : D → D → Option D} {h : Int → Int → D} (hr : ∀ F i j, Rep K F (f i j) (h i j)) (hg : ∀ d e z, g d e = some z → ∃ i j, d = .int i ∧ e = .int j ∧ z = h i j) : OpS K .fz (rI0 f) g := by
  intro F H Ha Hb x y d e z Q fh r1 r2 hz q
  obtain ⟨i, j, rfl, rfl, rfl⟩ := hg d e z hz
  exact ⟨i, j, r1.int, r2.int, q _ F H (.refl fh) (hr F i j)⟩
theorem ops_I {K : PySem.W.Frag} {C : Int → Int → Prop} {f : Int → Int → V} {g : D → D → Option D} {h : Int → Int → D} (hr : ∀ F i j, Rep K F (f i j) (h i j)) (hg : ∀ d e z, g d e = some z → ∃ i j, d = .int i ∧ e = .int j ∧ C i j ∧ z = h i j) : OpS K .fz (rI C f) g := by
  intro F H Ha Hb x y d e z Q fh r1 r2 hz q
  obtain ⟨i, j, rfl, rfl, hc, rfl⟩ := hg d e z hz
  exact ⟨i, j, r1.int, r2.int, hc, q _ F H (.refl fh) (hr F i j)⟩
theorem OpS.or {K : PySem.W.Frag} {r r' : R2} {g g' : D → D → Option D} (h : OpS K m r g) (h' : OpS K m r' g') : OpS K m (fun x y H Q => r x y H Q ∨ r' x y H Q) (fun d e => (g d e).orElse fun _ => g' d e) := by
  intro F H Ha Hb x y d e z Q fh r1 r2 hz q
  have hz' : ((g d e).orElse fun _ => g' d e) = some z := hz
  cases hg : g d e with
  | some w =>
    rw [hg] at hz'
    cases hz'
    exact .inl (h F H Ha Hb x y d e z Q fh r1 r2 hg q)
  | none =>
    rw [hg] at hz'
    have e1 : g' d e = some z := hz'
    exact .inr (h' F H Ha Hb x y d e z Q fh r1 r2 e1 q)
theorem OpS.imp {K : PySem.W.Frag} {r : R2} {g g' : D → D → Option D} (h : OpS K m r g) (e : ∀ d e z, g' d e = some z → g d e = some z) : OpS K m r g' :=
  fun F H Ha Hb x y d e' z Q fh r1 r2 hz q => h F H Ha Hb x y d e' z Q fh r1 r2 (e _ _ _ hz) q
end
def subD : D → D → Option D
  | .int i, .int j => some (.int (i - j))
  | _, _ => none
/-- one factor below 2 ^ 64 -/
def mulI (i j : Int) : Option D := if (-(2 ^ 64) < i ∧ i < 2 ^ 64) ∨ (-(2 ^ 64) < j ∧ j < 2 ^ 64) then some (.int (i * j)) else none
def mulD : D → D → Option D
  | .int i, .int j => mulI i j
  | _, _ => none
def fdivD : D → D → Option D
  | .int i, .int j => if j ≠ 0 ∧ j.natAbs < 1073741824 then some (.int (i.fdiv j)) else none
  | _, _ => none
def modD : D → D → Option D
  | .int i, .int j => if j ≠ 0 then some (.int (i.fmod j)) else none
  | _, _ => none
def powD : D → D → Option D
  | .int i, .int j => if 0 ≤ j ∧ j ≤ 1000000 ∧ i.natAbs < 2 ^ 64 then some (.int (i ^ j.toNat)) else none
  | _, _ => none
section
variable {K : PySem.W.Frag}
theorem two_ints {g : D → D → Option D} {d e z : D} {h : Int → Int → Option D} (hz : g d e = some z) (hg : g = fun d e => match d, e with
  | .int i, .int j => h i j
  | _, _ => none) : ∃ i j, d = .int i ∧ e = .int j ∧ h i j = some z := by
  subst hg
  cases d with
  | int i =>
    cases e with
    | int j => exact ⟨i, j, rfl, rfl, hz⟩
    | _ => cases hz
  | _ => cases hz
theorem if_some {α : Type} {p : Prop} [Decidable p] {x z : α} (h : (if p then some x else none) = some z) : p ∧ x = z := by
  by_cases hp : p
  · rw [if_pos hp] at h; exact ⟨hp, Option.some.inj h⟩
  · rw [if_neg hp] at h; cases h
theorem ops_sub : OpS K .fz (rI0 fun i j => .int (i - j)) subD := ops_I0 (h := fun i j => .int (i - j)) (fun _ _ _ => .int _) fun d e z hz => by
  obtain ⟨i, j, h1, h2, h3⟩ := two_ints (h := fun i j => some (.int (i - j))) hz (by funext d e; cases d <;> cases e <;> rfl)
  exact ⟨i, j, h1, h2, (Option.some.inj h3).symm⟩
theorem ops_mul : OpS K .fz (rI CMul fun i j => .int (i * j)) mulD := ops_I (h := fun i j => .int (i * j)) (fun _ _ _ => .int _) fun d e z hz => by
  obtain ⟨i, j, h1, h2, h3⟩ := two_ints (h := mulI) hz (by funext d e; cases d <;> cases e <;> rfl)
  obtain ⟨h4, h5⟩ := if_some h3
  exact ⟨i, j, h1, h2, h4, h5.symm⟩
theorem ops_fdiv : OpS K .fz (rI CDivN fun i j => .int (i.fdiv j)) fdivD := ops_I (h := fun i j => .int (i.fdiv j)) (fun _ _ _ => .int _) fun d e z hz => by
  obtain ⟨i, j, h1, h2, h3⟩ := two_ints (h := fun i j => if j ≠ 0 ∧ j.natAbs < 1073741824 then some (.int (i.fdiv j)) else none) hz (by funext d e; cases d <;> cases e <;> rfl)
  obtain ⟨h4, h5⟩ := if_some h3
  exact ⟨i, j, h1, h2, h4, h5.symm⟩
theorem ops_mod : OpS K .fz (rI (fun _ j => j ≠ 0) fun i j => .int (i.fmod j)) modD := ops_I (h := fun i j => .int (i.fmod j)) (fun _ _ _ => .int _) fun d e z hz => by
  obtain ⟨i, j, h1, h2, h3⟩ := two_ints (h := fun i j => if j ≠ 0 then some (.int (i.fmod j)) else none) hz (by funext d e; cases d <;> cases e <;> rfl)
  obtain ⟨h4, h5⟩ := if_some h3
  exact ⟨i, j, h1, h2, h4, h5.symm⟩
theorem ops_pow : OpS K .fz (rI CPow fun i j => .int (i ^ j.toNat)) powD := ops_I (h := fun i j => .int (i ^ j.toNat)) (fun _ _ _ => .int _) fun d e z hz => by
  obtain ⟨i, j, h1, h2, h3⟩ := two_ints (h := fun i j => if 0 ≤ j ∧ j ≤ 1000000 ∧ i.natAbs < 2 ^ 64 then some (.int (i ^ j.toNat)) else none) hz (by funext d e; cases d <;> cases e <;> rfl)
  obtain ⟨h4, h5⟩ := if_some h3
  exact ⟨i, j, h1, h2, h4, h5.symm⟩
end

/-! ### a new tuple whose object is known -/
section
variable {X : Cx} {pins : List (Addr × Obj)} {σ : L2.St} {H : Hp} {s : Shared}
abbrev tupObj (its : Array Value) : Obj := { cls := .type "tuple", data := .seq its }
theorem _root_.L2.Inv.laidT {its : List Value} {xs : List V} {t' : Nat} (I : Inv X pins σ H s) (hv : Vals xs its) (hz : xs.length ≤ sizeLine) :
    Inv X pins σ (upd H s.heap.objs.size (.frz (tupObj its.toArray) (.tup xs))) { s with heap := s.heap.push (tupObj its.toArray), toks := t' } :=
  I.laid (fun _ _ q => Heap.get?_push_of_some _ q) (Nat.le_refl _) ⟨Heap.get?_push_size _ rfl, hz, its, hv, IsTup.new _ _⟩
end
/-- what a rule hands on of a new tuple -/
def NewT (xs : List V) (H : Hp) (Q : VK) : Prop := ∀ (p : Addr) (o : Obj), H p = none → o.cls = .type "tuple" → o.dict = none → Q (.ref p) (upd H p (.frz o (.tup xs)))
theorem newT_rep {K : PySem.W.Frag} {F H F' H' : Hp} {xs : List V} {ds : List D} (x : Ext F H F' H') (r : RepA K F' xs ds) {Q : VK} (q : ∀ v F2 H2, Ext F H F2 H2 → Rep K F2 v (.tuple ds) → Q v H2) : NewT xs H' Q := by
  intro p o hp h1 h2
  have x2 := ext_new (o := .frz o (.tup xs)) x hp
  exact q _ _ _ x2 (.tup (.inl ⟨o, upd_same, h1, h2⟩) (r.mono (same_upd (x.s.free hp))))
def NewL (xs : List V) (H : Hp) (Q : VK) : Prop := ∀ (p : Addr), H p = none → Q (.ref p) (upd H p (.lst xs))
theorem newL_res {K : PySem.W.Frag} {F H F' H' : Hp} {xs : List V} {ds : List D} (x : Ext F H F' H') (r : RepA K F' xs ds) {Q : VK} (q : ∀ v F2 H2, Ext F H F2 H2 → Res K .fr H F2 H2 v (.list ds) → Q v H2) : NewL xs H' Q := by
  intro p hp
  exact q _ _ _ (ext_own (o := .lst xs) x hp) ⟨p, rfl, x.h.free hp, x.s.free hp, xs, upd_same, r⟩
/-! ### + -/
def rCatF (K : PySem.W.Frag) : R2 := fun x y H Q => ∃ a b xs ys, x = .ref a ∧ y = .ref b ∧ SqT K H a xs ∧ SqT K H b ys ∧ xs.length + ys.length ≤ sizeLine ∧
  (xs = [] → Q (.ref b) H) ∧ (xs ≠ [] → ys = [] → Q (.ref a) H) ∧ (xs ≠ [] → ys ≠ [] → NewT (xs ++ ys) H Q)
def rCatL (K : PySem.W.Frag) : R2 := fun x y H Q => ∃ a b xs ys, x = .ref a ∧ y = .ref b ∧ SqL K H a xs ∧ SqL K H b ys ∧ xs.length + ys.length ≤ sizeLine ∧ NewL (xs ++ ys) H Q
section
variable {X : Cx}
theorem op_catF : OpR X (binaryOp .Add) (rCatF X.K) := by
  intro pins s σ H x y v u Q I rx ry h
  obtain ⟨a, b, xs, ys, rfl, rfl, ha, hb, hz, q0, q1, q2⟩ := h
  cases rx
  cases ry
  obtain ⟨its, r1, p1, _⟩ := I.tuple ha
  obtain ⟨its2, r2, p2, _⟩ := I.tuple hb
  by_cases hx : xs = []
  · subst hx
    cases r1
    exact cat_tup0 p1 p2 ⟨.ref b, H, I, rfl, q0 rfl⟩
  · refine HT.cat_tup p1 p2 (fun z => hx (r1.nil_iff.mp z)) (fun z => ⟨.ref a, H, I, rfl, q1 hx (r2.nil_iff.mp z)⟩) (fun z => ?_) (by rw [← r1.length, ← r2.length]; exact hz)
    exact ⟨.ref s.heap.objs.size, _, I.laidT (t' := s.toks) (r1.append r2) (by rw [List.length_append]; exact hz), rfl, q2 hx (fun w => z (r2.nil_iff.mpr w)) _ _ (I.hok.fresh (Nat.le_refl _)) rfl rfl⟩
theorem op_catLL : OpR X (binaryOp .Add) (rCatL X.K) := by
  intro pins s σ H x y v u Q I rx ry h
  obtain ⟨a, b, xs, ys, rfl, rfl, ha, hb, hz, q⟩ := h
  cases rx
  cases ry
  obtain ⟨its, r1, ⟨⟨c1, dd1, dt1, sl1⟩, n1, e1, hc1, hd1, hs1⟩, _⟩ := I.list ha
  obtain ⟨its2, r2, ⟨⟨c2, dd2, dt2, sl2⟩, n2, e2, hc2, hd2, hs2⟩, _⟩ := I.list hb
  simp only at hc1 hd1 hs1 hc2 hd2 hs2
  subst hc1 hd1 hs1 hc2 hd2 hs2
  have hz2 : its.toArray.size + its2.toArray.size ≤ sizeLine := by rw [List.size_toArray, List.size_toArray, ← r1.length, ← r2.length]; exact hz
  refine concat_meets ⟨_, e1, rfl⟩ ⟨_, e2, rfl⟩ noFill_list_add seq_list_add PySem.F.slot_list_add PySem.F.entry_list_add (PySem.F.args_list_add_2 _ _) (list_addW a b its.toArray its2.toArray n1 n2 none none sl1 sl2 hz2) ⟨e1, e2, ?_⟩
  have ea : its.toArray ++ its2.toArray = (its ++ its2).toArray := by simp
  rw [ea]
  exact ⟨.ref s.heap.objs.size, _, I.lnew (t' := s.toks) (r1.append r2) (by rw [List.length_append]; exact hz), rfl, q _ I.fresh⟩
theorem op_catLLK (K' : PySem.W.Frag) (hK : X.K = K' := by rfl) : OpR X (binaryOp .Add) (rCatL K') := by
  subst hK
  exact op_catLL 
end
def addD : D → D → Option D
  | .int i, .int j => some (.int (i + j))
  | .str a, .str b => if a.length + b.length ≤ sizeLine then some (.str (a ++ b)) else none
  | .tuple xs, .tuple ys => if xs.length + ys.length ≤ sizeLine then some (.tuple (xs ++ ys)) else none
  | .list xs, .list ys => if xs.length + ys.length ≤ sizeLine then some (.list (xs ++ ys)) else none
  | _, _ => none
def catLD : D → D → Option D
  | .list xs, .list ys => if xs.length + ys.length ≤ sizeLine then some (.list (xs ++ ys)) else none
  | _, _ => none
def addB : D → D → Option D
  | .int i, .int j => some (.int (i + j))
  | .str a, .str b => if a.length + b.length ≤ sizeLine then some (.str (a ++ b)) else none
  | .tuple xs, .tuple ys => if xs.length + ys.length ≤ sizeLine then some (.tuple (xs ++ ys)) else none
  | _, _ => none
def rAddA (K : PySem.W.Frag) : R2 := fun x y H Q => (rI0 (fun i j => .int (i + j)) x y H Q ∨ (∃ i j, x = .str i ∧ y = .str j ∧ i.length + j.length ≤ sizeLine ∧ Q (.str (i ++ j)) H)) ∨ (rCatF K x y H Q ∨ rCatL K x y H Q)
theorem op_addA {X : Cx} : OpR X (binaryOp .Add) (rAddA X.K) := (op_add.or op_add_str).or (op_catF.or op_catLL)
theorem op_addAK {X : Cx} (K' : PySem.W.Frag) (hK : X.K = K' := by rfl) : OpR X (binaryOp .Add) (rAddA K') := by
  subst hK
  exact op_addA 
theorem ops_catL {K : PySem.W.Frag} : OpS K .fr (rCatL K) catLD := by
  intro F H Ha Hb x y d e z Q fh r1 r2 hz q
  cases d with
  | list xs =>
    cases e with
    | list ys =>
      obtain ⟨hl, rfl⟩ := if_some hz
      obtain ⟨a, vs, rfl, s1, p1⟩ := r1.list fh
      obtain ⟨b, ws, rfl, s2, p2⟩ := r2.list fh
      exact ⟨a, b, vs, ws, rfl, rfl, s1, s2, by rw [p1.length, p2.length]; exact hl, newL_res (.refl fh) (p1.append p2) q⟩
    | _ => cases hz
  | _ => cases hz
theorem ops_addA {K : PySem.W.Frag} : OpS K .fz (rAddA K) addD := by
  intro F H Ha Hb x y d e z Q fh r1 r2 hz q
  cases d with
  | int i =>
    cases e with
    | int j => cases hz; exact .inl (.inl ⟨i, j, r1.int, r2.int, q _ F H (.refl fh) (Rep.int _)⟩)
    | _ => cases hz
  | str i =>
    cases e with
    | str j =>
      obtain ⟨hl, rfl⟩ := if_some hz
      exact .inl (.inr ⟨i, j, r1.str, r2.str, hl, q _ F H (.refl fh) (Rep.str _)⟩)
    | _ => cases hz
  | tuple xs =>
    cases e with
    | tuple ys =>
      obtain ⟨hl, rfl⟩ := if_some hz
      obtain ⟨a, vs, rfl, s1, p1⟩ := r1.tup fh
      obtain ⟨b, ws, rfl, s2, p2⟩ := r2.tup fh
      have t1 := (Res.rep r1 (fun _ z => nomatch z) (fun _ z => nomatch z))
      have t2 := (Res.rep r2 (fun _ z => nomatch z) (fun _ z => nomatch z))
      refine .inr (.inl ⟨a, b, vs, ws, rfl, rfl, s1.sq, s2.sq, by rw [p1.length, p2.length]; exact hl, fun e0 => ?_, fun _ e0 => ?_, fun _ _ => newT_rep (.refl fh) (p1.append p2) q⟩)
      · subst e0; cases p1; exact q _ F H (.refl fh) t2
      · subst e0
        cases p2
        have t1' : Rep K F (.ref a) (.tuple (xs ++ [])) := by rw [List.append_nil]; exact t1
        exact q _ F H (.refl fh) t1'
    | _ => cases hz
  | list xs =>
    cases e with
    | list ys =>
      refine .inr (.inr (ops_catL F H Ha Hb x y _ _ z Q fh r1 r2 hz fun v F' H' x' r' => ?_))
      obtain ⟨F2, x2, r3⟩ := fr_fz x' r'
      -- the new list frozen
      exact (q v F2 H' x2 r3)
    | _ => cases hz
  | _ => cases hz
end Q
end

/-! part: Q3 -/
section
set_option Elab.async false
set_option linter.all false
set_option maxRecDepth 100000
set_option maxHeartbeats 4000000
namespace Q
open PySem PySem.Spec PyProof.Rows L2
/-! ### comparisons of data -/
def eqD (d e : D) : Option D := if SeqAt.shaped d = true ∧ SeqAt.shaped e = true then some (.bool (PyData.eqv d e)) else none
def neD (d e : D) : Option D := if SeqAt.shaped d = true ∧ SeqAt.shaped e = true then some (.bool (!PyData.eqv d e)) else none
theorem ops_eq {K : PySem.W.Frag} : OpS K .fz (rEqD K) eqD := by
  intro F H Ha Hb x y d e z Q fh r1 r2 hz q
  obtain ⟨⟨h1, h2⟩, rfl⟩ := if_some hz
  exact ⟨d, e, r1.dp fh (nd_shaped h1), r2.dp fh (nd_shaped h2), h1, h2, q _ F H (.refl fh) (Rep.bl _)⟩
theorem ops_ne {K : PySem.W.Frag} : OpS K .fz (rNeD K) neD := by
  intro F H Ha Hb x y d e z Q fh r1 r2 hz q
  obtain ⟨⟨h1, h2⟩, rfl⟩ := if_some hz
  exact ⟨d, e, r1.dp fh (nd_shaped h1), r2.dp fh (nd_shaped h2), h1, h2, q _ F H (.refl fh) (Rep.bl _)⟩
/-- may the two be compared by their order -/
def ordOk (d e : D) : Bool := PySem.W.alike d e && (match d with
  | .none => false
  | _ => true) && decide (d.depth ≤ 64) && (nd d && nd e)
def ltD (d e : D) : Option D := if ordOk d e = true then some (.bool (PySem.W.dataLt d e)) else none
def gtD (d e : D) : Option D := if ordOk d e = true then some (.bool (PySem.W.dataLt e d)) else none
def leD (d e : D) : Option D := if ordOk d e = true then some (.bool (!PySem.W.dataLt e d)) else none
def geD (d e : D) : Option D := if ordOk d e = true then some (.bool (!PySem.W.dataLt d e)) else none
theorem ordOk_of {d e : D} (h : ordOk d e = true) : PySem.W.alike d e = true ∧ d ≠ .none ∧ d.depth ≤ 64 := by
  unfold ordOk at h
  simp only [Bool.and_eq_true, decide_eq_true_eq] at h
  obtain ⟨⟨⟨h1, h2⟩, h3⟩, _⟩ := h
  refine ⟨h1, fun z => ?_, h3⟩
  subst z
  cases h2
theorem ordOk_nd {d e : D} (h : ordOk d e = true) : nd d = true ∧ nd e = true := by
  unfold ordOk at h
  simp only [Bool.and_eq_true] at h
  exact h.2
def rOrd (K : PySem.W.Frag) (k : D → D → Bool) : R2 := fun x y H Q => ∃ d e, Dp K H x d ∧ Dp K H y e ∧ ordOk d e = true ∧ Q (.bl (k d e)) H
section
variable {X : Cx}
theorem min_depth {A : Around} {d e : D} (h : d.depth ≤ 64) (hu : A.units + 64 < cLine) : A.units + min d.depth e.depth < cLine := by
  have : min d.depth e.depth ≤ d.depth := Nat.min_le_left _ _
  omega
theorem op_lt_ (hu : X.A.units + 64 < cLine) : OpR X (compareOp .Lt) (rOrd X.K fun d e => PySem.W.dataLt d e) := by
  intro pins s σ H x y v u Q I rx ry h
  obtain ⟨d, e, hd, he, ok, q⟩ := h
  obtain ⟨as, r1⟩ := Dp.reads I d x v hd rx
  obtain ⟨bs, r2⟩ := Dp.reads I e y u he ry
  obtain ⟨h1, h2, h3⟩ := ordOk_of ok
  exact PySem.W.lt_data r1 r2 h1 h2 (min_depth h3 hu) ⟨.bl _, H, I, rfl, q⟩
theorem op_lt_K (K' : PySem.W.Frag) (hu : X.A.units + 64 < cLine) (hK : X.K = K' := by rfl) : OpR X (compareOp .Lt) (rOrd K' fun d e => PySem.W.dataLt d e) := by
  subst hK
  exact op_lt_ (hu := hu)
theorem op_gt_ (hu : X.A.units + 64 < cLine) : OpR X (compareOp .Gt) (rOrd X.K fun d e => PySem.W.dataLt e d) := by
  intro pins s σ H x y v u Q I rx ry h
  obtain ⟨d, e, hd, he, ok, q⟩ := h
  obtain ⟨as, r1⟩ := Dp.reads I d x v hd rx
  obtain ⟨bs, r2⟩ := Dp.reads I e y u he ry
  obtain ⟨h1, h2, h3⟩ := ordOk_of ok
  exact PySem.W.gt_data r1 r2 h1 h2 (min_depth h3 hu) ⟨.bl _, H, I, rfl, q⟩
theorem op_gt_K (K' : PySem.W.Frag) (hu : X.A.units + 64 < cLine) (hK : X.K = K' := by rfl) : OpR X (compareOp .Gt) (rOrd K' fun d e => PySem.W.dataLt e d) := by
  subst hK
  exact op_gt_ (hu := hu)
theorem op_le_ (hu : X.A.units + 64 < cLine) : OpR X (compareOp .LtE) (rOrd X.K fun d e => !PySem.W.dataLt e d) := by
  intro pins s σ H x y v u Q I rx ry h
  obtain ⟨d, e, hd, he, ok, q⟩ := h
  obtain ⟨as, r1⟩ := Dp.reads I d x v hd rx
  obtain ⟨bs, r2⟩ := Dp.reads I e y u he ry
  obtain ⟨h1, h2, h3⟩ := ordOk_of ok
  exact PySem.W.le_data r1 r2 h1 h2 (min_depth h3 hu) ⟨.bl _, H, I, rfl, q⟩
theorem op_le_K (K' : PySem.W.Frag) (hu : X.A.units + 64 < cLine) (hK : X.K = K' := by rfl) : OpR X (compareOp .LtE) (rOrd K' fun d e => !PySem.W.dataLt e d) := by
  subst hK
  exact op_le_ (hu := hu)
theorem op_ge_ (hu : X.A.units + 64 < cLine) : OpR X (compareOp .GtE) (rOrd X.K fun d e => !PySem.W.dataLt d e) := by
  intro pins s σ H x y v u Q I rx ry h
  obtain ⟨d, e, hd, he, ok, q⟩ := h
  obtain ⟨as, r1⟩ := Dp.reads I d x v hd rx
  obtain ⟨bs, r2⟩ := Dp.reads I e y u he ry
  obtain ⟨h1, h2, h3⟩ := ordOk_of ok
  exact PySem.W.ge_data r1 r2 h1 h2 (min_depth h3 hu) ⟨.bl _, H, I, rfl, q⟩
theorem op_ge_K (K' : PySem.W.Frag) (hu : X.A.units + 64 < cLine) (hK : X.K = K' := by rfl) : OpR X (compareOp .GtE) (rOrd K' fun d e => !PySem.W.dataLt d e) := by
  subst hK
  exact op_ge_ (hu := hu)
end
theorem ops_ord {K : PySem.W.Frag} {k : D → D → Bool} : OpS K .fz (rOrd K k) (fun d e => if ordOk d e = true then some (.bool (k d e)) else none) := by
  intro F H Ha Hb x y d e z Q fh r1 r2 hz q
  obtain ⟨h1, rfl⟩ := if_some hz
  exact ⟨d, e, r1.dp fh (ordOk_nd h1).1, r2.dp fh (ordOk_nd h1).2, h1, q _ F H (.refl fh) (Rep.bl _)⟩
theorem ops_lt {K : PySem.W.Frag} : OpS K .fz (rOrd K fun d e => PySem.W.dataLt d e) ltD := ops_ord
theorem ops_gt {K : PySem.W.Frag} : OpS K .fz (rOrd K fun d e => PySem.W.dataLt e d) gtD := ops_ord
theorem ops_le {K : PySem.W.Frag} : OpS K .fz (rOrd K fun d e => !PySem.W.dataLt e d) leD := ops_ord
theorem ops_ge {K : PySem.W.Frag} : OpS K .fz (rOrd K fun d e => !PySem.W.dataLt d e) geD := ops_ord
/-! ### is -/
def isNoneD (d : D) : Bool := match d with
  | .none => true
  | _ => false
def rIsN : R2 := fun x y H Q => y = .non ∧ Q (.bl (decide (x = .non))) H
def rNotN : R2 := fun x y H Q => y = .non ∧ Q (.bl (!decide (x = .non))) H
def isND (d e : D) : Option D := match e with
  | .none => some (.bool (isNoneD d))
  | _ => none
def notND (d e : D) : Option D := match e with
  | .none => some (.bool (!isNoneD d))
  | _ => none
theorem res_none_iff {K : PySem.W.Frag} {H0 F H : Hp} {x : V} {d : D} (h : Res K .pk H0 F H x d) : decide (x = .non) = isNoneD d := by
  rcases h with h | ⟨a, rfl, _, o⟩
  · cases h <;> simp [isNoneD]
  · cases d with
    | list ds => simp [isNoneD]
    | dict ds => simp [isNoneD]
    | _ => exact o.elim
theorem ops_isN {K : PySem.W.Frag} : OpS K .fz rIsN isND := by
  intro F H Ha Hb x y d e z Q fh r1 r2 hz q
  cases e with
  | none =>
    cases hz
    refine ⟨r2.non, ?_⟩
    rw [res_none_iff r1]
    exact q _ F H (.refl fh) (Rep.bl _)
  | _ => cases hz
theorem ops_notN {K : PySem.W.Frag} : OpS K .fz rNotN notND := by
  intro F H Ha Hb x y d e z Q fh r1 r2 hz q
  cases e with
  | none =>
    cases hz
    refine ⟨r2.non, ?_⟩
    rw [res_none_iff r1]
    exact q _ F H (.refl fh) (Rep.bl _)
  | _ => cases hz
def isBD (d e : D) : Option D := match d, e with
  | .bool a, .bool b => some (.bool (decide (a = b)))
  | _, _ => none
def notBD (d e : D) : Option D := match d, e with
  | .bool a, .bool b => some (.bool (!decide (a = b)))
  | _, _ => none
theorem ops_isB {K : PySem.W.Frag} : OpS K .fz rIsB isBD := by
  intro F H Ha Hb x y d e z Q fh r1 r2 hz q
  cases d with
  | bool a =>
    cases e with
    | bool b => cases hz; exact ⟨a, b, r1.bl, r2.bl, q _ F H (.refl fh) (Rep.bl _)⟩
    | _ => cases hz
  | _ => cases hz
theorem ops_notB {K : PySem.W.Frag} : OpS K .fz rNotB notBD := by
  intro F H Ha Hb x y d e z Q fh r1 r2 hz q
  cases d with
  | bool a =>
    cases e with
    | bool b => cases hz; exact ⟨a, b, r1.bl, r2.bl, q _ F H (.refl fh) (Rep.bl _)⟩
    | _ => cases hz
  | _ => cases hz
/-! ### in -/
def memD (d : D) (ds : List D) : Bool := ds.any fun z => PyData.eqv z d
def itemsD : D → Option (List D)
  | .list ds => some ds
  | .tuple ds => some ds
  | _ => none
def inD (d e : D) : Option D := (itemsD e).bind fun ds => if SeqAt.shaped d = true ∧ SeqAt.shaped e = true then some (.bool (memD d ds)) else none
def notInD (d e : D) : Option D := (itemsD e).bind fun ds => if SeqAt.shaped d = true ∧ SeqAt.shaped e = true then some (.bool (!memD d ds)) else none
def rIn_ (K : PySem.W.Frag) (k : Bool → Bool) : R2 := fun x y H Q => ∃ d e ds, Dp K H x d ∧ Dp K H y e ∧ itemsD e = some ds ∧ SeqAt.shaped d = true ∧ SeqAt.shaped e = true ∧ Q (.bl (k (memD d ds))) H
section
variable {X : Cx}
theorem room_in {A : Around} {d : D} {ds : List D} (sd : SeqAt.shaped d = true) (hu : A.units + 65 < cLine) : A.units + 1 + min (PyData.depthAll ds) d.depth < cLine := by
  have h1 := SeqAt.depth_of_shaped sd
  have h2 : min (PyData.depthAll ds) d.depth ≤ d.depth := Nat.min_le_right _ _
  omega
theorem op_in_ (hu : X.A.units + 65 < cLine) : OpR X (compareOp .In) (rIn_ X.K id) := by
  intro pins s σ H x y v u Q I rx ry h
  obtain ⟨d, e, ds, hd, he, hi, sd, se, q⟩ := h
  obtain ⟨as, r1⟩ := Dp.reads I d x v hd rx
  obtain ⟨bs, r2⟩ := Dp.reads I e y u he ry
  cases e with
  | list es => cases hi; exact SeqAt.in_list_reads r2 r1 (SeqAt.canLay_of_shaped se) (SeqAt.canLay_of_shaped sd) (room_in sd hu) ⟨.bl _, H, I, rfl, q⟩
  | tuple es => cases hi; exact SeqAt.in_tuple_reads r2 r1 (SeqAt.canLay_of_shaped se) (SeqAt.canLay_of_shaped sd) (room_in sd hu) ⟨.bl _, H, I, rfl, q⟩
  | _ => cases hi
theorem op_in_K (K' : PySem.W.Frag) (hu : X.A.units + 65 < cLine) (hK : X.K = K' := by rfl) : OpR X (compareOp .In) (rIn_ K' id) := by
  subst hK
  exact op_in_ (hu := hu)
theorem op_notIn_ (hu : X.A.units + 65 < cLine) : OpR X (compareOp .NotIn) (rIn_ X.K not) := by
  intro pins s σ H x y v u Q I rx ry h
  obtain ⟨d, e, ds, hd, he, hi, sd, se, q⟩ := h
  obtain ⟨as, r1⟩ := Dp.reads I d x v hd rx
  obtain ⟨bs, r2⟩ := Dp.reads I e y u he ry
  cases e with
  | list es => cases hi; exact SeqAt.notIn_list_reads r2 r1 (SeqAt.canLay_of_shaped se) (SeqAt.canLay_of_shaped sd) (room_in sd hu) ⟨.bl _, H, I, rfl, q⟩
  | tuple es => cases hi; exact SeqAt.notIn_tuple_reads r2 r1 (SeqAt.canLay_of_shaped se) (SeqAt.canLay_of_shaped sd) (room_in sd hu) ⟨.bl _, H, I, rfl, q⟩
  | _ => cases hi
theorem op_notIn_K (K' : PySem.W.Frag) (hu : X.A.units + 65 < cLine) (hK : X.K = K' := by rfl) : OpR X (compareOp .NotIn) (rIn_ K' not) := by
  subst hK
  exact op_notIn_ (hu := hu)
end
theorem ops_in_ {K : PySem.W.Frag} {k : Bool → Bool} : OpS K .fz (rIn_ K k) (fun d e => (itemsD e).bind fun ds => if SeqAt.shaped d = true ∧ SeqAt.shaped e = true then some (.bool (k (memD d ds))) else none) := by
  intro F H Ha Hb x y d e z Q fh r1 r2 hz q
  obtain ⟨ds, h0, hz⟩ := bind_some hz
  obtain ⟨⟨h1, h2⟩, rfl⟩ := if_some hz
  exact ⟨d, e, ds, r1.dp fh (nd_shaped h1), r2.dp fh (nd_shaped h2), h0, h1, h2, q _ F H (.refl fh) (Rep.bl _)⟩
theorem ops_in {K : PySem.W.Frag} : OpS K .fz (rIn_ K id) inD := ops_in_
theorem ops_notIn {K : PySem.W.Frag} : OpS K .fz (rIn_ K not) notInD := ops_in_
/-! ### xs[i] -/
def ixD : D → D → Option D
  | .list ds, .int i => atI ds i
  | .tuple ds, .int i => atI ds i
  | .str z, .int i => if z.length ≤ sizeLine then (atI z.cps.toList i).map fun c => .str ⟨#[c]⟩ else none
  | _, _ => none
theorem repA_atI {K : PySem.W.Frag} {F : Hp} {vs : List V} {ds : List D} {i : Int} {d : D} (r : RepA K F vs ds) (h : atI ds i = some d) : ∃ v, atI vs i = some v ∧ Rep K F v d := by
  unfold atI at h ⊢
  rw [r.length]
  obtain ⟨j, h1, h2⟩ := bind_some h
  rw [h1]
  obtain ⟨v, h3, h4⟩ := r.get h2
  exact ⟨v, h3, h4⟩
theorem ops_ix {K : PySem.W.Frag} : OpS K .fz (rIx K) ixD := by
  intro F H Ha Hb x y d e z Q fh r1 r2 hz q
  cases e with
  | int i =>
    cases d with
    | list ds =>
      obtain ⟨a, xs, rfl, s1, p1⟩ := r1.list fh
      obtain ⟨v, h1, h2⟩ := repA_atI p1 hz
      exact .inl ⟨a, xs, i, v, rfl, r2.int, s1, h1, q _ F H (.refl fh) h2⟩
    | tuple ds =>
      obtain ⟨a, xs, rfl, s1, p1⟩ := r1.tup fh
      obtain ⟨v, h1, h2⟩ := repA_atI p1 hz
      exact .inr (.inl ⟨a, xs, i, v, rfl, r2.int, s1.sq, h1, q _ F H (.refl fh) h2⟩)
    | str s =>
      by_cases hl : s.length ≤ sizeLine
      · have hz' : (if s.length ≤ sizeLine then (atI s.cps.toList i).map fun c => PyData.str ⟨#[c]⟩ else none) = some z := hz
        rw [if_pos hl] at hz'
        obtain ⟨c, h1, h2⟩ := Option.map_eq_some_iff.mp hz'
        subst h2
        exact .inr (.inr ⟨s, i, c, r1.str, r2.int, hl, h1, q _ F H (.refl fh) (Rep.str _)⟩)
      · have hz' : (if s.length ≤ sizeLine then (atI s.cps.toList i).map fun c => PyData.str ⟨#[c]⟩ else none) = some z := hz
        rw [if_neg hl] at hz'
        cases hz'
    | _ => cases hz
  | _ => cases d <;> cases hz
section
variable {X : Cx} {a b c : Expr} {ta tb tc : TE} {pos : Pos} {m m1 m2 m3 : Md} {r r' : R2} {g g' : D → D → Option D} {fa fb fc : Rho → Option D}
theorem de_ix (ha : DE X m1 a ta fa) (hb : DE X m2 b tb fb) (hs : PlainIx b := by exact fun _ _ => rfl) : DE X .fz (.Subscript a b pos) (tOp (rIx X.K) ta tb) (f2 ixD fa fb) :=
  ⟨pe_ix ix_seq ha.p hb.p hs, sem_op ops_ix ha.s hb.s⟩
theorem de_ixK (K' : PySem.W.Frag) (ha : DE X m1 a ta fa) (hb : DE X m2 b tb fb) (hs : PlainIx b := by exact fun _ _ => rfl) (hK : X.K = K' := by rfl) : DE X .fz (.Subscript a b pos) (tOp (rIx K') ta tb) (f2 ixD fa fb) := by
  subst hK
  exact de_ix (ha := ha) (hb := hb) (hs := hs)
/-! ### a op b op' c -/
def f3 (g g' : D → D → Option D) (fa fb fc : Rho → Option D) : Rho → Option D := fun ρ => (fa ρ).bind fun x => (fb ρ).bind fun y => (g x y).bind fun z => match z with
  | .bool true => (fc ρ).bind fun w => g' y w
  | .bool false => some (.bool false)
  | _ => none
theorem sem_chain {K : PySem.W.Frag} (hs : OpS K .fz r g) (hs' : OpS K .fz r' g') (ha : SemE K m1 ta fa) (hb : SemE K m2 tb fb) (hc : SemE K m3 tc fc) : SemE K .fz (tChain r r' ta tb tc) (f3 g g' fa fb fc) := by
  intro B F H σ ρ z Q rel hf q
  obtain ⟨d, h1, h2⟩ := bind_some hf
  obtain ⟨e, h3, h4⟩ := bind_some h2
  obtain ⟨k, h5, h6⟩ := bind_some h4
  refine ha B F H σ ρ d _ rel h1 fun x F1 H1 x1 r1 => ?_
  refine hb B F1 H1 σ ρ e _ (rel.ext x1) h3 fun y F2 H2 x2 r2 => ?_
  refine hs F2 H2 H H1 x y d e k _ x2.s (r1.mono x2).any r2.any h5 fun v F3 H3 x3 r3 => ?_
  have x03 := (x1.trans x2).trans x3
  cases k with
  | bool k =>
    refine ⟨k, Res.bl (m := .fz) (H0 := H) (H := H3) r3, ?_⟩
    cases k with
    | true =>
      obtain ⟨w, h7, h8⟩ := bind_some (show ((fc ρ).bind fun w => g' e w) = some z from h6)
      show tc σ H3 _
      refine hc B F3 H3 σ ρ w _ (rel.ext x03) h7 fun u F4 H4 x4 r4 => ?_
      exact hs' F4 H4 H1 H3 y u e w z _ x4.s ((r2.mono x3).mono x4).any r4.any h8 fun v5 F5 H5 x5 r5 => q v5 F5 H5 ((x03.trans x4).trans x5) r5
    | false =>
      have e1 : z = .bool false := (Option.some.inj (show some (PyData.bool false) = some z from h6)).symm
      subst e1
      show Q (.bl false) H3
      exact q _ F3 H3 x03 (Rep.bl false)
  | _ => exact nomatch (show (none : Option D) = some z from h6)
theorem de_chain {op op' : CmpOp} (ho : OpR X (compareOp op) r) (ho' : OpR X (compareOp op') r') (hs : OpS X.K .fz r g) (hs' : OpS X.K .fz r' g') (ha : DE X m1 a ta fa) (hb : DE X m2 b tb fb) (hc : DE X m3 c tc fc)
    (hm : lastMarks [op, op'] [b, c] = false := by with_unfolding_all rfl) : DE X .fz (.Compare a [op, op'] [b, c] pos) (tChain r r' ta tb tc) (f3 g g' fa fb fc) :=
  ⟨pe_chain ho ho' ha.p hb.p hc.p hm, sem_chain hs hs' ha.s hb.s hc.s⟩
theorem dt_chain {op op' : CmpOp} (ho : OpR X (compareOp op) r) (ho' : OpR X (compareOp op') r') (hs : OpS X.K .fz r g) (hs' : OpS X.K .fz r' g') (ha : DE X m1 a ta fa) (hb : DE X m2 b tb fb) (hc : DE X m3 c tc fc)
    (hm : lastMarks [op, op'] [b, c] = false := by with_unfolding_all rfl) : DT X (.Compare a [op, op'] [b, c] pos) (tTest (tChain r r' ta tb tc)) (fT (f3 g g' fa fb fc)) :=
  ⟨pt_chain ho ho' ha.p hb.p hc.p hm, sem_test (sem_chain hs hs' ha.s hb.s hc.s)⟩
/-! ### truth, and, or, not, if -/
def truD : D → Option Bool
  | .none => some false
  | .bool b => some b
  | .int i => some (i != 0)
  | .str z => if z.length ≤ sizeLine then some ((z.length : Int) != 0) else none
  | .list ds => some (!ds.isEmpty)
  | .tuple ds => some (!ds.isEmpty)
  | .dict _ => none
theorem isEmpty_len {α β : Type} {xs : List α} {ys : List β} (h : xs.length = ys.length) : xs.isEmpty = ys.isEmpty := by
  cases xs <;> cases ys <;> first | rfl | (simp at h)
theorem truV_of {K : PySem.W.Frag} {H0 F H : Hp} {x : V} {d : D} {b : Bool} (r : Res K m H0 F H x d) (fh : Same F H) (h : truD d = some b) : TruV K x H b := by
  cases d with
  | none => rw [r.non]; cases h; rfl
  | bool k => rw [r.bl]; cases h; rfl
  | int i => rw [r.int]; cases h; rfl
  | str z =>
    rw [r.str]
    obtain ⟨h1, h2⟩ := if_some h
    exact ⟨h1, h2.symm⟩
  | list ds =>
    obtain ⟨a, xs, rfl, s1, p1⟩ := r.list fh
    cases h
    exact .inl ⟨xs, s1, by rw [isEmpty_len p1.length]⟩
  | tuple ds =>
    obtain ⟨a, xs, rfl, s1, p1⟩ := r.tup fh
    cases h
    exact .inr (.inl ⟨xs, s1.sq, by rw [isEmpty_len p1.length]⟩)
  | dict _ => cases h
def fTr (f : Rho → Option D) : Rho → Option Bool := fun ρ => (f ρ).bind truD
theorem dt_tru (ha : DE X m a ta fa) (he : ∀ whole, isTrue a X.env whole = (do let v ← whole; standAt a.pos; holding [v] (truthy v)) := by intro _; rfl) : DT X a (fun σ H Q => ta σ H fun x H' => ∃ k, TruV X.K x H' k ∧ Q k H') (fTr fa) :=
  ⟨pt_truth ha.p he, fun B F H σ ρ b Q rel hf q => by
    obtain ⟨d, h1, h2⟩ := bind_some hf
    exact ha.s B F H σ ρ d _ rel h1 fun x F1 H1 x1 r1 => ⟨b, truV_of r1 x1.s h2, q F1 H1 x1⟩⟩
theorem dt_truK (K' : PySem.W.Frag) (ha : DE X m a ta fa) (he : ∀ whole, isTrue a X.env whole = (do let v ← whole; standAt a.pos; holding [v] (truthy v)) := by intro _; rfl) (hK : X.K = K' := by rfl) : DT X a (fun σ H Q => ta σ H fun x H' => ∃ k, TruV K' x H' k ∧ Q k H') (fTr fa) := by
  subst hK
  exact dt_tru (ha := ha) (he := he)
def fNotT (f : Rho → Option Bool) : Rho → Option Bool := fun ρ => (f ρ).map not
def fAndT (f g : Rho → Option Bool) : Rho → Option Bool := fun ρ => (f ρ).bind fun b => if b = true then g ρ else some false
def fOrT (f g : Rho → Option Bool) : Rho → Option Bool := fun ρ => (f ρ).bind fun b => if b = true then some true else g ρ
variable {tt tu : TT} {ft fu : Rho → Option Bool} {rest : List Expr}
theorem dt_not (ha : DT X a tt ft) : DT X (.UnaryOp .Not a pos) (tNot tt) (fNotT ft) := ⟨pt_not ha.p, fun B F H σ ρ b Q rel hf q => by
  obtain ⟨c, h1, rfl⟩ := Option.map_eq_some_iff.mp hf
  exact ha.s B F H σ ρ c _ rel h1 fun F1 H1 x1 => q F1 H1 x1⟩
/-- a row of and, of or -/
structure DW (X : Cx) (e : Expr) (t : TT) (f : Rho → Option Bool) : Prop where
  p : PW X e t
  s : SemT X.K t f
theorem dw_and1 (ha : DT X a tt ft) : DW X (.BoolOp .And [a] pos) tt ft := ⟨pw_and1 ha.p, ha.s⟩
theorem dw_or1 (ha : DT X a tt ft) : DW X (.BoolOp .Or [a] pos) tt ft := ⟨pw_or1 ha.p, ha.s⟩
theorem sem_and {K : PySem.W.Frag} (ha : SemT K tt ft) (hb : SemT K tu fu) : SemT K (tAnd tt tu) (fAndT ft fu) := by
  intro B F H σ ρ b Q rel hf q
  obtain ⟨c, h1, h2⟩ := bind_some hf
  refine ha B F H σ ρ c _ rel h1 fun F1 H1 x1 => ?_
  cases c with
  | true => exact hb B F1 H1 σ ρ b _ (rel.ext x1) h2 fun F2 H2 x2 => q F2 H2 (x1.trans x2)
  | false =>
    cases (show some false = some b from h2)
    exact q F1 H1 x1
theorem sem_or {K : PySem.W.Frag} (ha : SemT K tt ft) (hb : SemT K tu fu) : SemT K (tOr tt tu) (fOrT ft fu) := by
  intro B F H σ ρ b Q rel hf q
  obtain ⟨c, h1, h2⟩ := bind_some hf
  refine ha B F H σ ρ c _ rel h1 fun F1 H1 x1 => ?_
  cases c with
  | false => exact hb B F1 H1 σ ρ b _ (rel.ext x1) h2 fun F2 H2 x2 => q F2 H2 (x1.trans x2)
  | true =>
    cases (show some true = some b from h2)
    exact q F1 H1 x1
theorem dw_and (ha : DT X a tt ft) (hb : DW X (.BoolOp .And (b :: rest) pos) tu fu) : DW X (.BoolOp .And (a :: b :: rest) pos) (tAnd tt tu) (fAndT ft fu) := ⟨pw_and ha.p hb.p, sem_and ha.s hb.s⟩
theorem dw_or (ha : DT X a tt ft) (hb : DW X (.BoolOp .Or (b :: rest) pos) tu fu) : DW X (.BoolOp .Or (a :: b :: rest) pos) (tOr tt tu) (fOrT ft fu) := ⟨pw_or ha.p hb.p, sem_or ha.s hb.s⟩
theorem dt_w {e : Expr} (h : DW X e tt ft) : DT X e tt ft := ⟨h.p.pt, h.s⟩
/-- .. as values -/
def fNot (f : Rho → Option D) : Rho → Option D := fun ρ => ((f ρ).bind truD).map fun b => .bool (!b)
def fAnd (f g : Rho → Option D) : Rho → Option D := fun ρ => (f ρ).bind fun d => (truD d).bind fun b => if b = true then g ρ else some d
def fOr (f g : Rho → Option D) : Rho → Option D := fun ρ => (f ρ).bind fun d => (truD d).bind fun b => if b = true then some d else g ρ
theorem de_not (ha : DE X m a ta fa) : DE X .fz (.UnaryOp .Not a pos) (tNotT X.K ta) (fNot fa) := ⟨pe_notT ha.p, fun B F H σ ρ d Q rel hf q => by
  obtain ⟨c, h1, rfl⟩ := Option.map_eq_some_iff.mp hf
  obtain ⟨d, h2, h3⟩ := bind_some h1
  exact ha.s B F H σ ρ d _ rel h2 fun x F1 H1 x1 r1 => ⟨c, truV_of r1 x1.s h3, q _ F1 H1 x1 (Rep.bl _)⟩⟩
theorem de_notK (K' : PySem.W.Frag) (ha : DE X m a ta fa) (hK : X.K = K' := by rfl) : DE X .fz (.UnaryOp .Not a pos) (tNotT K' ta) (fNot fa) := by
  subst hK
  exact de_not (ha := ha)
theorem de_one {op} (h : DE X m a ta fa) : DE X m (.BoolOp op [a] pos) ta fa := ⟨pe_one h.p, h.s⟩
theorem de_and (ha : DE X .fz a ta fa) (hb : DE X .fz (.BoolOp .And (b :: rest) pos) tb fb) : DE X .fz (.BoolOp .And (a :: b :: rest) pos) (tAndT X.K ta tb) (fAnd fa fb) := ⟨pe_andT ha.p hb.p, fun B F H σ ρ d Q rel hf q => by
  obtain ⟨d1, h1, h2⟩ := bind_some hf
  obtain ⟨c, h3, h4⟩ := bind_some h2
  refine ha.s B F H σ ρ d1 _ rel h1 fun x F1 H1 x1 r1 => ⟨c, truV_of (m := .fz) (H0 := H) r1 x1.s h3, ?_⟩
  cases c with
  | true => exact hb.s B F1 H1 σ ρ d _ (rel.ext x1) h4 fun v F2 H2 x2 r2 => q v F2 H2 (x1.trans x2) r2
  | false =>
    cases (show some d1 = some d from h4)
    exact q x F1 H1 x1 r1⟩
theorem de_andK (K' : PySem.W.Frag) (ha : DE X .fz a ta fa) (hb : DE X .fz (.BoolOp .And (b :: rest) pos) tb fb) (hK : X.K = K' := by rfl) : DE X .fz (.BoolOp .And (a :: b :: rest) pos) (tAndT K' ta tb) (fAnd fa fb) := by
  subst hK
  exact de_and (ha := ha) (hb := hb)
theorem de_or (ha : DE X .fz a ta fa) (hb : DE X .fz (.BoolOp .Or (b :: rest) pos) tb fb) : DE X .fz (.BoolOp .Or (a :: b :: rest) pos) (tOrT X.K ta tb) (fOr fa fb) := ⟨pe_orT ha.p hb.p, fun B F H σ ρ d Q rel hf q => by
  obtain ⟨d1, h1, h2⟩ := bind_some hf
  obtain ⟨c, h3, h4⟩ := bind_some h2
  refine ha.s B F H σ ρ d1 _ rel h1 fun x F1 H1 x1 r1 => ⟨c, truV_of (m := .fz) (H0 := H) r1 x1.s h3, ?_⟩
  cases c with
  | false => exact hb.s B F1 H1 σ ρ d _ (rel.ext x1) h4 fun v F2 H2 x2 r2 => q v F2 H2 (x1.trans x2) r2
  | true =>
    cases (show some d1 = some d from h4)
    exact q x F1 H1 x1 r1⟩
theorem de_orK (K' : PySem.W.Frag) (ha : DE X .fz a ta fa) (hb : DE X .fz (.BoolOp .Or (b :: rest) pos) tb fb) (hK : X.K = K' := by rfl) : DE X .fz (.BoolOp .Or (a :: b :: rest) pos) (tOrT K' ta tb) (fOr fa fb) := by
  subst hK
  exact de_or (ha := ha) (hb := hb)
def fIf (c : Rho → Option Bool) (f g : Rho → Option D) : Rho → Option D := fun ρ => (c ρ).bind fun b => if b = true then f ρ else g ρ
theorem de_if (hc : DT X c tt ft) (ha : DE X m a ta fa) (hb : DE X m b tb fb) : DE X m (.IfExp c a b pos) (tIf tt ta tb) (fIf ft fa fb) := ⟨pe_ifExp hc.p ha.p hb.p, fun B F H σ ρ d Q rel hf q => by
  obtain ⟨k, h1, h2⟩ := bind_some hf
  refine hc.s B F H σ ρ k _ rel h1 fun F1 H1 x1 => ?_
  cases k with
  | true => exact ha.s B F1 H1 σ ρ d _ (rel.ext x1) h2 fun v F2 H2 x2 r2 => q v F2 H2 (x1.trans x2) (r2.back (F1 := F1) x1.h)
  | false => exact hb.s B F1 H1 σ ρ d _ (rel.ext x1) h2 fun v F2 H2 x2 r2 => q v F2 H2 (x1.trans x2) (r2.back (F1 := F1) x1.h)⟩
/-! ### -a -/
def negD : D → Option D
  | .int i => some (.int (-i))
  | _ => none
theorem de_neg (ha : DE X m a ta fa) : DE X .fz (.UnaryOp .USub a pos) (tUn (rU fun i => .int (-i)) ta) (f1 negD fa) := ⟨pe_un un_neg ha.p, fun B F H σ ρ d Q rel hf q => by
  obtain ⟨d1, h1, h2⟩ := bind_some hf
  refine ha.s B F H σ ρ d1 _ rel h1 fun x F1 H1 x1 r1 => ?_
  cases d1 with
  | int i => cases h2; exact ⟨i, r1.int, q _ F1 H1 x1 (Rep.int _)⟩
  | _ => cases h2⟩
/-! ### rows of arguments, displays -/
variable {e : Expr} {es : List Expr} {te : TE} {t : TA} {f : Rho → Option D} {fs : Rho → Option (List D)}
def aNil : Rho → Option (List D) := fun _ => some []
def aCons (f : Rho → Option D) (fs : Rho → Option (List D)) : Rho → Option (List D) := fun ρ => (f ρ).bind fun d => (fs ρ).bind fun ds => some (d :: ds)
theorem ResA.back {K : PySem.W.Frag} {H0 H1 F H : Hp} (s : Same H0 H1) : ∀ {vs : List V} {ds : List D}, ResA K m H1 F H vs ds → ResA K m H0 F H vs ds
  | _, _, .nil => .nil
  | _, _, .cons h r => .cons (h.back (F1 := F) s) (ResA.back s r)
theorem da_nil : DA X m [] tNil aNil := ⟨pa_nil, fun B F H σ ρ ds Q rel hf q => by cases hf; exact q [] F H (.refl rel.fh) .nil, fun ρ ds h => by cases h; rfl⟩
theorem da_cons (ha : DE X m e te f) (hr : DA X m es t fs) (hs : starEach (e :: es) X.env = (false, eval e X.env) :: starEach es X.env := by rfl) : DA X m (e :: es) (tCons te t) (aCons f fs) :=
  ⟨pa_cons ha.p hr.p hs, fun B F H σ ρ ds Q rel hf q => by
    obtain ⟨d, h1, h2⟩ := bind_some hf
    obtain ⟨ds', h3, h4⟩ := bind_some h2
    cases h4
    refine ha.s B F H σ ρ d _ rel h1 fun x F1 H1 x1 r1 => ?_
    exact hr.s B F1 H1 σ ρ ds' _ (rel.ext x1) h3 fun xs F2 H2 x2 r2 => q _ F2 H2 (x1.trans x2) (.cons (r1.mono x2) (r2.back x1.h)), fun ρ ds h => by
    obtain ⟨d, h1, h2⟩ := bind_some h
    obtain ⟨ds', h3, h4⟩ := bind_some h2
    cases h4
    exact congrArg Nat.succ (hr.n ρ ds' h3)⟩
def tTupF (t : TA) : TE := fun σ H Q => t σ H fun xs H1 => xs.length ≤ sizeLine ∧ NewT xs H1 Q
theorem pe_tupF {x1} (h : PA X es t) : PE X (.Tuple es x1 pos) (tTupF t) := by
  refine ⟨fun pins s σ H Q I hq => ?_⟩
  refine wpAny_Tuple_spliced (thn (h.run pos pins s σ H _ I hq) fun us s1 ⟨xs, H1, I1, r, z, q⟩ => ⟨by rw [← r.length]; exact z, ?_⟩)
  exact ⟨.ref s1.heap.objs.size, _, I1.laidT (t' := s1.toks) r z, rfl, q _ _ (I1.hok.fresh (Nat.le_refl _)) rfl rfl⟩
def fTup (fs : Rho → Option (List D)) : Rho → Option D := fun ρ => (fs ρ).map .tuple
def fLst (fs : Rho → Option (List D)) : Rho → Option D := fun ρ => (fs ρ).map .list
theorem small_es {n : Nat} (h : n ≤ 1000) : n ≤ sizeLine := Nat.le_of_lt (small1000 h)
theorem de_tup {k : Nat} (h : DA X .fz es t fs) (hn : es.length ≤ 1000 := by decide) : DE X .fz (.Tuple es k pos) (tTupF t) (fTup fs) := ⟨pe_tupF h.p, fun B F H σ ρ d Q rel hf q => by
  obtain ⟨ds, h1, rfl⟩ := Option.map_eq_some_iff.mp hf
  refine h.s B F H σ ρ ds _ rel h1 fun xs F1 H1 x1 r1 => ⟨small_es (by rw [r1.length, h.n ρ ds h1]; exact hn), newT_rep x1 r1.rep q⟩⟩
theorem de_lst (h : DA X .fz es t fs) (hn : es.length ≤ 1000 := by decide) : DE X .fr (.List es pos) (tLst t) (fLst fs) := ⟨pe_lst h.p, fun B F H σ ρ d Q rel hf q => by
  obtain ⟨ds, h1, rfl⟩ := Option.map_eq_some_iff.mp hf
  refine h.s B F H σ ρ ds _ rel h1 fun xs F1 H1 x1 r1 => ⟨small_es (by rw [r1.length, h.n ρ ds h1]; exact hn), newL_res x1 r1.rep q⟩⟩
/-! ### built-ins called with values -/
def CallS (K : PySem.W.Frag) (m : Md) (r : List V → Hp → VK → Prop) (g : List D → Option D) : Prop :=
  ∀ (F H Ha : Hp) (xs : List V) (ds : List D) (z : D) (Q : VK), Same F H → ResA K .pk Ha F H xs ds → g ds = some z → (∀ v F' H', Ext F H F' H' → Res K m H F' H' v z → Q v H') → r xs H Q
theorem ResA.any {K : PySem.W.Frag} {H0 F H : Hp} : ∀ {vs : List V} {ds : List D}, ResA K m H0 F H vs ds → ResA K .pk H0 F H vs ds
  | _, _, .nil => .nil
  | _, _, .cons h r => .cons h.any (ResA.any r)
def fB (g : List D → Option D) (fs : Rho → Option (List D)) : Rho → Option D := fun ρ => (fs ρ).bind g
variable {x : Str} {p : Pos} {rc : List V → Hp → VK → Prop} {gc : List D → Option D} {id T : String}
theorem sem_cb {K : PySem.W.Frag} (hs : CallS K m rc gc) (ha : SemA K m1 t fs) : SemE K m (tCB rc t) (fB gc fs) := by
  intro B F H σ ρ z Q rel hf q
  obtain ⟨ds, h1, h2⟩ := bind_some hf
  refine ha B F H σ ρ ds _ rel h1 fun xs F1 H1 x1 r1 => ?_
  exact hs F1 H1 H xs ds z Q x1.s r1.any h2 fun v F' H' x2 r2 => q v F' H' (x1.trans x2) (r2.back (F1 := F1) x1.h)
theorem de_cb (hc : CallR X (.builtin id) rc) (hs : CallS X.K m rc gc) (hg : Gl X x) (hm : X.mg x = none) (hv : bootBuiltins x = some (.builtin id)) (ha : DA X m1 (e :: es) t fs) (hn : x ≠ "__name__" := by decide) (hdb : (x == ("__debug__" : Str)) = false := by decide)
    (he : starEach (e :: es) X.env = (false, eval e X.env) :: starEach es X.env := by rfl) (hpl : (backTo pos (starEach es X.env)).any (·.1) = false := by rfl) : DE X m (.Call (.Name x p) (e :: es) [] pos) (tCB rc t) (fB gc fs) :=
  ⟨pe_callB hc hg hm hv ha.p hn hdb he hpl, sem_cb hs ha.s⟩
theorem de_ct (hc : CallR X (.type T) rc) (hs : CallS X.K m rc gc) (hg : Gl X x) (hm : X.mg x = none) (hv : bootBuiltins x = some (.type T)) (ha : DA X m1 (e :: es) t fs) (hn : x ≠ "__name__" := by decide) (hdb : (x == ("__debug__" : Str)) = false := by decide)
    (he : starEach (e :: es) X.env = (false, eval e X.env) :: starEach es X.env := by rfl) (hpl : (backTo pos (starEach es X.env)).any (·.1) = false := by rfl) : DE X m (.Call (.Name x p) (e :: es) [] pos) (tCB rc t) (fB gc fs) :=
  ⟨pe_callTy hc hg hm hv ha.p hn hdb he hpl, sem_cb hs ha.s⟩
end
theorem resA1 {K : PySem.W.Frag} {m : Md} {H0 F H : Hp} {vs : List V} {d : D} (h : ResA K m H0 F H vs [d]) : ∃ v, vs = [v] ∧ Res K m H0 F H v d := by
  cases h with
  | cons h1 r => cases r; exact ⟨_, rfl, h1⟩
theorem resA2 {K : PySem.W.Frag} {m : Md} {H0 F H : Hp} {vs : List V} {d e : D} (h : ResA K m H0 F H vs [d, e]) : ∃ v w, vs = [v, w] ∧ Res K m H0 F H v d ∧ Res K m H0 F H w e := by
  cases h with
  | cons h1 r => cases r with
    | cons h2 r => cases r; exact ⟨_, _, rfl, h1, h2⟩
end Q
end

/-! part: Q4 -/
section
set_option Elab.async false
set_option linter.all false
set_option maxRecDepth 100000
set_option maxHeartbeats 4000000
set_option autoImplicit false
namespace Q
open PySem PySem.Spec PySem.Calls PyProof.Rows L2
/-! ### collect, sorted over a list or a tuple -/
section
variable {prog : Program} {w : World} {A : Around} {E : Value → Shared → Prop} {s : Shared}
theorem collect_sq {T : String} {it : Addr} {o : Obj} {vs : List Value} {n : Nat} {Q : List Value → Shared → Prop} (hT : T = "list" ∨ T = "tuple") (ho : s.heap.get? it = some o) (hc : o.cls = .type T) (hd : o.data = .seq vs.toArray n)
    (hQ : Q vs { s with heap := (s.heap.push (seqObj "list" #[] 0)).update s.heap.objs.size (Obj.mapSeq (· ++ vs.toArray)) }) (hsz : vs.length ≤ sizeLine) :
    wpAny (model prog w) A (collect (.ref it)) Q E s := by
  unfold collect
  refine wpAny_bind (wpAny_runValue (codeAny_builtin PySem.F.entry_proto_collect ?_))
  rw [Around.under_plainId PySem.F.plain_proto_collect _]
  show wpAny _ A.in1 (newList [] >>= fun l => again (.builtin "list.__iadd__" ⟨[l, .ref it], []⟩)) _ _ s
  refine wpAny_bind (wpAny_newObj_type ?_)
  refine wpAny_pure ⟨plainId_quiet PySem.F.plain_list_iadd _, codeAny_builtin PySem.F.entry_list_iadd ?_⟩
  rw [Around.under_plainId PySem.F.plain_list_iadd _]
  show wpAny _ A.in1 (Builtin.List.listExtendWith (.ref s.heap.objs.size) (.ref it) (.ref s.heap.objs.size)) _ _ _
  have hS : (s.heap.push { cls := .type "list", data := .seq ([] : List Value).toArray }).get? s.heap.objs.size = some { cls := .type "list", data := .seq #[] 0 } := Heap.get?_push_size _ rfl
  have hS₂ := Heap.get?_update_self (Obj.mapSeq (· ++ vs.toArray)) hS rfl
  have fin' : wpAny (model prog w) A (match Value.ref s.heap.objs.size with
      | Value.ref a => do
        match (← load a).data with
          | Data.seq xs _ => pure xs.toList
          | _ => unsupported "internal:collect"
      | _ => unsupported "internal:collect") Q E { s with heap := (s.heap.push { cls := .type "list", data := .seq ([] : List Value).toArray }).update s.heap.objs.size (Obj.mapSeq (· ++ vs.toArray)) } := by
    show wpAny _ A (load s.heap.objs.size >>= _) _ _ _
    refine wpAny_bind (wpAny_load hS₂ ?_)
    refine wpAny_pure ?_
    have e : ((#[] : Array Value) ++ vs.toArray).toList = vs := by simp
    show Q ((#[] : Array Value) ++ vs.toArray).toList _
    rw [e]
    exact hQ
  refine wpAny_mono (wpAny_extend_seq (hsz := by rw [List.size_toArray]; exact hsz) (A := A) (R := fun r s' => r = .ok (.ret (.ref s.heap.objs.size)) ∧ s' = { s with heap := (s.heap.push { cls := .type "list", data := .seq ([] : List Value).toArray }).update s.heap.objs.size (Obj.mapSeq (· ++ vs.toArray)) })
    (s := { s with heap := s.heap.push { cls := .type "list", data := .seq ([] : List Value).toArray } }) _ it _ 0 hT hS (Heap.get?_push_of_some _ ho) hc hd ⟨rfl, rfl⟩) (fun fin s' h => ?_) (fun e s' h => ?_)
  · cases fin with
    | done f =>
      obtain ⟨e, rfl⟩ := h
      cases e
      exact fin'
    | again c' => exact ⟨h.1, codeAny_mono h.2 fun r s'' hr => by obtain ⟨rfl, rfl⟩ := hr; exact fin'⟩
  · exact absurd h.1 (by simp)
theorem sorted_sq {T : String} {l : Addr} {o : Obj} {vs : List Value} {n : Nat} {kw : List (Str × Value)} {Q : Value → Shared → Prop} (hT : T = "list" ∨ T = "tuple") (ho : s.heap.get? l = some o) (hc : o.cls = .type T) (hd : o.data = .seq vs.toArray n) (hL : vs.length ≤ sizeLine) (ha1 : argsOk "sorted" ⟨[.ref l], kw⟩) (ha2 : ∀ x, argsOk "list.sort" ⟨[.ref x], kw⟩)
    (body : ∀ E' : Value → Shared → Prop, wpAny (model prog w) A.in1.in1 (Builtin.«list.sort» ⟨[.ref (s.heap.objs.size + 1)], kw⟩) (fun f s' => f = .done (.ret .none) ∧ Q (.ref (s.heap.objs.size + 1)) s') E' { s with heap := PySem.W.copyHeap s.heap vs }) :
    wpAny (model prog w) A (call (.builtin "sorted") [.ref l] kw) Q E s := by
  refine call_function_entry_kw kind_sorted plain_sorted entry_sorted ha1 ?_
  unfold Builtin.«sorted»
  refine wpAny_bind (m := checkCount "sorted" 1 1 _) (wpAny_pure ?_)
  refine wpAny_bind (collect_sq hT ho hc hd ?_ hL)
  refine wpAny_bind (wpAny_newList ?_ hL)
  have hsz : ((s.heap.push (seqObj "list" #[] 0)).update s.heap.objs.size (Obj.mapSeq (· ++ vs.toArray))).objs.size = s.heap.objs.size + 1 := by
    rw [Heap.size_update, size_push']
  show wpAny _ _ _ _ _ { s with heap := PySem.W.copyHeap s.heap vs }
  rw [hsz]
  refine wpAny_bind (wpAny_holding (wpAny_call_entry_kw slot_list_sort ⟨_, PySem.W.copyHeap_at s.heap vs, rfl⟩ entry_list_sort ?body (ha2 _)))
  case body =>
    show wpAny (model prog w) A.in1.in1 (Builtin.«list.sort» ⟨[.ref (s.heap.objs.size + 1)], kw⟩) _ _ _
    refine wpAny_mono (body _) (fun f s' hf => ?_) fun _ _ e => e
    obtain ⟨rfl, hq⟩ := hf
    exact ⟨_, rfl, wpAny_pure ⟨_, rfl, hq⟩⟩
theorem sorted_sq_data {β : Type} {vs : List Value} {bs : List β} {enc : β → PyData} {R : Value → β → Prop} {T : String} {l : Addr} {o : Obj} {n : Nat} {Q : Value → Shared → Prop} (hT : T = "list" ∨ T = "tuple") (ho : s.heap.get? l = some o) (hc : o.cls = .type T) (hd : o.data = .seq vs.toArray n)
    (e : PySem.W.EachIs R vs bs) (er : PySem.W.EachIs (fun v b => ∃ as, Reads s.heap v (enc b) as) vs bs) (hal : PySem.W.AllAlike (bs.map enc)) (hk : PySem.W.Sortable (bs.map enc)) (hL : bs.length ≤ sizeLine)
    (hu : ∀ b, b ∈ bs → A.units + 2 + (enc b).depth < cLine) (h : ∀ out, out.length = bs.length → PySem.W.EachIs R out (bs.mergeSort (PySem.W.dataLe false enc)) → Q (.ref (s.heap.objs.size + 1)) { s with heap := sortedAll s.heap vs (List.toArray out) }) :
    wpAny (model prog w) A (call (.builtin "sorted") [.ref l]) Q E s := by
  have er' : PySem.W.EachIs (fun v b => ∃ as, Reads (PySem.W.sortingHeap (PySem.W.copyHeap s.heap vs) (s.heap.objs.size + 1) vs) v (enc b) as) vs bs := er.mono fun _ _ ⟨as, r⟩ => ⟨as, PyProof.Rows.Reads.keeps (fun _ _ => PySem.W.sorting_copy_old) r⟩
  exact sorted_sq hT ho hc hd (by rw [e.length]; exact hL) (args_sorted1 _) (fun _ => args_list_sort _) fun _ => PySem.W.list_sort_vals (s := { s with heap := PySem.W.copyHeap s.heap vs }) (PySem.W.copyHeap_at s.heap vs)
    (PySem.W.SortsAt.data (s := { s with heap := PySem.W.sortingHeap (PySem.W.copyHeap s.heap vs) (s.heap.objs.size + 1) vs }) (PySem.W.each_map (R := fun v d => ∃ as, Reads (PySem.W.sortingHeap (PySem.W.copyHeap s.heap vs) (s.heap.objs.size + 1) vs) v d as) enc er') hal hk (PySem.W.bound_map hu)) (by rw [e.length]; exact hL)
    ⟨rfl, h _ (by rw [PySem.W.sortVals_length false rfl]; exact e.length) (PySem.W.sortVals_data false e er' hal)⟩
end
/-! ### a list or a tuple read -/
def SqA (K : PySem.W.Frag) (H : Hp) (p : Addr) (xs : List V) : Prop := SqL K H p xs ∨ SqT K H p xs
theorem Res.items {K : PySem.W.Frag} {m : Md} {H0 F H : Hp} {v : V} {d : D} {ds : List D} (h : Res K m H0 F H v d) (fh : Same F H) (e : itemsD d = some ds) : ∃ a xs, v = .ref a ∧ SqA K H a xs ∧ RepA K F xs ds := by
  cases d with
  | list es => cases e; obtain ⟨a, xs, e1, s1, r⟩ := h.list fh; exact ⟨a, xs, e1, .inl s1, r⟩
  | tuple es => cases e; obtain ⟨a, xs, e1, s1, r⟩ := h.tup fh; exact ⟨a, xs, e1, .inr s1.sq, r⟩
  | _ => cases e
section
variable {X : Cx} {pins : List (Addr × Obj)} {σ : L2.St} {H : Hp} {s : Shared}
theorem _root_.L2.Inv.seq (I : Inv X pins σ H s) {p : Addr} {xs : List V} (h : SqA X.K H p xs) : ∃ (T : String) (o : Obj) (its : List Value) (n : Nat), (T = "list" ∨ T = "tuple") ∧ s.heap.get? p = some o ∧ o.cls = .type T ∧ o.data = .seq its.toArray n ∧ Vals xs its ∧ xs.length ≤ sizeLine := by
  rcases h with h | h
  · obtain ⟨its, r, ⟨o, n, e, c, _, d⟩, z⟩ := I.list h
    exact ⟨"list", o, its, n, .inl rfl, e, c, d, r, z⟩
  · obtain ⟨its, r, ⟨o, e, c, n, d⟩, z⟩ := I.tuple h
    exact ⟨"tuple", o, its, n, .inr rfl, e, c, d, r, z⟩
end
theorem each_of_vals {K : PySem.W.Frag} {F : Hp} {R : Value → D → Prop} : ∀ {xs : List V} {its : List Value} {ds : List D}, Vals xs its → RepA K F xs ds → (∀ v u d, RelV v u → Rep K F v d → R u d) → PySem.W.EachIs R its ds
  | _, _, _, .nil, .nil, _ => .nil
  | _, _, _, .cons r t, .cons q u, f => .cons (f _ _ _ r q) (each_of_vals t u f)
theorem each_of_valsM {K : PySem.W.Frag} {F : Hp} {R : Value → D → Prop} : ∀ {xs : List V} {its : List Value} {ds : List D}, Vals xs its → RepA K F xs ds → (∀ v u d, d ∈ ds → RelV v u → Rep K F v d → R u d) → PySem.W.EachIs R its ds
  | _, _, _, .nil, .nil, _ => .nil
  | _, _, _, .cons r t, .cons q u, f => .cons (f _ _ _ List.mem_cons_self r q) (each_of_valsM t u fun v u d hd r q => f v u d (List.mem_cons_of_mem _ hd) r q)
theorem vals_of_each {K : PySem.W.Frag} {F : Hp} : ∀ {its : List Value} {ds : List D}, PySem.W.EachIs (fun u d => ∃ v, RelV v u ∧ Rep K F v d) its ds → ∃ xs, Vals xs its ∧ RepA K F xs ds
  | _, _, .nil => ⟨[], .nil, .nil⟩
  | _, _, .cons ⟨v, r, q⟩ t => by
    obtain ⟨xs, h1, h2⟩ := vals_of_each t
    exact ⟨v :: xs, .cons r h1, .cons q h2⟩
mutual
theorem nd_alike : ∀ d : D, PySem.W.alike d d = true → nd d = true
  | .none, _ => rfl
  | .bool _, _ => rfl
  | .int _, _ => rfl
  | .str _, _ => rfl
  | .list xs, h => by rw [nd]; exact nd_alikeA xs (by simpa [PySem.W.alike] using h)
  | .tuple xs, h => by rw [nd]; exact nd_alikeA xs (by simpa [PySem.W.alike] using h)
  | .dict _, h => by simp [PySem.W.alike] at h
theorem nd_alikeA : ∀ ds : List D, PySem.W.alikeAll ds ds = true → ndA ds = true
  | [], _ => by rw [ndA]
  | x :: xs, h => by
    rw [ndA]
    rw [PySem.W.alikeAll, Bool.and_eq_true] at h
    rw [nd_alike x h.1, nd_alikeA xs h.2]
    rfl
end
theorem ndA_of : ∀ ds : List D, (∀ d ∈ ds, nd d = true) → ndA ds = true
  | [], _ => by rw [ndA]
  | x :: xs, h => by
    rw [ndA, h x List.mem_cons_self, ndA_of xs fun d hd => h d (List.mem_cons_of_mem _ hd)]
    rfl
/-! ### sorted -/
/-- may they be sorted -/
def srtOk (ds : List D) : Bool := (ds.all fun d => ds.all fun e => PySem.W.alike d e) && ((ds.all fun d => match d with
  | .tuple (_ :: _) => true
  | _ => false) || ds.all fun d => match d with
  | .none => false
  | .tuple _ => false
  | _ => true) && ds.all fun d => decide (d.depth ≤ 64)
theorem srtOk_of {ds : List D} (h : srtOk ds = true) : PySem.W.AllAlike ds ∧ PySem.W.Sortable ds ∧ ∀ d ∈ ds, d.depth ≤ 64 := by
  unfold srtOk at h
  simp only [Bool.and_eq_true, Bool.or_eq_true, List.all_eq_true, decide_eq_true_eq] at h
  obtain ⟨⟨h1, h2⟩, h3⟩ := h
  refine ⟨h1, ?_, h3⟩
  rcases h2 with h2 | h2
  · refine .inl fun d hd => ?_
    have := h2 d hd
    cases d with
    | tuple xs =>
      cases xs with
      | nil => cases this
      | cons a b => exact ⟨a, b, rfl⟩
    | _ => cases this
  · refine .inr fun d hd => ?_
    have := h2 d hd
    refine ⟨fun z => ?_, fun xs z => ?_⟩
    · subst z; cases this
    · subst z; cases this
def srt (ds : List D) : List D := ds.mergeSort (PySem.W.dataLe false id)
def sortedD : List D → Option D
  | [d] => (itemsD d).bind fun ds => if srtOk ds = true then some (.list (srt ds)) else none
  | _ => none
/-- the state hidden in a sort: the items as values, as data -/
def rSrt (K : PySem.W.Frag) : List V → Hp → VK → Prop := fun vs H Q => ∃ a xs F ds, vs = [.ref a] ∧ Same F H ∧ SqA K H a xs ∧ RepA K F xs ds ∧ srtOk ds = true ∧ ∀ ys, RepA K F ys (srt ds) → NewL ys H Q
section
variable {X : Cx}
theorem cr_srt (hu : X.A.units + 70 < cLine) : CallR X (.builtin "sorted") (rSrt X.K) := by
  intro pins s σ H vs us Q I r h
  obtain ⟨a, xs, F, ds, rfl, fh, sq, rp, ok, q⟩ := h
  obtain ⟨u, rfl, ru⟩ := vals1 r
  cases ru
  obtain ⟨T, o, its, n, hT, e, c, d, rv, hz⟩ := I.seq sq
  obtain ⟨h1, h2, h3⟩ := srtOk_of ok
  have em : (ds.map id) = ds := List.map_id _
  refine sorted_sq_data (enc := id) (R := fun u d => ∃ v, RelV v u ∧ Rep X.K F v d) hT e c d (each_of_vals rv rp fun v u d r q => ⟨v, r, q⟩)
    (each_of_valsM rv rp fun v u d hd r q => Dp.reads I d v u ((q.mono fh).dp (nd_alike d (h1 d hd d hd))) r) (by rw [em]; exact h1) (by rw [em]; exact h2) (by rw [← rp.length]; exact hz) (fun b hb => by have := h3 b hb; show X.A.units + 2 + b.depth < cLine; omega) fun out ho hE => ?_
  obtain ⟨ys, v1, r1⟩ := vals_of_each hE
  obtain ⟨c', hc'⟩ := sortedAll_at s.heap its out.toArray
  have hlen : ys.length ≤ sizeLine := by rw [v1.length, ho, ← rp.length]; exact hz
  refine ⟨.ref (s.heap.objs.size + 1), _, I.laid (t' := s.toks) (o := .lst ys) (fun b u q => sortedAll_old q) (Nat.le_succ _) ⟨hlen, out, c', v1, hc'⟩, rfl, q ys r1 _ (I.hok.fresh (Nat.le_succ _))⟩
theorem cr_srtK (K' : PySem.W.Frag) (hu : X.A.units + 70 < cLine) (hK : X.K = K' := by rfl) : CallR X (.builtin "sorted") (rSrt K') := by
  subst hK
  exact cr_srt (hu := hu)
end
theorem cs_srt {K : PySem.W.Frag} : CallS K .fr (rSrt K) sortedD := by
  intro F H Ha vs ds z Q fh r hz q
  match ds, r, hz with
  | [d], r, hz =>
    obtain ⟨es, h1, h2⟩ := bind_some (show (itemsD d).bind (fun ds => if srtOk ds = true then some (PyData.list (srt ds)) else none) = some z from hz)
    obtain ⟨ok, rfl⟩ := if_some h2
    obtain ⟨v, rfl, r1⟩ := resA1 r
    obtain ⟨a, xs, rfl, s1, p1⟩ := r1.items fh h1
    exact ⟨a, xs, F, es, rfl, fh, s1, p1, ok, fun ys ry => newL_res (.refl fh) ry q⟩
/-! ### len, int, tuple, list, abs, min, max of two -/
def lenD : List D → Option D
  | [.list ds] => some (.int ds.length)
  | [.tuple ds] => some (.int ds.length)
  | [.str z] => if z.length ≤ sizeLine then some (.int z.length) else none
  | _ => none
def rLen (K : PySem.W.Frag) : List V → Hp → VK → Prop := fun xs H Q => ∃ x n, xs = [x] ∧ LenV K x H n ∧ Q (.int n) H
theorem cs_len {K : PySem.W.Frag} : CallS K .fz (rLen K) lenD := by
  intro F H Ha vs ds z Q fh r hz q
  match ds, r, hz with
  | [.list es], r, hz =>
    cases hz
    obtain ⟨v, rfl, r1⟩ := resA1 r
    obtain ⟨a, xs, rfl, s1, p1⟩ := r1.list fh
    refine ⟨_, es.length, rfl, .inl ⟨xs, s1, p1.length.symm⟩, q _ F H (.refl fh) (Rep.int _)⟩
  | [.tuple es], r, hz =>
    cases hz
    obtain ⟨v, rfl, r1⟩ := resA1 r
    obtain ⟨a, xs, rfl, s1, p1⟩ := r1.tup fh
    refine ⟨_, es.length, rfl, .inr ⟨xs, s1.sq, p1.length.symm⟩, q _ F H (.refl fh) (Rep.int _)⟩
  | [.str y], r, hz =>
    obtain ⟨hl, rfl⟩ := if_some (show (if y.length ≤ sizeLine then some (PyData.int y.length) else none) = some z from hz)
    obtain ⟨v, rfl, r1⟩ := resA1 r
    rw [r1.str]
    exact ⟨_, _, rfl, ⟨hl, rfl⟩, q _ F H (.refl fh) (Rep.int _)⟩
def intD : List D → Option D
  | [.int i] => some (.int i)
  | [.bool b] => some (.int (if b then 1 else 0))
  | _ => none
def rInt : List V → Hp → VK → Prop := fun xs H Q => (∃ i, xs = [.int i] ∧ Q (.int i) H) ∨ ∃ k, xs = [.bl k] ∧ Q (.int (if k then 1 else 0)) H
theorem cs_int {K : PySem.W.Frag} : CallS K .fz rInt intD := by
  intro F H Ha vs ds z Q fh r hz q
  match ds, r, hz with
  | [.int i], r, hz =>
    cases hz
    obtain ⟨v, rfl, r1⟩ := resA1 r
    rw [r1.int]
    exact .inl ⟨i, rfl, q _ F H (.refl fh) (Rep.int _)⟩
  | [.bool b], r, hz =>
    cases hz
    obtain ⟨v, rfl, r1⟩ := resA1 r
    rw [r1.bl]
    exact .inr ⟨b, rfl, q _ F H (.refl fh) (Rep.int _)⟩
def absD : List D → Option D
  | [.int i] => some (.int (if i < 0 then -i else i))
  | _ => none
def rAbs : List V → Hp → VK → Prop := fun xs H Q => ∃ i, xs = [.int i] ∧ Q (.int (if i < 0 then -i else i)) H
theorem cs_abs {K : PySem.W.Frag} : CallS K .fz rAbs absD := by
  intro F H Ha vs ds z Q fh r hz q
  match ds, r, hz with
  | [.int i], r, hz =>
    cases hz
    obtain ⟨v, rfl, r1⟩ := resA1 r
    rw [r1.int]
    exact ⟨i, rfl, q _ F H (.refl fh) (Rep.int _)⟩
def max2D : List D → Option D
  | [.int i, .int j] => some (.int (if j > i then j else i))
  | _ => none
def min2D : List D → Option D
  | [.int i, .int j] => some (.int (if j < i then j else i))
  | _ => none
def rMax2 : List V → Hp → VK → Prop := fun xs H Q => ∃ i j, xs = [.int i, .int j] ∧ Q (.int (if j > i then j else i)) H
def rMin2 : List V → Hp → VK → Prop := fun xs H Q => ∃ i j, xs = [.int i, .int j] ∧ Q (.int (if j < i then j else i)) H
theorem cs_max2 {K : PySem.W.Frag} : CallS K .fz rMax2 max2D := by
  intro F H Ha vs ds z Q fh r hz q
  match ds, r, hz with
  | [.int i, .int j], r, hz =>
    cases hz
    obtain ⟨v, w, rfl, r1, r2⟩ := resA2 r
    rw [r1.int, r2.int]
    exact ⟨i, j, rfl, q _ F H (.refl fh) (Rep.int _)⟩
theorem cs_min2 {K : PySem.W.Frag} : CallS K .fz rMin2 min2D := by
  intro F H Ha vs ds z Q fh r hz q
  match ds, r, hz with
  | [.int i, .int j], r, hz =>
    cases hz
    obtain ⟨v, w, rfl, r1, r2⟩ := resA2 r
    rw [r1.int, r2.int]
    exact ⟨i, j, rfl, q _ F H (.refl fh) (Rep.int _)⟩
def tupD : List D → Option D
  | [.list ds] => some (.tuple ds)
  | [.tuple ds] => some (.tuple ds)
  | _ => none
def rTupC (K : PySem.W.Frag) : List V → Hp → VK → Prop := fun xs H Q => ∃ p ys, xs = [.ref p] ∧ ((SqL K H p ys ∧ NewT ys H Q) ∨ (SqT K H p ys ∧ Q (.ref p) H))
theorem cr_tup {X : Cx} : CallR X (.type "tuple") (rTupC X.K) := by
  intro pins s σ H vs us Q I r h
  obtain ⟨p, xs, rfl, h⟩ := h
  obtain ⟨u, rfl, ru⟩ := vals1 r
  cases ru
  rcases h with ⟨hs, q⟩ | ⟨hs, q⟩
  · obtain ⟨its, rv, pl, hz⟩ := I.list hs
    refine call_tuple_list pl.isList (fun h' hk => ?_) (by rw [List.size_toArray, ← rv.length]; exact hz)
    have I1 : Inv X pins σ H { s with heap := h' } := I.kept (t' := s.toks) hk
    exact ⟨.ref h'.objs.size, _, Inv.laidT (s := { s with heap := h' }) (t' := s.toks) I1 rv hz, rfl, q _ _ (I1.hok.fresh (Nat.le_refl _)) rfl rfl⟩
  · obtain ⟨its, rv, pl, hz⟩ := I.tuple hs
    exact call_tuple_tup pl ⟨.ref p, H, I, rfl, q⟩
theorem cr_tupK {X : Cx} (K' : PySem.W.Frag) (hK : X.K = K' := by rfl) : CallR X (.type "tuple") (rTupC K') := by
  subst hK
  exact cr_tup 
theorem cs_tup {K : PySem.W.Frag} : CallS K .fz (rTupC K) tupD := by
  intro F H Ha vs ds z Q fh r hz q
  match ds, r, hz with
  | [.list es], r, hz =>
    cases hz
    obtain ⟨v, rfl, r1⟩ := resA1 r
    obtain ⟨a, xs, rfl, s1, p1⟩ := r1.list fh
    exact ⟨a, xs, rfl, .inl ⟨s1, newT_rep (.refl fh) p1 q⟩⟩
  | [.tuple es], r, hz =>
    cases hz
    obtain ⟨v, rfl, r1⟩ := resA1 r
    have rr := Res.rep r1 (fun _ z => nomatch z) (fun _ z => nomatch z)
    obtain ⟨a, xs, rfl, s1, p1⟩ := r1.tup fh
    exact ⟨a, xs, rfl, .inr ⟨s1.sq, q _ F H (.refl fh) rr⟩⟩
def lstD : List D → Option D
  | [d] => (itemsD d).map .list
  | _ => none
def rLstC (K : PySem.W.Frag) : List V → Hp → VK → Prop := fun xs H Q => ∃ p ys, xs = [.ref p] ∧ (SqL K H p ys ∨ SqT K H p ys) ∧ ∀ l, H l = none → Q (.ref l) (upd H l (.lst ys))
theorem cs_lst {K : PySem.W.Frag} : CallS K .fr (rLstC K) lstD := by
  intro F H Ha vs ds z Q fh r hz q
  match ds, r, hz with
  | [d], r, hz =>
    obtain ⟨es, h1, rfl⟩ := Option.map_eq_some_iff.mp (show (itemsD d).map PyData.list = some z from hz)
    obtain ⟨v, rfl, r1⟩ := resA1 r
    obtain ⟨a, xs, rfl, s1, p1⟩ := r1.items fh h1
    exact ⟨a, xs, rfl, s1, newL_res (.refl fh) p1 q⟩
/-! ### sum, all, any, min, max over items -/
def intsOf : List D → Option (List Int)
  | [] => some []
  | .int i :: ds => (intsOf ds).map (i :: ·)
  | _ => none
theorem intsOf_map : ∀ {ds : List D} {ns : List Int}, intsOf ds = some ns → ds = ns.map .int
  | [], _, h => by cases h; rfl
  | .int i :: ds, ns, h => by
    obtain ⟨ms, h1, rfl⟩ := Option.map_eq_some_iff.mp (show (intsOf ds).map (i :: ·) = some ns from h)
    rw [intsOf_map h1]; rfl
theorem intsOf_ints : ∀ (ns : List Int), intsOf (ns.map .int) = some ns
  | [] => rfl
  | n :: ns => by show (intsOf (ns.map .int)).map (n :: ·) = _; rw [intsOf_ints ns]; rfl
def sumD : List D → Option D
  | [d] => (itemsD d).bind fun ds => (intsOf ds).map fun ns => .int ns.sum
  | _ => none
def rSumA (K : PySem.W.Frag) : List V → Hp → VK → Prop := fun vs H Q => ∃ (a : Addr) (ns : List Int), vs = [V.ref a] ∧ SqA K H a (ns.map V.int) ∧ Q (.int ns.sum) H
theorem cr_sumA {X : Cx} (hc : X.calm = true) : CallR X (.builtin "sum") (rSumA X.K) := by
  intro pins s σ H vs us Q I r h
  obtain ⟨a, ns, rfl, sq, q⟩ := h
  rcases sq with sq | sq
  · exact cr_sum hc pins s σ H _ us Q I r ⟨a, ns, rfl, sq, q⟩
  · obtain ⟨u, rfl, ru⟩ := vals1 r
    cases ru
    obtain ⟨its, rv, pl, hz⟩ := I.tuple sq
    have hi : IntsAre its ns := rv.ints
    obtain ⟨xs, hx⟩ := hi.allInts.items
    have hn : numsOf its.toArray.toList = ns := by rw [show its.toArray.toList = its from rfl, hi.numsOf]
    rw [hx] at pl hn
    rw [nums_intItems] at hn
    refine PySem.W.ktm_sumG (I.ok.hd hc) pl fun h' tk t' hk => ?_
    rw [preSum_eq, List.take_of_length_le (by simp), hn]
    exact ⟨.int ns.sum, H, I.kept hk, ⟨t', rfl⟩, q⟩
theorem cr_sumAK {X : Cx} (K' : PySem.W.Frag) (hc : X.calm = true) (hK : X.K = K' := by rfl) : CallR X (.builtin "sum") (rSumA K') := by
  subst hK
  exact cr_sumA (hc := hc)
theorem cs_sum {K : PySem.W.Frag} : CallS K .fz (rSumA K) sumD := by
  intro F H Ha vs ds z Q fh r hz q
  match ds, r, hz with
  | [d], r, hz =>
    obtain ⟨es, h1, h2⟩ := bind_some (show (itemsD d).bind (fun ds => (intsOf ds).map fun ns => PyData.int ns.sum) = some z from hz)
    obtain ⟨ns, h3, rfl⟩ := Option.map_eq_some_iff.mp h2
    obtain ⟨v, rfl, r1⟩ := resA1 r
    obtain ⟨a, xs, rfl, s1, p1⟩ := r1.items fh h1
    have e := intsOf_map h3
    subst e
    have e2 := RepA.ints p1
    subst e2
    exact ⟨a, ns, rfl, s1, q _ F H (.refl fh) (Rep.int _)⟩
def blsOf : List D → Option (List Bool)
  | [] => some []
  | .bool b :: ds => (blsOf ds).map (b :: ·)
  | _ => none
theorem blsOf_map : ∀ {ds : List D} {ns : List Bool}, blsOf ds = some ns → ds = ns.map .bool
  | [], _, h => by cases h; rfl
  | .bool i :: ds, ns, h => by
    obtain ⟨ms, h1, rfl⟩ := Option.map_eq_some_iff.mp (show (blsOf ds).map (i :: ·) = some ns from h)
    rw [blsOf_map h1]; rfl
theorem blsOf_bls : ∀ (ns : List Bool), blsOf (ns.map .bool) = some ns
  | [] => rfl
  | n :: ns => by show (blsOf (ns.map .bool)).map (n :: ·) = _; rw [blsOf_bls ns]; rfl
def allD : List D → Option D
  | [.list ds] => (blsOf ds).map fun bs => .bool (bs.all id)
  | _ => none
def anyD : List D → Option D
  | [.list ds] => (blsOf ds).map fun bs => .bool (bs.any id)
  | _ => none
theorem cs_all {K : PySem.W.Frag} : CallS K .fz (rAll K) allD := by
  intro F H Ha vs ds z Q fh r hz q
  match ds, r, hz with
  | [.list es], r, hz =>
    obtain ⟨bs, h3, rfl⟩ := Option.map_eq_some_iff.mp (show (blsOf es).map (fun bs => PyData.bool (bs.all id)) = some z from hz)
    obtain ⟨v, rfl, r1⟩ := resA1 r
    obtain ⟨a, xs, rfl, s1, p1⟩ := r1.list fh
    have e := blsOf_map h3
    subst e
    have e2 := RepA.bls p1
    subst e2
    exact ⟨a, bs, rfl, s1, q _ F H (.refl fh) (Rep.bl _)⟩
theorem cs_any {K : PySem.W.Frag} : CallS K .fz (rAny K) anyD := by
  intro F H Ha vs ds z Q fh r hz q
  match ds, r, hz with
  | [.list es], r, hz =>
    obtain ⟨bs, h3, rfl⟩ := Option.map_eq_some_iff.mp (show (blsOf es).map (fun bs => PyData.bool (bs.any id)) = some z from hz)
    obtain ⟨v, rfl, r1⟩ := resA1 r
    obtain ⟨a, xs, rfl, s1, p1⟩ := r1.list fh
    have e := blsOf_map h3
    subst e
    have e2 := RepA.bls p1
    subst e2
    exact ⟨a, bs, rfl, s1, q _ F H (.refl fh) (Rep.bl _)⟩
def bestOk (ds : List D) : Bool := (ds.all fun d => ds.all fun e => PySem.W.alike d e) && (ds.all fun d => match d with
  | .none => false
  | _ => true) && decide (PyData.depthAll ds ≤ 64)
theorem bestOk_of {ds : List D} (h : bestOk ds = true) : PySem.W.AlikeAll ds ∧ PyData.depthAll ds ≤ 64 := by
  unfold bestOk at h
  simp only [Bool.and_eq_true, List.all_eq_true, decide_eq_true_eq] at h
  obtain ⟨⟨h1, h2⟩, h3⟩ := h
  refine ⟨⟨h1, fun d hd z => ?_⟩, h3⟩
  subst z
  exact nomatch h2 _ hd
def minOf : List D → Option D
  | [] => none
  | x :: xs => if bestOk (x :: xs) = true then some (PySem.W.minD x xs) else none
def maxOf : List D → Option D
  | [] => none
  | x :: xs => if bestOk (x :: xs) = true then some (PySem.W.maxD x xs) else none
def minA : List D → Option D
  | [d] => (itemsD d).bind minOf
  | _ => none
def maxA : List D → Option D
  | [d] => (itemsD d).bind maxOf
  | _ => none
theorem minD_mem (x : D) : ∀ xs : List D, PySem.W.minD x xs ∈ x :: xs := by
  intro xs
  unfold PySem.W.minD
  induction xs generalizing x with
  | nil => exact List.mem_singleton.mpr rfl
  | cons y ys ih =>
    rw [List.foldl_cons]
    split
    · exact List.mem_cons_of_mem _ (ih y)
    · rcases List.mem_cons.mp (ih x) with e | e
      · rw [e]; exact List.mem_cons_self
      · exact List.mem_cons_of_mem _ (List.mem_cons_of_mem _ e)
theorem maxD_mem (x : D) : ∀ xs : List D, PySem.W.maxD x xs ∈ x :: xs := by
  intro xs
  unfold PySem.W.maxD
  induction xs generalizing x with
  | nil => exact List.mem_singleton.mpr rfl
  | cons y ys ih =>
    rw [List.foldl_cons]
    split
    · exact List.mem_cons_of_mem _ (ih y)
    · rcases List.mem_cons.mp (ih x) with e | e
      · rw [e]; exact List.mem_cons_self
      · exact List.mem_cons_of_mem _ (List.mem_cons_of_mem _ e)
def rBest (K : PySem.W.Frag) (f : D → List D → D) : List V → Hp → VK → Prop := fun vs H Q => ∃ a xs F x ds, vs = [V.ref a] ∧ Same F H ∧ SqA K H a xs ∧ RepA K F xs (x :: ds) ∧ bestOk (x :: ds) = true ∧ ∀ v, Rep K F v (f x ds) → Q v H
theorem best_end {X : Cx} {pins : List (Addr × Obj)} {σ : L2.St} {H F : Hp} {s : Shared} {xs : List V} {its : List Value} {ds : List D} {i : Nat} {u : Value} {h' : Heap} {tk : Nat} {m : D} {bs : List Addr} (I : Inv X pins σ H s) (fh : Same F H) (rv : Vals xs its) (rp : RepA X.K F xs ds) (ok : PySem.W.AlikeAll ds) (hm : m ∈ ds)
    (hu : its.toArray[i]? = some u) (hr : Reads h' u m bs) (hk : ∀ b o, s.heap.get? b = some o → h'.get? b = some o) : ∃ v, RelV v u ∧ Rep X.K F v m := by
  have hu' : its[i]? = some u := by rw [← hu]; simp
  have hi : i < xs.length := by rw [rv.length]; exact (List.getElem?_eq_some_iff.mp hu').1
  obtain ⟨u2, h2, r2⟩ := rv.get (List.getElem?_eq_getElem hi)
  rw [hu'] at h2; cases h2
  obtain ⟨d, h3, r3⟩ := rp.getV (List.getElem?_eq_getElem hi)
  have I2 : Inv X pins σ H { s with heap := h', toks := tk } := I.kept hk
  obtain ⟨as, r4⟩ := Dp.reads I2 d _ u ((r3.mono fh).dp (nd_alike d (ok.1 _ (List.mem_of_getElem? h3) _ (List.mem_of_getElem? h3)))) r2
  have e := PySem.W.alike_unique _ _ _ _ _ (ok.1 _ (List.mem_of_getElem? h3) _ hm) r4 hr
  subst e
  exact ⟨_, r2, r3⟩
theorem cr_minA {X : Cx} (hc : X.calm = true) (hu : X.A.units + 70 < cLine) : CallR X (.builtin "min") (rBest X.K PySem.W.minD) := by
  intro pins s σ H vs us Q I r h
  obtain ⟨a, xs, F, x, ds, rfl, fh, sq, rp, ok, q⟩ := h
  obtain ⟨u, rfl, ru⟩ := vals1 r
  cases ru
  obtain ⟨h1, h2⟩ := bestOk_of ok
  rcases sq with sq | sq
  · obtain ⟨its, rv, pl, hz⟩ := I.list sq
    obtain ⟨as, hr⟩ := Dp.readsAll I (x :: ds) xs its ((rp.mono fh).dp (ndA_of _ fun d hd => nd_alike d (h1.1 d hd d hd))) rv
    refine PySem.W.min_list_data (I.ok.hd hc) pl.isList (show ReadsAll s.heap its.toArray.toList _ _ from hr) h1 (by omega) fun i v h' tk bs hi hr' hk => ?_
    obtain ⟨w, r1, r2⟩ := best_end (tk := tk) I fh rv rp h1 (minD_mem x ds) hi hr' hk
    exact ⟨w, H, I.kept hk, r1, q w r2⟩
  · obtain ⟨its, rv, pl, hz⟩ := I.tuple sq
    obtain ⟨as, hr⟩ := Dp.readsAll I (x :: ds) xs its ((rp.mono fh).dp (ndA_of _ fun d hd => nd_alike d (h1.1 d hd d hd))) rv
    refine PySem.W.min_tuple_data (I.ok.hd hc) pl (show ReadsAll s.heap its.toArray.toList _ _ from hr) h1 (by omega) fun i v h' tk bs hi hr' hk => ?_
    obtain ⟨w, r1, r2⟩ := best_end (tk := tk) I fh rv rp h1 (minD_mem x ds) hi hr' hk
    exact ⟨w, H, I.kept hk, r1, q w r2⟩
theorem cr_minAK {X : Cx} (K' : PySem.W.Frag) (hc : X.calm = true) (hu : X.A.units + 70 < cLine) (hK : X.K = K' := by rfl) : CallR X (.builtin "min") (rBest K' PySem.W.minD) := by
  subst hK
  exact cr_minA (hc := hc) (hu := hu)
theorem cr_maxA {X : Cx} (hc : X.calm = true) (hu : X.A.units + 70 < cLine) : CallR X (.builtin "max") (rBest X.K PySem.W.maxD) := by
  intro pins s σ H vs us Q I r h
  obtain ⟨a, xs, F, x, ds, rfl, fh, sq, rp, ok, q⟩ := h
  obtain ⟨u, rfl, ru⟩ := vals1 r
  cases ru
  obtain ⟨h1, h2⟩ := bestOk_of ok
  rcases sq with sq | sq
  · obtain ⟨its, rv, pl, hz⟩ := I.list sq
    obtain ⟨as, hr⟩ := Dp.readsAll I (x :: ds) xs its ((rp.mono fh).dp (ndA_of _ fun d hd => nd_alike d (h1.1 d hd d hd))) rv
    refine PySem.W.max_list_data (I.ok.hd hc) pl.isList (show ReadsAll s.heap its.toArray.toList _ _ from hr) h1 (by omega) fun i v h' tk bs hi hr' hk => ?_
    obtain ⟨w, r1, r2⟩ := best_end (tk := tk) I fh rv rp h1 (maxD_mem x ds) hi hr' hk
    exact ⟨w, H, I.kept hk, r1, q w r2⟩
  · obtain ⟨its, rv, pl, hz⟩ := I.tuple sq
    obtain ⟨as, hr⟩ := Dp.readsAll I (x :: ds) xs its ((rp.mono fh).dp (ndA_of _ fun d hd => nd_alike d (h1.1 d hd d hd))) rv
    refine PySem.W.max_tuple_data (I.ok.hd hc) pl (show ReadsAll s.heap its.toArray.toList _ _ from hr) h1 (by omega) fun i v h' tk bs hi hr' hk => ?_
    obtain ⟨w, r1, r2⟩ := best_end (tk := tk) I fh rv rp h1 (maxD_mem x ds) hi hr' hk
    exact ⟨w, H, I.kept hk, r1, q w r2⟩
theorem cr_maxAK {X : Cx} (K' : PySem.W.Frag) (hc : X.calm = true) (hu : X.A.units + 70 < cLine) (hK : X.K = K' := by rfl) : CallR X (.builtin "max") (rBest K' PySem.W.maxD) := by
  subst hK
  exact cr_maxA (hc := hc) (hu := hu)
theorem cs_minA {K : PySem.W.Frag} : CallS K .fz (rBest K PySem.W.minD) minA := by
  intro F H Ha vs ds z Q fh r hz q
  match ds, r, hz with
  | [d], r, hz =>
    obtain ⟨es, h1, h2⟩ := bind_some (show (itemsD d).bind minOf = some z from hz)
    obtain ⟨v, rfl, r1⟩ := resA1 r
    obtain ⟨a, xs, rfl, s1, p1⟩ := r1.items fh h1
    match es, h2, p1 with
    | x :: es, h2, p1 =>
      obtain ⟨ok, rfl⟩ := if_some h2
      exact ⟨a, xs, F, x, es, rfl, fh, s1, p1, ok, fun v rv => q v F H (.refl fh) rv⟩
theorem cs_maxA {K : PySem.W.Frag} : CallS K .fz (rBest K PySem.W.maxD) maxA := by
  intro F H Ha vs ds z Q fh r hz q
  match ds, r, hz with
  | [d], r, hz =>
    obtain ⟨es, h1, h2⟩ := bind_some (show (itemsD d).bind maxOf = some z from hz)
    obtain ⟨v, rfl, r1⟩ := resA1 r
    obtain ⟨a, xs, rfl, s1, p1⟩ := r1.items fh h1
    match es, h2, p1 with
    | x :: es, h2, p1 =>
      obtain ⟨ok, rfl⟩ := if_some h2
      exact ⟨a, xs, F, x, es, rfl, fh, s1, p1, ok, fun v rv => q v F H (.refl fh) rv⟩
end Q
end

/-! part: Q5 -/
section
set_option Elab.async false
set_option linter.all false
set_option maxRecDepth 100000
set_option maxHeartbeats 4000000
set_option autoImplicit false
namespace Q
open PySem PySem.Spec PySem.Calls PyProof.Rows L2
/-! ### statements -/
inductive Out where
  | nx (ρ : Rho)
  | bk (ρ : Rho)
  | ct (ρ : Rho)
  | rt (d : D)
abbrev Bd := Rho → Option Out
/-- what is known behind a return -/
def RtOk (K : PySem.W.Frag) (m : Md) (B : Bs) (F H : Hp) (v : V) (d : D) : Prop := Same B.F0 F ∧ Same B.G H ∧ Same F H ∧ New B.F0 F B.G ∧ Res K m B.G F H v d
/-- the ends that a statement's denotation reaches -/
def Ends_ (K : PySem.W.Frag) (m : Md) (W : List Nat) (B : Bs) (σ : L2.St) (D : Ends) (o : Out) : Prop := match o with
  | .nx ρ' => ∀ (σ' : L2.St) (F' H' : Hp), Rel K B F' H' σ' ρ' → (∀ j, j ∉ W → σ'[j]? = σ[j]?) → D.nx σ' H'
  | .bk ρ' => ∀ (σ' : L2.St) (F' H' : Hp), Rel K B F' H' σ' ρ' → (∀ j, j ∉ W → σ'[j]? = σ[j]?) → D.bk σ' H'
  | .ct ρ' => ∀ (σ' : L2.St) (F' H' : Hp), Rel K B F' H' σ' ρ' → (∀ j, j ∉ W → σ'[j]? = σ[j]?) → D.ct σ' H'
  | .rt d => ∀ (v : V) (F' H' : Hp), RtOk K m B F' H' v d → D.rt v H'
def SemS (K : PySem.W.Frag) (m : Md) (W : List Nat) (t : TS) (b : Bd) : Prop :=
  ∀ (B : Bs) (F H : Hp) (σ : L2.St) (ρ : Rho) (o : Out) (D : Ends), Rel K B F H σ ρ → b ρ = some o → Ends_ K m W B σ D o → t D σ H
structure DS (X : Cx) (m : Md) (W : List Nat) (st : Stmt) (t : TS) (b : Bd) : Prop where
  p : PS X st t
  s : SemS X.K m W t b
structure DSs (X : Cx) (m : Md) (W : List Nat) (st : List Stmt) (t : TS) (b : Bd) : Prop where
  p : PSs X st t
  s : SemS X.K m W t b
def bNext : Bd := fun ρ => some (.nx ρ)
def bSeq (a b : Bd) : Bd := fun ρ => (a ρ).bind fun o => match o with
  | .nx ρ' => b ρ'
  | o => some o
theorem ends_mono {K : PySem.W.Frag} {m : Md} {W W' : List Nat} {B : Bs} {σ : L2.St} {D : Ends} {o : Out} (h : Ends_ K m W' B σ D o) (hw : ∀ j, j ∈ W → j ∈ W') : Ends_ K m W B σ D o := by
  cases o with
  | nx ρ => exact fun σ' F' H' r k => h σ' F' H' r fun j hj => k j fun z => hj (hw j z)
  | bk ρ => exact fun σ' F' H' r k => h σ' F' H' r fun j hj => k j fun z => hj (hw j z)
  | ct ρ => exact fun σ' F' H' r k => h σ' F' H' r fun j hj => k j fun z => hj (hw j z)
  | rt d => exact h
theorem SemS.mono {K : PySem.W.Frag} {m : Md} {W W' : List Nat} {t : TS} {b : Bd} (h : SemS K m W t b) (hw : ∀ j, j ∈ W → j ∈ W') : SemS K m W' t b :=
  fun B F H σ ρ o D r hb e => h B F H σ ρ o D r hb (ends_mono e hw)
section
variable {X : Cx} {m : Md} {W W1 W2 : List Nat} {st : Stmt} {rest : List Stmt} {t u : TS} {b c : Bd} {pos : Pos}
theorem dss_nil : DSs X m [] [] tNext bNext := ⟨pss_nil, fun B F H σ ρ o D r hb e => by cases hb; exact e σ F H r fun _ _ => rfl⟩
theorem ends_after {K : PySem.W.Frag} {σ σ1 : L2.St} {B : Bs} {D : Ends} {o : Out} (e : Ends_ K m (W1 ++ W2) B σ D o) (k1 : ∀ j, j ∉ W1 → σ1[j]? = σ[j]?) : Ends_ K m W2 B σ1 D o := by
  have kk : ∀ (σ' : L2.St), (∀ j, j ∉ W2 → σ'[j]? = σ1[j]?) → ∀ j, j ∉ W1 ++ W2 → σ'[j]? = σ[j]? := fun σ' k' j hj =>
    (k' j fun z => hj (List.mem_append_right _ z)).trans (k1 j fun z => hj (List.mem_append_left _ z))
  cases o with
  | nx ρ2 => exact fun σ' F' H' r' k' => e σ' F' H' r' (kk σ' k')
  | bk ρ2 => exact fun σ' F' H' r' k' => e σ' F' H' r' (kk σ' k')
  | ct ρ2 => exact fun σ' F' H' r' k' => e σ' F' H' r' (kk σ' k')
  | rt d => exact e
theorem sem_seq {K : PySem.W.Frag} (h1 : SemS K m W1 t b) (h2 : SemS K m W2 u c) : SemS K m (W1 ++ W2) (tSeq t u) (bSeq b c) := by
  intro B F H σ ρ o D r hb e
  obtain ⟨o1, e1, e2⟩ := bind_some hb
  refine h1 B F H σ ρ o1 _ r e1 ?_
  cases o1 with
  | nx ρ1 => exact fun σ1 F1 H1 r1 k1 => h2 B F1 H1 σ1 ρ1 o D r1 e2 (ends_after e k1)
  | bk ρ1 => cases e2; exact fun σ' F' H' r' k' => e σ' F' H' r' fun j hj => k' j fun z => hj (List.mem_append_left _ z)
  | ct ρ1 => cases e2; exact fun σ' F' H' r' k' => e σ' F' H' r' fun j hj => k' j fun z => hj (List.mem_append_left _ z)
  | rt d => cases e2; exact e
theorem dss_cons (h1 : DS X m W1 st t b) (h2 : DSs X m W2 rest u c) : DSs X m (W1 ++ W2) (st :: rest) (tSeq t u) (bSeq b c) := ⟨pss_cons h1.p h2.p, sem_seq h1.s h2.s⟩
theorem dss_one (h1 : DS X m W st t b) : DSs X m W [st] t b := ⟨pss_one h1.p, h1.s⟩
theorem ds_pass : DS X m [] (.Pass pos) tNext bNext := ⟨ps_pass, fun B F H σ ρ o D r hb e => by cases hb; exact e σ F H r fun _ _ => rfl⟩
def bBreak : Bd := fun ρ => some (.bk ρ)
def bCont : Bd := fun ρ => some (.ct ρ)
def bNever : Bd := fun _ => none
theorem ds_break : DS X m [] (.Break pos) tBreak bBreak := ⟨ps_break, fun B F H σ ρ o D r hb e => by cases hb; exact e σ F H r fun _ _ => rfl⟩
theorem ds_cont : DS X m [] (.Continue pos) tCont bCont := ⟨ps_continue, fun B F H σ ρ o D r hb e => by cases hb; exact e σ F H r fun _ _ => rfl⟩
theorem ds_never : DS X m [] st tNever bNever := ⟨ps_never, fun B F H σ ρ o D r hb e => nomatch hb⟩
theorem dss_never {sts : List Stmt} : DSs X m [] sts tNever bNever := ⟨pss_never, fun B F H σ ρ o D r hb e => nomatch hb⟩
def bIf (c : Rho → Option Bool) (a b : Bd) : Bd := fun ρ => (c ρ).bind fun k => if k = true then a ρ else b ρ
theorem ds_if {e : Expr} {p q : List Stmt} {tc : TT} {fc : Rho → Option Bool} (hc : DT X e tc fc) (ha : DSs X m W1 p t b) (hb : DSs X m W2 q u c) : DS X m (W1 ++ W2) (.If e p q pos) (tIfS tc t u) (bIf fc b c) :=
  ⟨ps_if hc.p ha.p hb.p, fun B F H σ ρ o D r hf e => by
    obtain ⟨k, h1, h2⟩ := bind_some hf
    refine hc.s B F H σ ρ k _ r h1 fun F1 H1 x1 => ?_
    cases k with
    | true => exact ha.s B F1 H1 σ ρ o D (r.ext x1) h2 (ends_mono e fun j hj => List.mem_append_left _ hj)
    | false => exact hb.s B F1 H1 σ ρ o D (r.ext x1) h2 (ends_mono e fun j hj => List.mem_append_right _ hj)⟩
end
/-! ### the state changed -/
section
variable {K : PySem.W.Frag} {B : Bs} {F H : Hp} {σ : L2.St} {ρ : Rho}
theorem set_at {α : Type} {l : List α} {i j : Nat} {x y : α} (h : (l.set i x)[j]? = some y) : (j = i ∧ i < l.length ∧ y = x) ∨ (j ≠ i ∧ l[j]? = some y) := by
  by_cases e : j = i
  · subst e
    by_cases hl : j < l.length
    · rw [List.getElem?_set_self hl] at h
      exact .inl ⟨rfl, hl, (Option.some.inj h).symm⟩
    · rw [List.getElem?_eq_none (by simpa using hl)] at h
      cases h
  · rw [List.getElem?_set_ne (Ne.symm e)] at h
    exact .inr ⟨e, h⟩
theorem Rel.setIm (r : Rel K B F H σ ρ) {i : Nat} {v : V} {d : D} (h : Rep K F v d) : Rel K B F H (σ.set i (some v)) (ρ.set i (.im d)) := by
  refine ⟨by simpa using r.len, r.f0, r.g, r.fh, r.nw, fun j o s h1 h2 => ?_, fun j k d1 d2 a hjk h1 h2 h3 h4 => ?_⟩
  · rcases set_at h1 with ⟨rfl, _, rfl⟩ | ⟨n1, h1⟩
    · rcases set_at h2 with ⟨_, _, rfl⟩ | ⟨n2, _⟩
      · exact ⟨v, rfl, h⟩
      · exact absurd rfl n2
    · rcases set_at h2 with ⟨e, _, _⟩ | ⟨_, h2⟩
      · exact absurd e n1
      · exact r.sl j o s h1 h2
  · rcases set_at h1 with ⟨_, _, e⟩ | ⟨n1, h1⟩
    · cases e
    rcases set_at h2 with ⟨_, _, e⟩ | ⟨n2, h2⟩
    · cases e
    rw [List.getElem?_set_ne (Ne.symm n1)] at h3
    rw [List.getElem?_set_ne (Ne.symm n2)] at h4
    exact r.sep j k d1 d2 a hjk h1 h2 h3 h4
/-- a new object gets a name of its own -/
theorem Rel.setOw (r : Rel K B F H σ ρ) {i : Nat} {a : Addr} {d : D} (h0 : F a = none) (h1 : B.G a = none) (ho : Own K F H a d) (hn : ∀ (j : Nat) (e : D), j ≠ i → ρ[j]? = some (.ow e) → σ[j]? ≠ some (some (.ref a))) : Rel K B F H (σ.set i (some (.ref a))) (ρ.set i (.ow d)) := by
  refine ⟨by simpa using r.len, r.f0, r.g, r.fh, r.nw, fun j o s e1 e2 => ?_, fun j k d1 d2 b hjk e1 e2 e3 e4 => ?_⟩
  · rcases set_at e1 with ⟨rfl, _, rfl⟩ | ⟨n1, e1⟩
    · rcases set_at e2 with ⟨_, _, rfl⟩ | ⟨n2, _⟩
      · exact ⟨a, rfl, h0, h1, ho⟩
      · exact absurd rfl n2
    · rcases set_at e2 with ⟨e, _, _⟩ | ⟨_, e2⟩
      · exact absurd e n1
      · exact r.sl j o s e1 e2
  · by_cases hj : j = i
    · subst hj
      rcases set_at e3 with ⟨_, _, e⟩ | ⟨n, _⟩
      · cases e
        have hk : k ≠ j := fun z => hjk z.symm
        rw [List.getElem?_set_ne (Ne.symm hk)] at e2 e4
        exact hn k d2 hk e2 e4
      · exact absurd rfl n
    · by_cases hk : k = i
      · subst hk
        rcases set_at e4 with ⟨_, _, e⟩ | ⟨n, _⟩
        · cases e
          rw [List.getElem?_set_ne (Ne.symm hj)] at e1 e3
          exact hn j d1 hj e1 e3
        · exact absurd rfl n
      · rw [List.getElem?_set_ne (Ne.symm hj)] at e1 e3
        rw [List.getElem?_set_ne (Ne.symm hk)] at e2 e4
        exact r.sep j k d1 d2 b hjk e1 e2 e3 e4
/-- an owned object is written -/
theorem Rel.write (r : Rel K B F H σ ρ) {i : Nat} {a : Addr} {d d' : D} {o' : HO} (h1 : ρ[i]? = some (.ow d)) (h2 : σ[i]? = some (some (.ref a))) (h0 : F a = none) (hg : B.G a = none) (ho : Own K F (upd H a o') a d') : Rel K B F (upd H a o') σ (ρ.set i (.ow d')) := by
  refine ⟨by simpa using r.len, r.f0, fun b u q => ?_, fun b u q => ?_, r.nw, fun j o s e1 e2 => ?_, fun j k d1 d2 b hjk e1 e2 e3 e4 => ?_⟩
  · rw [upd_ne (ne_of_none q hg)]; exact r.g b u q
  · rw [upd_ne (ne_of_none q h0)]; exact r.fh b u q
  · rcases set_at e2 with ⟨rfl, _, rfl⟩ | ⟨n, e2⟩
    · rw [h2] at e1; cases e1
      exact ⟨a, rfl, h0, hg, ho⟩
    · have q := r.sl j o s e1 e2
      cases s with
      | un => trivial
      | im d1 => exact q
      | ow d1 =>
        obtain ⟨c, rfl, f, g, w⟩ := q
        have hca : c ≠ a := fun z => by
          subst z
          exact r.sep j i d1 d c n e2 h1 e1 h2
        refine ⟨c, rfl, f, g, ?_⟩
        cases d1 with
        | list ds =>
          obtain ⟨vs, w1, w2⟩ := w
          exact ⟨vs, by rw [upd_ne hca]; exact w1, w2⟩
        | dict ds =>
          obtain ⟨vs, w1, w2⟩ := w
          exact ⟨vs, by rw [upd_ne hca]; exact w1, w2⟩
        | _ => exact w.elim
  · have old : ∀ {j : Nat} {e : D}, (ρ.set i (.ow d'))[j]? = some (.ow e) → ∃ e', ρ[j]? = some (.ow e') := fun {j e} q => by
      rcases set_at q with ⟨rfl, _, _⟩ | ⟨_, q⟩
      · exact ⟨d, h1⟩
      · exact ⟨e, q⟩
    obtain ⟨d1', e1⟩ := old e1
    obtain ⟨d2', e2⟩ := old e2
    exact r.sep j k d1' d2' b hjk e1 e2 e3 e4
/-- an owned object is frozen -/
theorem Rel.freeze (r : Rel K B F H σ ρ) {i : Nat} {d : D} (h1 : ρ[i]? = some (.ow d)) : ∃ F' v, Same F F' ∧ σ[i]? = some (some v) ∧ Rep K F' v d ∧ Rel K B F' H σ (ρ.set i (.im d)) := by
  obtain ⟨o, e, a, rfl, f, g, w⟩ := r.at h1
  cases d with
  | list ds =>
    obtain ⟨vs, w1, w2⟩ := w
    have s1 : Same F (upd F a (.lst vs)) := same_upd f
    have hrep : Rep K (upd F a (.lst vs)) (.ref a) (.list ds) := .lst (.of upd_same) (w2.mono s1)
    refine ⟨upd F a (.lst vs), .ref a, s1, e, hrep, ⟨by simpa using r.len, r.f0.trans s1, r.g, same_upd2 r.fh w1 f, fun b q => ?_, fun j o s e1 e2 => ?_, fun j k d1 d2 b hjk e1 e2 e3 e4 => ?_⟩⟩
    · by_cases z : b = a
      · subst z; exact .inr g
      · rw [upd_ne z] at q; exact r.nw b q
    · rcases set_at e2 with ⟨rfl, _, rfl⟩ | ⟨n, e2⟩
      · rw [e] at e1; cases e1
        exact ⟨_, rfl, hrep⟩
      · have q := r.sl j o s e1 e2
        cases s with
        | un => trivial
        | im d1 => obtain ⟨v, q1, q2⟩ := q; exact ⟨v, q1, q2.mono s1⟩
        | ow d1 =>
          obtain ⟨c, rfl, f', g', w'⟩ := q
          have hca : c ≠ a := fun z => by
            subst z
            exact r.sep j i d1 _ c n e2 h1 e1 e
          exact ⟨c, rfl, by rw [upd_ne hca]; exact f', g', w'.mono s1 (.refl _)⟩
    · rcases set_at e1 with ⟨_, _, z⟩ | ⟨n1, e1⟩
      · cases z
      rcases set_at e2 with ⟨_, _, z⟩ | ⟨n2, e2⟩
      · cases z
      exact r.sep j k d1 d2 b hjk e1 e2 e3 e4
  | dict ds =>
    obtain ⟨vs, w1, w2⟩ := w
    have s1 : Same F (upd F a (.dK vs)) := same_upd f
    have hrep : Rep K (upd F a (.dK vs)) (.ref a) (.dict ds) := .dct (.of upd_same) (w2.mono s1)
    refine ⟨upd F a (.dK vs), .ref a, s1, e, hrep, ⟨by simpa using r.len, r.f0.trans s1, r.g, same_upd2 r.fh w1 f, fun b q => ?_, fun j o s e1 e2 => ?_, fun j k d1 d2 b hjk e1 e2 e3 e4 => ?_⟩⟩
    · by_cases z : b = a
      · subst z; exact .inr g
      · rw [upd_ne z] at q; exact r.nw b q
    · rcases set_at e2 with ⟨rfl, _, rfl⟩ | ⟨n, e2⟩
      · rw [e] at e1; cases e1
        exact ⟨_, rfl, hrep⟩
      · have q := r.sl j o s e1 e2
        cases s with
        | un => trivial
        | im d1 => obtain ⟨v, q1, q2⟩ := q; exact ⟨v, q1, q2.mono s1⟩
        | ow d1 =>
          obtain ⟨c, rfl, f', g', w'⟩ := q
          have hca : c ≠ a := fun z => by
            subst z
            exact r.sep j i d1 _ c n e2 h1 e1 e
          exact ⟨c, rfl, by rw [upd_ne hca]; exact f', g', w'.mono s1 (.refl _)⟩
    · rcases set_at e1 with ⟨_, _, z⟩ | ⟨n1, e1⟩
      · cases z
      rcases set_at e2 with ⟨_, _, z⟩ | ⟨n2, e2⟩
      · cases z
      exact r.sep j k d1 d2 b hjk e1 e2 e3 e4
  | _ => exact w.elim
theorem set_keep {i : Nat} {v : Option V} : ∀ j, j ∉ [i] → (σ.set i v)[j]? = σ[j]? := fun j hj => List.getElem?_set_ne fun z => hj (by rw [z]; exact List.mem_singleton.mpr rfl)
end
/-! ### assignments, return -/
section
variable {X : Cx} {m m1 : Md} {pos pos' : Pos} {e : Expr} {te : TE} {f : Rho → Option D}
def bAsg (i : Nat) (f : Rho → Option D) : Bd := fun ρ => (f ρ).bind fun d => some (.nx (ρ.set i (.im d)))
def bOwn (i : Nat) (f : Rho → Option D) : Bd := fun ρ => (f ρ).bind fun d => some (.nx (ρ.set i (.ow d)))
theorem sem_asg {K : PySem.W.Frag} {i : Nat} (h : SemE K .fz te f) : SemS K m [i] (tAsg te (gName i)) (bAsg i f) := by
  intro B F H σ ρ o D r hb q
  obtain ⟨d, h1, h2⟩ := bind_some hb
  cases h2
  exact h B F H σ ρ d _ r h1 fun v F1 H1 x1 r1 => q _ F1 H1 ((r.ext x1).setIm r1) set_keep
theorem own_ne {K : PySem.W.Frag} {B : Bs} {F H : Hp} {σ : L2.St} {ρ : Rho} (r : Rel K B F H σ ρ) {a : Addr} (h : H a = none) : ∀ (j : Nat) (e : D), ρ[j]? = some (.ow e) → σ[j]? ≠ some (some (.ref a)) := fun j e h1 h2 => by
  have q := r.sl j _ _ h2 h1
  obtain ⟨b, eb, _, _, w⟩ := q
  cases eb
  exact w.there h
theorem sem_own {K : PySem.W.Frag} {i : Nat} (h : SemE K .fr te f) : SemS K m [i] (tAsg te (gName i)) (bOwn i f) := by
  intro B F H σ ρ o D r hb q
  obtain ⟨d, h1, h2⟩ := bind_some hb
  cases h2
  refine h B F H σ ρ d _ r h1 fun v F1 H1 x1 r1 => ?_
  obtain ⟨a, rfl, h0, h3, ho⟩ := r1
  exact q _ F1 H1 ((r.ext x1).setOw h3 (r.g.free h0) ho fun j e _ e1 => own_ne r h0 j e e1) set_keep
theorem ds_asg {i : Nat} {x : Str} (he : DE X .fz e te f) (hN : X.N.Nodup) (hi : X.N[i]? = some x := by rfl) (hx : Loc X.env.scope x := by first | exact Or.inl rfl | exact Or.inr rfl) (hs : swapsWith e (some (.Name x pos')) pos.line X.env = pure false := by rfl)
    (hf : X.fn x = true ∨ X.env.scope.names.lookup x = some .local := by first | exact .inl rfl | exact .inr rfl) : DS X m [i] (.Assign [.Name x pos'] e pos) (tAsg te (gName i)) (bAsg i f) := ⟨ps_set hN hi hx he.p hs hf, sem_asg he.s⟩
theorem ds_own {i : Nat} {x : Str} (he : DE X .fr e te f) (hN : X.N.Nodup) (hi : X.N[i]? = some x := by rfl) (hx : Loc X.env.scope x := by first | exact Or.inl rfl | exact Or.inr rfl) (hs : swapsWith e (some (.Name x pos')) pos.line X.env = pure false := by rfl)
    (hf : X.fn x = true ∨ X.env.scope.names.lookup x = some .local := by first | exact .inl rfl | exact .inr rfl) : DS X m [i] (.Assign [.Name x pos'] e pos) (tAsg te (gName i)) (bOwn i f) := ⟨ps_set hN hi hx he.p hs hf, sem_own he.s⟩
/-- x = y, y an owned object: frozen from then on -/
def bMove (i j : Nat) : Bd := fun ρ => match ρ[j]? with
  | some (.im d) => some (.nx (ρ.set i (.im d)))
  | some (.ow d) => some (.nx ((ρ.set j (.im d)).set i (.im d)))
  | _ => none
theorem sem_move {K : PySem.W.Frag} {i j : Nat} : SemS K m [i] (tAsg (tVar j) (gName i)) (bMove i j) := by
  intro B F H σ ρ o D r hb q
  unfold bMove at hb
  split at hb
  · rename_i d e1
    cases hb
    obtain ⟨o, h1, v, rfl, h2⟩ := r.at e1
    exact ⟨v, h1, q _ F H (r.setIm h2) set_keep⟩
  · rename_i d e1
    cases hb
    obtain ⟨F', v, s1, h1, h2, r2⟩ := r.freeze e1
    exact ⟨v, h1, q _ F' H (r2.setIm h2) set_keep⟩
  · cases hb
theorem ds_move {i j : Nat} {x y : Str} {p : Pos} (hN : X.N.Nodup) (hi : X.N[i]? = some x := by rfl) (hx : Loc X.env.scope x := by first | exact Or.inl rfl | exact Or.inr rfl) (hs : swapsWith (.Name y p) (some (.Name x pos')) pos.line X.env = pure false := by rfl)
    (hf : X.fn x = true ∨ X.env.scope.names.lookup x = some .local := by first | exact .inl rfl | exact .inr rfl) (hj : X.N[j]? = some y := by rfl) (hv : Vis X.env.scope y := by first | exact Or.inl rfl | exact Or.inr (Or.inl rfl) | exact Or.inr (Or.inr rfl))
    (hd : (y == ("__debug__" : Str)) = false := by decide) (hcd : (y == ("__classdict__" : Str)) = false := by decide) : DS X m [i] (.Assign [.Name x pos'] (.Name y p) pos) (tAsg (tVar j) (gName i)) (bMove i j) := ⟨ps_set hN hi hx (pe_var hj hv hd hcd) hs hf, sem_move⟩
def bRet (f : Rho → Option D) : Bd := fun ρ => (f ρ).map .rt
theorem rel_rt {K : PySem.W.Frag} {B : Bs} {F H : Hp} {σ : L2.St} {ρ : Rho} {v : V} {d : D} (r : Rel K B F H σ ρ) (h : Res K m B.G F H v d) : RtOk K m B F H v d := ⟨r.f0, r.g, r.fh, r.nw, h⟩
theorem ds_ret (he : DE X m e te f) : DS X m [] (.Return (some e) pos) (tRet te) (bRet f) := ⟨ps_ret he.p, fun B F H σ ρ o D r hb q => by
  obtain ⟨d, h1, rfl⟩ := Option.map_eq_some_iff.mp hb
  exact he.s B F H σ ρ d _ r h1 fun v F1 H1 x1 r1 => q v F1 H1 (rel_rt (r.ext x1) (r1.back (F1 := F1) r.g))⟩
/-- return of an owned name: the object itself -/
def vO (i : Nat) : Rho → Option D := fun ρ => match ρ[i]? with
  | some (.ow d) => some d
  | _ => none
theorem ds_retOwn {i : Nat} {x : Str} {p : Pos} (hN : X.N[i]? = some x := by rfl) (hv : Vis X.env.scope x := by first | exact Or.inl rfl | exact Or.inr (Or.inl rfl) | exact Or.inr (Or.inr rfl)) (hd : (x == ("__debug__" : Str)) = false := by decide)
    (hcd : (x == ("__classdict__" : Str)) = false := by decide) : DS X .fr [] (.Return (some (.Name x p)) pos) (tRet (tVar i)) (bRet (vO i)) := ⟨ps_ret (pe_var hN hv hd hcd), fun B F H σ ρ o D r hb q => by
  obtain ⟨d, h1, rfl⟩ := Option.map_eq_some_iff.mp hb
  unfold vO at h1
  split at h1
  · rename_i d' e1
    cases h1
    obtain ⟨o, h1, a, rfl, h2, h3, h4⟩ := r.at e1
    exact ⟨_, h1, q _ F H (rel_rt r ⟨a, rfl, h3, h2, h4⟩)⟩
  · cases h1⟩
/-- return of a name whatever it is, frozen -/
theorem ds_retP {i : Nat} {x : Str} {p : Pos} (hN : X.N[i]? = some x := by rfl) (hv : Vis X.env.scope x := by first | exact Or.inl rfl | exact Or.inr (Or.inl rfl) | exact Or.inr (Or.inr rfl)) (hd : (x == ("__debug__" : Str)) = false := by decide)
    (hcd : (x == ("__classdict__" : Str)) = false := by decide) : DS X .fz [] (.Return (some (.Name x p)) pos) (tRet (tVar i)) (bRet (vP i)) := ⟨ps_ret (pe_var hN hv hd hcd), fun B F H σ ρ o D r hb q => by
  obtain ⟨d, h1, rfl⟩ := Option.map_eq_some_iff.mp hb
  unfold vP at h1
  split at h1
  · rename_i d' e1
    cases h1
    obtain ⟨o, h1, v, rfl, h2⟩ := r.at e1
    exact ⟨v, h1, q _ F H (rel_rt r h2)⟩
  · rename_i d' e1
    cases h1
    obtain ⟨F', v, s1, h1, h2, r2⟩ := r.freeze e1
    exact ⟨v, h1, q _ F' H (rel_rt r2 h2)⟩
  · cases h1⟩
theorem ds_retN : DS X .fz [] (.Return none pos) tRetN (fun _ => some (.rt .none)) := ⟨ps_retN, fun B F H σ ρ o D r hb q => by cases hb; exact q _ F H (rel_rt r Rep.non)⟩
end
end Q
end

/-! part: Q6 -/
section
set_option Elab.async false
set_option linter.all false
set_option maxRecDepth 100000
set_option maxHeartbeats 4000000
set_option autoImplicit false
namespace Q
open PySem PySem.Spec PySem.Calls PyProof.Rows L2
/-! ### what is walked -/
/-- a value as a datum; w: a pair made by an iterator will do -/
def RepB (w : Bool) (K : PySem.W.Frag) (F : Hp) (v : V) (d : D) : Prop := Rep K F v d ∨ (w = true ∧ ∃ a xs ds, v = .ref a ∧ d = .tuple ds ∧ SqT K F a xs ∧ RepA K F xs ds)
theorem RepB.strong {K : PySem.W.Frag} {F : Hp} {v : V} {d : D} (h : RepB false K F v d) : Rep K F v d := h.elim id fun z => nomatch z.1
/-- over data: fixed. st: what must stand besides F (none for an iterable that is frozen) -/
structure ItO (w : Bool) (K : PySem.W.Frag) (J : It) (F : Hp) (st : Hp → Prop) (ds : List D) : Prop where
  go : ∀ (i : Nat) (F' H' : Hp), i < ds.length → Same F F' → Same F' H' → st H' → J.go i H'
  yld : ∀ (i : Nat) (d : D) (F' H' : Hp) (x : V) (H3 : Hp), ds[i]? = some d → Same F F' → Same F' H' → st H' → J.yld i H' x H3 → ∃ F3, Ext F' H' F3 H3 ∧ RepB w K F3 x d
  stop : ∀ (i : Nat) (F' H' : Hp), ds.length ≤ i → Same F F' → Same F' H' → st H' → J.stop i H'
theorem ItO.weak {w : Bool} {K : PySem.W.Frag} {J : It} {F : Hp} {st : Hp → Prop} {ds : List D} (h : ItO false K J F st ds) : ItO w K J F st ds :=
  ⟨h.go, fun i d F' H' x H3 h1 h2 h3 h4 h5 => by
    obtain ⟨F3, e, r⟩ := h.yld i d F' H' x H3 h1 h2 h3 h4 h5
    exact ⟨F3, e, .inl r.strong⟩, h.stop⟩
theorem ItO.imp {w : Bool} {K : PySem.W.Frag} {J : It} {F : Hp} {st st' : Hp → Prop} {ds : List D} (h : ItO w K J F st ds) (i : ∀ H, st' H → st H) : ItO w K J F st' ds :=
  ⟨fun a b c h1 h2 h3 h4 => h.go a b c h1 h2 h3 (i _ h4), fun a d b c x y h1 h2 h3 h4 h5 => h.yld a d b c x y h1 h2 h3 (i _ h4) h5, fun a b c h1 h2 h3 h4 => h.stop a b c h1 h2 h3 (i _ h4)⟩
/-- frozen: m = fz: nothing must stand but F; m = pk: the heap as it is must be kept -/
def SemI (w : Bool) (K : PySem.W.Frag) (m : Md) (wi : TI) (f : Rho → Option (List D)) : Prop :=
  ∀ (B : Bs) (F H : Hp) (σ : L2.St) (ρ : Rho) (ds : List D) (R : It → Hp → Prop), Rel K B F H σ ρ → f ρ = some ds →
    (∀ J F' H', Ext F H F' H' → ItO w K J F' (match m with
      | .fz => fun _ => True
      | _ => fun H2 => Same H' H2) ds → R J H') → wi σ H R
structure DI (w : Bool) (X : Cx) (m : Md) (tg iter : Expr) (wi : TI) (f : Rho → Option (List D)) : Prop where
  p : PI X tg iter wi
  s : SemI w X.K m wi f
theorem DI.pk {w : Bool} {X : Cx} {m : Md} {tg iter : Expr} {wi : TI} {f : Rho → Option (List D)} (h : DI w X m tg iter wi f) : DI w X .pk tg iter wi f := ⟨h.p, fun B F H σ ρ ds R r hf q => h.s B F H σ ρ ds R r hf fun J F' H' x it => q J F' H' x (by
  cases m with
  | fz => exact it.imp fun _ _ => trivial
  | pk => exact it
  | fr => exact it)⟩
/-! a list, a tuple, a text -/
def iAny (K : PySem.W.Frag) (te : TE) : TI := fun σ H R => te σ H fun x H1 => (∃ a, x = .ref a ∧ (∃ xs, SqL K H1 a xs) ∧ R (Itl K a) H1) ∨ ((∃ a, x = .ref a ∧ (∃ xs, SqT K H1 a xs) ∧ R (Itt K a) H1) ∨ ∃ z, x = .str z ∧ R (Its z) H1)
theorem pi_any {X : Cx} {tg l : Expr} {tl : TE} (hl : PE X l tl) : PI X tg l (iAny X.K tl) := by
  refine ⟨fun pins s σ H R I h => ?_⟩
  refine thn (hl.run pins s σ H _ I h) fun v s1 ⟨x, H1, I1, r1, q1⟩ => ?_
  rcases q1 with ⟨a, e, ⟨xs, hq⟩, q⟩ | ⟨a, e, ⟨xs, hq⟩, q⟩ | ⟨z, e, q⟩
  · subst e
    cases r1
    obtain ⟨its, rv, p, hz⟩ := I1.list hq
    refine wpAny_pyIter_list p.isList ?_
    refine ⟨s1.heap.objs.size, [s1.heap.objs.size], _, _, H1, rfl, I1.kept (t' := s1.toks) fun b o e => Heap.get?_push_of_some _ e, turn_list a _, ⟨_, Heap.get?_push_size _ rfl, rfl, rfl⟩, fun b hb => ?_, q⟩
    have e : b = s1.heap.objs.size := by simpa using hb
    subst e
    exact I1.fpOk (Nat.le_refl _) (I1.hok.fresh (Nat.le_refl _))
  · subst e
    cases r1
    obtain ⟨its, rv, p, hz⟩ := I1.tuple hq
    refine wpAny_pyIter_tuple (show s1.heap.IsTuple a its.toArray from p) ?_
    refine ⟨s1.heap.objs.size, [s1.heap.objs.size], _, _, H1, rfl, I1.kept (t' := s1.toks) fun b o e => Heap.get?_push_of_some _ e, turn_tuple a _, ⟨_, Heap.get?_push_size _ rfl, rfl, rfl⟩, fun b hb => ?_, q⟩
    have e : b = s1.heap.objs.size := by simpa using hb
    subst e
    exact I1.fpOk (Nat.le_refl _) (I1.hok.fresh (Nat.le_refl _))
  · subst e
    obtain ⟨t, rfl⟩ := r1
    cases ha : z.cps.all (· < 128)
    · exact wpAny_pyIter_wide ha (pi_one (tk := s1.toks) I1 _ (turn_str _ z t "str_iterator" (.inr rfl)) ⟨_, Heap.get?_push_size _ rfl, rfl, rfl⟩ q)
    · exact wpAny_pyIter_ascii ha (pi_one (tk := s1.toks) I1 _ (turn_str _ z t "str_ascii_iterator" (.inl rfl)) ⟨_, Heap.get?_push_size _ rfl, rfl, rfl⟩ q)
def signsD (z : Str) : List D := z.cps.toList.map fun c => .str ⟨#[c]⟩
def walkD : D → Option (List D)
  | .list ds => some ds
  | .tuple ds => some ds
  | .str z => some (signsD z)
  | _ => none
def fI (f : Rho → Option D) : Rho → Option (List D) := fun ρ => (f ρ).bind walkD
theorem SqL.inj {K : PySem.W.Frag} {F H : Hp} {a : Addr} {xs ys : List V} (h : SqL K F a xs) (s : Same F H) (h' : SqL K H a ys) (nk : ∀ o, K.lookup a = some o → F a = none → True) : True := trivial
theorem sq_it {K : PySem.W.Frag} {H : Hp} {a : Addr} {xs : List V} {d : D} {ds : List D} {F : Hp} {i : Nat} (r : RepA K F xs ds) (h : ds[i]? = some d) : ∃ x, xs[i]? = some x ∧ Rep K F x d := r.get h
theorem itl_ok {K : PySem.W.Frag} {F : Hp} {a : Addr} {xs : List V} {ds : List D} {st : Hp → Prop} (hs : ∀ H, Same F H → st H → SqL K H a xs) (r : RepA K F xs ds) : ItO false K (Itl K a) F st ds :=
  ⟨fun i F' H' hi s1 s2 s3 => by
    obtain ⟨x, h1, _⟩ := r.get (List.getElem?_eq_getElem hi)
    exact ⟨xs, x, hs H' (s1.trans s2) s3, h1⟩, fun i d F' H' x H3 hd s1 s2 s3 y => by
    obtain ⟨rfl, y⟩ := y
    obtain ⟨x', h1, h2⟩ := r.get hd
    have e := y xs (hs _ (s1.trans s2) s3)
    rw [h1] at e
    cases e
    exact ⟨F', .refl s2, .inl (h2.mono s1)⟩, fun i F' H' hi s1 s2 s3 => ⟨xs, hs H' (s1.trans s2) s3, by rw [r.length]; exact hi⟩⟩
theorem itt_ok {K : PySem.W.Frag} {F : Hp} {a : Addr} {xs : List V} {ds : List D} {st : Hp → Prop} (hs : ∀ H, Same F H → st H → SqT K H a xs) (r : RepA K F xs ds) : ItO false K (Itt K a) F st ds :=
  ⟨fun i F' H' hi s1 s2 s3 => by
    obtain ⟨x, h1, _⟩ := r.get (List.getElem?_eq_getElem hi)
    exact ⟨xs, x, hs H' (s1.trans s2) s3, h1⟩, fun i d F' H' x H3 hd s1 s2 s3 y => by
    obtain ⟨rfl, y⟩ := y
    obtain ⟨x', h1, h2⟩ := r.get hd
    have e := y xs (hs _ (s1.trans s2) s3)
    rw [h1] at e
    cases e
    exact ⟨F', .refl s2, .inl (h2.mono s1)⟩, fun i F' H' hi s1 s2 s3 => ⟨xs, hs H' (s1.trans s2) s3, by rw [r.length]; exact hi⟩⟩
theorem its_ok {K : PySem.W.Frag} {F : Hp} {z : Str} {st : Hp → Prop} : ItO false K (Its z) F st (signsD z) := by
  have hl : (signsD z).length = z.cps.size := by unfold signsD; rw [List.length_map, Array.length_toList]
  refine ⟨fun i F' H' hi s1 s2 s3 => by rw [hl] at hi; exact hi, fun i d F' H' x H3 hd s1 s2 s3 y => ?_, fun i F' H' hi s1 s2 s3 => by rw [hl] at hi; exact hi⟩
  obtain ⟨rfl, c, h1, rfl⟩ := y
  have e : (signsD z)[i]? = some (.str ⟨#[c]⟩) := by
    unfold signsD
    rw [List.getElem?_map, Array.getElem?_toList, h1]
    rfl
  rw [e] at hd
  cases hd
  exact ⟨F', .refl s2, .inl (Rep.str _)⟩
theorem sem_any {K : PySem.W.Frag} {te : TE} {f : Rho → Option D} (h : SemE K .fz te f) : SemI false K .fz (iAny K te) (fI f) := by
  intro B F H σ ρ ds R rel hf q
  obtain ⟨d, h1, h2⟩ := bind_some hf
  refine h B F H σ ρ d _ rel h1 fun v F1 H1 x1 r1 => ?_
  cases d with
  | list es =>
    cases h2
    cases r1 with
    | lst hs hr => exact .inl ⟨_, rfl, ⟨_, x1.s.seq hs⟩, q _ F1 H1 x1 (itl_ok (fun H s _ => s.seq hs) hr)⟩
  | tuple es =>
    cases h2
    cases r1 with
    | tup hs hr => exact .inr (.inl ⟨_, rfl, ⟨_, (hs.mono x1.s).sq⟩, q _ F1 H1 x1 (itt_ok (fun H s _ => (hs.mono s).sq) hr)⟩)
  | str z =>
    cases h2
    cases r1 with
    | str => exact .inr (.inr ⟨z, rfl, q _ F1 H1 x1 its_ok⟩)
  | _ => cases h2
theorem sem_anyP {K : PySem.W.Frag} {te : TE} {f : Rho → Option D} {m : Md} (h : SemE K m te f) : SemI false K .pk (iAny K te) (fI f) := by
  intro B F H σ ρ ds R rel hf q
  obtain ⟨d, h1, h2⟩ := bind_some hf
  refine h B F H σ ρ d _ rel h1 fun v F1 H1 x1 r1 => ?_
  cases d with
  | list es =>
    cases h2
    obtain ⟨a, xs, rfl, hs, hr⟩ := r1.list x1.s
    exact .inl ⟨a, rfl, ⟨xs, hs⟩, q _ F1 H1 x1 (itl_ok (fun H _ s => s.seq hs) hr)⟩
  | tuple es =>
    cases h2
    obtain ⟨a, xs, rfl, hs, hr⟩ := r1.tup x1.s
    exact .inr (.inl ⟨a, rfl, ⟨xs, hs.sq⟩, q _ F1 H1 x1 (itt_ok (fun H _ s => (hs.mono s).sq) hr)⟩)
  | str z =>
    cases h2
    rw [r1.str]
    exact .inr (.inr ⟨z, rfl, q _ F1 H1 x1 its_ok⟩)
  | _ => cases h2
section
variable {X : Cx} {tg e : Expr} {te : TE} {f : Rho → Option D} {m : Md} {es : List Expr} {ta : TA} {fs : Rho → Option (List D)} {p pos : Pos}
theorem di_any (h : DE X .fz e te f) : DI false X .fz tg e (iAny X.K te) (fI f) := ⟨pi_any h.p, sem_any h.s⟩
theorem di_anyK (K' : PySem.W.Frag) (h : DE X .fz e te f) (hK : X.K = K' := by rfl) : DI false X .fz tg e (iAny K' te) (fI f) := by
  subst hK
  exact di_any (h := h)
theorem di_anyP (h : DE X m e te f) : DI false X .pk tg e (iAny X.K te) (fI f) := ⟨pi_any h.p, sem_anyP h.s⟩
theorem di_anyPK (K' : PySem.W.Frag) (h : DE X m e te f) (hK : X.K = K' := by rfl) : DI false X .pk tg e (iAny K' te) (fI f) := by
  subst hK
  exact di_anyP (h := h)
/-! ranges -/
def rgD (lo : Int) (n : Nat) : List D := (List.range n).map fun i => .int (lo + (i : Nat))
theorem rgD_at {lo : Int} {n i : Nat} {d : D} (h : (rgD lo n)[i]? = some d) : d = .int (lo + (i : Nat)) := by
  unfold rgD at h
  rw [List.getElem?_map] at h
  obtain ⟨j, h1, rfl⟩ := Option.map_eq_some_iff.mp h
  obtain ⟨h2, h3⟩ := List.getElem?_eq_some_iff.mp h1
  rw [List.getElem_range] at h3
  rw [h3]
theorem rgD_length (lo : Int) (n : Nat) : (rgD lo n).length = n := by unfold rgD; rw [List.length_map, List.length_range]
theorem itr_ok {K : PySem.W.Frag} {F : Hp} {lo : Int} {n : Nat} {st : Hp → Prop} : ItO false K (Itr lo n) F st (rgD lo n) :=
  ⟨fun i F' H' hi s1 s2 s3 => by rw [rgD_length] at hi; exact hi, fun i d F' H' x H3 hd s1 s2 s3 y => by
    obtain ⟨rfl, rfl⟩ := y
    rw [rgD_at hd]
    exact ⟨F', .refl s2, .inl (Rep.int _)⟩, fun i F' H' hi s1 s2 s3 => by rw [rgD_length] at hi; exact hi⟩
def rg1D : List D → Option (List D)
  | [.int j] => if -(2 ^ 62) ≤ j ∧ j < 2 ^ 62 then some (rgD 0 j.toNat) else none
  | _ => none
def rg2D : List D → Option (List D)
  | [.int i, .int j] => if -(2 ^ 62) ≤ i ∧ i < 2 ^ 62 ∧ -(2 ^ 62) ≤ j ∧ j < 2 ^ 62 then some (rgD i (j - i).toNat) else none
  | _ => none
def fIs (g : List D → Option (List D)) (fs : Rho → Option (List D)) : Rho → Option (List D) := fun ρ => (fs ρ).bind g
theorem sem_rg1 {K : PySem.W.Frag} (h : SemA K m ta fs) : SemI false K .fz (iRng1 ta) (fIs rg1D fs) := by
  intro B F H σ ρ ds R rel hf q
  obtain ⟨as, h1, h2⟩ := bind_some hf
  refine h B F H σ ρ as _ rel h1 fun vs F1 H1 x1 r1 => ?_
  match as, h2, r1 with
  | [.int j], h2, r1 =>
    obtain ⟨h3, rfl⟩ := if_some h2
    obtain ⟨v, rfl, rv⟩ := resA1 r1
    rw [rv.int]
    exact ⟨j, rfl, h3.1, h3.2, q _ F1 H1 x1 itr_ok⟩
theorem sem_rg2 {K : PySem.W.Frag} (h : SemA K m ta fs) : SemI false K .fz (iRng2 ta) (fIs rg2D fs) := by
  intro B F H σ ρ ds R rel hf q
  obtain ⟨as, h1, h2⟩ := bind_some hf
  refine h B F H σ ρ as _ rel h1 fun vs F1 H1 x1 r1 => ?_
  match as, h2, r1 with
  | [.int i, .int j], h2, r1 =>
    obtain ⟨h3, rfl⟩ := if_some h2
    obtain ⟨v, w, rfl, rv, rw'⟩ := resA2 r1
    rw [rv.int, rw'.int]
    exact ⟨i, j, rfl, h3, q _ F1 H1 x1 itr_ok⟩
theorem di_rg1 {a : Expr} (hg : Gl X "range") (hm : X.mg "range" = none) (ha : DA X m [a] ta fs) (hs : starEach [a] X.env = [(false, eval a X.env)] := by rfl) : DI false X .fz tg (.Call (.Name "range" p) [a] [] pos) (iRng1 ta) (fIs rg1D fs) := ⟨pi_range1 hg hm ha.p hs, sem_rg1 ha.s⟩
theorem di_rg2 {a b : Expr} (hg : Gl X "range") (hm : X.mg "range" = none) (ha : DA X m [a, b] ta fs) (hs : starEach [a, b] X.env = [(false, eval a X.env), (false, eval b X.env)] := by rfl) (hs2 : starEach [b] X.env = [(false, eval b X.env)] := by rfl) :
    DI false X .fz tg (.Call (.Name "range" p) [a, b] [] pos) (iRng2 ta) (fIs rg2D fs) := ⟨pi_range2 hg hm ha.p hs hs2, sem_rg2 ha.s⟩
/-! reversed -/
theorem rev_at {α : Type} {l : List α} {i : Nat} (h : i < l.length) : l.reverse[i]? = l[l.length - 1 - i]? := by
  rw [List.getElem?_reverse h]
theorem itv_ok {K : PySem.W.Frag} {F : Hp} {a : Addr} {xs : List V} {ds : List D} {st : Hp → Prop} (hs : ∀ H, Same F H → st H → SqL K H a xs) (r : RepA K F xs ds) : ItO false K (Itv K a xs.length) F st ds.reverse :=
  ⟨fun i F' H' hi s1 s2 s3 => by
    rw [List.length_reverse] at hi
    have hi' : i < xs.length := by rw [r.length]; exact hi
    exact ⟨hi', xs, xs[xs.length - 1 - i]'(by omega), hs H' (s1.trans s2) s3, List.getElem?_eq_getElem _⟩, fun i d F' H' x H3 hd s1 s2 s3 y => by
    obtain ⟨rfl, y⟩ := y
    have hi : i < ds.length := by have := (List.getElem?_eq_some_iff.mp hd).1; rwa [List.length_reverse] at this
    rw [rev_at hi, ← r.length] at hd
    obtain ⟨x', h1, h2⟩ := r.get hd
    have e := y xs (hs _ (s1.trans s2) s3)
    rw [h1] at e
    cases e
    exact ⟨F', .refl s2, .inl (h2.mono s1)⟩, fun i F' H' hi s1 s2 s3 => by rw [List.length_reverse, ← r.length] at hi; exact hi⟩
theorem itvT_ok {K : PySem.W.Frag} {F : Hp} {a : Addr} {xs : List V} {ds : List D} {st : Hp → Prop} (hs : ∀ H, Same F H → st H → SqT K H a xs) (r : RepA K F xs ds) : ItO false K (RT.ItvT K a xs.length) F st ds.reverse :=
  ⟨fun i F' H' hi s1 s2 s3 => by
    rw [List.length_reverse] at hi
    have hi' : i < xs.length := by rw [r.length]; exact hi
    exact ⟨hi', xs, xs[xs.length - 1 - i]'(by omega), hs H' (s1.trans s2) s3, List.getElem?_eq_getElem _⟩, fun i d F' H' x H3 hd s1 s2 s3 y => by
    obtain ⟨rfl, y⟩ := y
    have hi : i < ds.length := by have := (List.getElem?_eq_some_iff.mp hd).1; rwa [List.length_reverse] at this
    rw [rev_at hi, ← r.length] at hd
    obtain ⟨x', h1, h2⟩ := r.get hd
    have e := y xs (hs _ (s1.trans s2) s3)
    rw [h1] at e
    cases e
    exact ⟨F', .refl s2, .inl (h2.mono s1)⟩, fun i F' H' hi s1 s2 s3 => by rw [List.length_reverse, ← r.length] at hi; exact hi⟩
def revD (d : D) : Option (List D) := (itemsD d).map List.reverse
def fRev (f : Rho → Option D) : Rho → Option (List D) := fun ρ => (f ρ).bind revD
theorem sem_rev {K : PySem.W.Frag} (h : SemE K .fz te f) : SemI false K .fz (RT.iRevA K te) (fRev f) := by
  intro B F H σ ρ ds R rel hf q
  obtain ⟨d, h1, h2⟩ := bind_some hf
  obtain ⟨es, h3, rfl⟩ := Option.map_eq_some_iff.mp h2
  refine h B F H σ ρ d _ rel h1 fun v F1 H1 x1 r1 => ?_
  cases d with
  | list es =>
    cases h3
    cases r1 with
    | lst hs hr => exact ⟨_, _, rfl, .inl ⟨x1.s.seq hs, q _ F1 H1 x1 (itv_ok (fun H s _ => s.seq hs) hr)⟩⟩
  | tuple es =>
    cases h3
    cases r1 with
    | tup hs hr => exact ⟨_, _, rfl, .inr ⟨(hs.mono x1.s).sq, q _ F1 H1 x1 (itvT_ok (fun H s _ => (hs.mono s).sq) hr)⟩⟩
  | _ => cases h3
theorem di_rev (hg : Gl X "reversed") (hm : X.mg "reversed" = none) (he : DE X .fz e te f) (hs : starEach [e] X.env = (false, eval e X.env) :: starEach [] X.env := by rfl) : DI false X .fz tg (.Call (.Name "reversed" p) [e] [] pos) (RT.iRevA X.K te) (fRev f) := ⟨RT.pi_revA hg hm he.p hs, sem_rev he.s⟩
theorem di_revK (K' : PySem.W.Frag) (hg : Gl X "reversed") (hm : X.mg "reversed" = none) (he : DE X .fz e te f) (hs : starEach [e] X.env = (false, eval e X.env) :: starEach [] X.env := by rfl) (hK : X.K = K' := by rfl) : DI false X .fz tg (.Call (.Name "reversed" p) [e] [] pos) (RT.iRevA K' te) (fRev f) := by
  subst hK
  exact di_rev (hg := hg) (hm := hm) (he := he) (hs := hs)
/-! zip -/
theorem pair_ok {K : PySem.W.Frag} {F' H' : Hp} {T : Addr} {x y : V} {dx dy : D} (s2 : Same F' H') (hT : H' T = none) (hx : Rep K F' x dx) (hy : Rep K F' y dy) : ∃ F3, Ext F' H' F3 (upd H' T (.tup [x, y])) ∧ RepB true K F3 (.ref T) (.tuple [dx, dy]) := by
  have e := ext_new (o := .tup [x, y]) (Ext.refl s2) hT
  exact ⟨_, e, .inr ⟨rfl, T, [x, y], _, rfl, rfl, .of upd_same, .cons (hx.mono e.f) (.cons (hy.mono e.f) .nil)⟩⟩
def zipL : List D → List D → List D
  | d :: ds, e :: es => .tuple [d, e] :: zipL ds es
  | _, _ => []
theorem zipL_at : ∀ {ds es : List D} {i : Nat} {d : D}, (zipL ds es)[i]? = some d → ∃ x y, ds[i]? = some x ∧ es[i]? = some y ∧ d = .tuple [x, y]
  | [], _, _, _, h => by simp [zipL] at h
  | _ :: _, [], _, _, h => by simp [zipL] at h
  | x :: ds, y :: es, 0, d, h => by simp [zipL] at h; subst h; exact ⟨x, y, rfl, rfl, rfl⟩
  | x :: ds, y :: es, i + 1, d, h => by
    have h' : (zipL ds es)[i]? = some d := by simpa [zipL] using h
    obtain ⟨a, b, h1, h2, h3⟩ := zipL_at h'
    exact ⟨a, b, by simpa using h1, by simpa using h2, h3⟩
theorem zipL_length : ∀ (ds es : List D), (zipL ds es).length = min ds.length es.length
  | [], _ => by simp [zipL]
  | _ :: _, [] => by simp [zipL]
  | x :: ds, y :: es => by simp only [zipL, List.length_cons, zipL_length ds es]; omega
theorem itz_ok {K : PySem.W.Frag} {F : Hp} {a b : Addr} {xs ys : List V} {ds es : List D} {st : Hp → Prop} (hs : ∀ H, Same F H → st H → SqL K H a xs) (hs2 : ∀ H, Same F H → st H → SqL K H b ys) (r : RepA K F xs ds) (r2 : RepA K F ys es) : ItO true K (Itz K a b) F st (zipL ds es) :=
  ⟨fun i F' H' hi s1 s2 s3 => by
    obtain ⟨d, e, h1, h2, _⟩ := zipL_at (List.getElem?_eq_getElem hi)
    obtain ⟨x, h3, _⟩ := r.get h1
    obtain ⟨y, h4, _⟩ := r2.get h2
    exact ⟨xs, ys, x, y, hs H' (s1.trans s2) s3, hs2 H' (s1.trans s2) s3, h3, h4⟩, fun i d F' H' v H3 hd s1 s2 s3 yy => by
    obtain ⟨T, x, y, rfl, hT, rfl, y1, y2⟩ := yy
    obtain ⟨dx, dy, h1, h2, rfl⟩ := zipL_at hd
    obtain ⟨x', h3, h5⟩ := r.get h1
    obtain ⟨y', h4, h6⟩ := r2.get h2
    have e1 := y1 xs (hs H' (s1.trans s2) s3)
    have e2 := y2 ys (hs2 H' (s1.trans s2) s3)
    rw [h3] at e1
    rw [h4] at e2
    cases e1
    cases e2
    exact pair_ok s2 hT (h5.mono s1) (h6.mono s1), fun i F' H' hi s1 s2 s3 => by
    rw [zipL_length] at hi
    exact ⟨xs, ys, hs H' (s1.trans s2) s3, hs2 H' (s1.trans s2) s3, by rw [r.length, r2.length]; omega⟩⟩
theorem itzT_ok {K : PySem.W.Frag} {F : Hp} {a b : Addr} {xs ys : List V} {ds es : List D} {st : Hp → Prop} (hs : ∀ H, Same F H → st H → SqT K H a xs) (hs2 : ∀ H, Same F H → st H → SqT K H b ys) (r : RepA K F xs ds) (r2 : RepA K F ys es) : ItO true K (RZ.ItzT K a b) F st (zipL ds es) :=
  ⟨fun i F' H' hi s1 s2 s3 => by
    obtain ⟨d, e, h1, h2, _⟩ := zipL_at (List.getElem?_eq_getElem hi)
    obtain ⟨x, h3, _⟩ := r.get h1
    obtain ⟨y, h4, _⟩ := r2.get h2
    exact ⟨xs, ys, x, y, hs H' (s1.trans s2) s3, hs2 H' (s1.trans s2) s3, h3, h4⟩, fun i d F' H' v H3 hd s1 s2 s3 yy => by
    obtain ⟨T, x, y, rfl, hT, rfl, y1, y2⟩ := yy
    obtain ⟨dx, dy, h1, h2, rfl⟩ := zipL_at hd
    obtain ⟨x', h3, h5⟩ := r.get h1
    obtain ⟨y', h4, h6⟩ := r2.get h2
    have e1 := y1 xs (hs H' (s1.trans s2) s3)
    have e2 := y2 ys (hs2 H' (s1.trans s2) s3)
    rw [h3] at e1
    rw [h4] at e2
    cases e1
    cases e2
    exact pair_ok s2 hT (h5.mono s1) (h6.mono s1), fun i F' H' hi s1 s2 s3 => by
    rw [zipL_length] at hi
    exact ⟨xs, ys, hs H' (s1.trans s2) s3, hs2 H' (s1.trans s2) s3, by rw [r.length, r2.length]; omega⟩⟩
def zipD : List D → Option (List D)
  | [.list ds, .list es] => some (zipL ds es)
  | [.tuple ds, .tuple es] => some (zipL ds es)
  | _ => none
theorem sem_zip {K : PySem.W.Frag} (h : SemA K .fz ta fs) : SemI true K .fz (RZ.iZipA K ta) (fIs zipD fs) := by
  intro B F H σ ρ ds R rel hf q
  obtain ⟨as, h1, h2⟩ := bind_some hf
  refine h B F H σ ρ as _ rel h1 fun vs F1 H1 x1 r1 => ?_
  match as, h2, r1 with
  | [.list ds, .list es], h2, r1 =>
    cases h2
    obtain ⟨v, w, rfl, rv, rw'⟩ := resA2 r1
    cases rv with
    | lst hs hr =>
      cases rw' with
      | lst hs2 hr2 => exact ⟨_, _, _, _, rfl, .inl ⟨x1.s.seq hs, x1.s.seq hs2, q _ F1 H1 x1 (itz_ok (fun H s _ => s.seq hs) (fun H s _ => s.seq hs2) hr hr2)⟩⟩
  | [.tuple ds, .tuple es], h2, r1 =>
    cases h2
    obtain ⟨v, w, rfl, rv, rw'⟩ := resA2 r1
    cases rv with
    | tup hs hr =>
      cases rw' with
      | tup hs2 hr2 => exact ⟨_, _, _, _, rfl, .inr ⟨(hs.mono x1.s).sq, (hs2.mono x1.s).sq, q _ F1 H1 x1 (itzT_ok (fun H s _ => (hs.mono s).sq) (fun H s _ => (hs2.mono s).sq) hr hr2)⟩⟩
theorem di_zip {a b : Expr} {elts : List Expr} {kk : Nat} {tpos : Pos} (hg : Gl X "zip") (hm : X.mg "zip" = none) (ha : DA X .fz [a, b] ta fs) (hs : starEach [a, b] X.env = (false, eval a X.env) :: starEach [b] X.env := by rfl) (hpl : (backTo pos (starEach [b] X.env)).any (·.1) = false := by rfl) :
    DI true X .fz (.Tuple elts kk tpos) (.Call (.Name "zip" p) [a, b] [] pos) (RZ.iZipA X.K ta) (fIs zipD fs) := ⟨RZ.pi_zipA hg hm ha.p hs hpl, sem_zip ha.s⟩
theorem di_zipK (K' : PySem.W.Frag) {a b : Expr} {elts : List Expr} {kk : Nat} {tpos : Pos} (hg : Gl X "zip") (hm : X.mg "zip" = none) (ha : DA X .fz [a, b] ta fs) (hs : starEach [a, b] X.env = (false, eval a X.env) :: starEach [b] X.env := by rfl) (hpl : (backTo pos (starEach [b] X.env)).any (·.1) = false := by rfl) (hK : X.K = K' := by rfl) : DI true X .fz (.Tuple elts kk tpos) (.Call (.Name "zip" p) [a, b] [] pos) (RZ.iZipA K' ta) (fIs zipD fs) := by
  subst hK
  exact di_zip (hg := hg) (hm := hm) (ha := ha) (hs := hs) (hpl := hpl)
end
/-! ### targets -/
def SemG (w : Bool) (K : PySem.W.Frag) (W : List Nat) (g : TG) (s : D → Rho → Option Rho) : Prop :=
  ∀ (B : Bs) (F H : Hp) (σ : L2.St) (ρ ρ' : Rho) (v : V) (d : D) (Q : L2.St → Hp → Prop), Rel K B F H σ ρ → RepB w K F v d → s d ρ = some ρ' → (∀ σ', Rel K B F H σ' ρ' → (∀ j, j ∉ W → σ'[j]? = σ[j]?) → σ'.length = σ.length → Q σ' H) → g v σ H Q
structure DG (w : Bool) (X : Cx) (W : List Nat) (tg : Expr) (g : TG) (s : D → Rho → Option Rho) : Prop where
  p : PG X tg g
  s : SemG w X.K W g s
def SemGs (K : PySem.W.Frag) (W : List Nat) (g : TGs) (s : List D → Rho → Option Rho) : Prop :=
  ∀ (B : Bs) (F H : Hp) (σ : L2.St) (ρ ρ' : Rho) (vs : List V) (ds : List D) (Q : L2.St → Hp → Prop), Rel K B F H σ ρ → RepA K F vs ds → s ds ρ = some ρ' → (∀ σ', Rel K B F H σ' ρ' → (∀ j, j ∉ W → σ'[j]? = σ[j]?) → σ'.length = σ.length → Q σ' H) → g vs σ H Q
structure DGs (X : Cx) (W : List Nat) (tgs : List Expr) (g : TGs) (s : List D → Rho → Option Rho) : Prop where
  p : PGs X tgs g
  s : SemGs X.K W g s
def sN (i : Nat) : D → Rho → Option Rho := fun d ρ => some (ρ.set i (.im d))
def sNil : List D → Rho → Option Rho := fun ds ρ => match ds with
  | [] => some ρ
  | _ => none
def sCons (s : D → Rho → Option Rho) (ss : List D → Rho → Option Rho) : List D → Rho → Option Rho := fun ds ρ => match ds with
  | d :: ds => (s d ρ).bind (ss ds)
  | [] => none
def sT (n : Nat) (ss : List D → Rho → Option Rho) : D → Rho → Option Rho := fun d ρ => match d with
  | .tuple ds => if ds.length = n then ss ds ρ else none
  | _ => none
section
variable {X : Cx} {pos : Pos} {W W1 W2 : List Nat}
theorem dg_n {i : Nat} {x : Str} (hN : X.N.Nodup) (hi : X.N[i]? = some x := by rfl) (hx : Loc X.env.scope x := by first | exact Or.inl rfl | exact Or.inr rfl) (hf : X.fn x = true ∨ X.env.scope.names.lookup x = some .local := by first | exact .inl rfl | exact .inr rfl) : DG false X [i] (.Name x pos) (gName i) (sN i) :=
  ⟨pg_name hN hi hx hf, fun B F H σ ρ ρ' v d Q r hv hs q => by cases hs; exact q _ (r.setIm hv.strong) set_keep (by simp)⟩
theorem dgs_nil : DGs X [] [] gNil sNil := ⟨pgs_nil, fun B F H σ ρ ρ' vs ds Q r hv hs q => by
  cases hv with
  | nil => cases hs; exact ⟨rfl, q σ r (fun _ _ => rfl) rfl⟩
  | cons h t => cases hs⟩
theorem dgs_cons {e : Expr} {es : List Expr} {t : TG} {u : TGs} {s : D → Rho → Option Rho} {ss : List D → Rho → Option Rho} (h1 : DG false X W1 e t s) (h2 : DGs X W2 es u ss)
    (hs : (assignEach (e :: es) X.env).map (·.2) = assign e X.env :: (assignEach es X.env).map (·.2) := by rfl) : DGs X (W1 ++ W2) (e :: es) (gCons t u) (sCons s ss) := ⟨pgs_cons h1.p h2.p hs, fun B F H σ ρ ρ' vs ds Q r hv hs q => by
  cases hv with
  | nil => cases hs
  | @cons v vs d ds h t' =>
    obtain ⟨ρ1, e1, e2⟩ := bind_some (show (s d ρ).bind (ss ds) = some ρ' from hs)
    refine ⟨v, vs, rfl, h1.s B F H σ ρ ρ1 v d _ r (.inl h) e1 fun σ1 r1 k1 l1 => ?_⟩
    exact h2.s B F H σ1 ρ1 ρ' vs ds Q r1 t' e2 fun σ2 r2 k2 l2 => q σ2 r2 (fun j hj => (k2 j fun z => hj (List.mem_append_right _ z)).trans (k1 j fun z => hj (List.mem_append_left _ z))) (l2.trans l1)⟩
theorem dg_t {w : Bool} {es : List Expr} {k : Nat} {t : TGs} {n : Nat} {ss : List D → Rho → Option Rho} (h : DGs X W es t ss) (hc : X.calm = true := by rfl) (hn : (assignEach es X.env).length = n := by rfl) (hst : (assignEach es X.env).findIdx? (·.1) = none := by rfl) : DG w X W (.Tuple es k pos) (gTup X.K n t) (sT n ss) :=
  ⟨pg_tup hc h.p hn hst, fun B F H σ ρ ρ' v d Q r hv hs q => by
    have key : ∀ (a : Addr) (xs : List V) (ds : List D), SqT X.K H a xs → RepA X.K F xs ds → sT n ss (.tuple ds) ρ = some ρ' → gTup X.K n t (.ref a) σ H Q := fun a xs ds sq ra hs => by
      have hs' : (if ds.length = n then ss ds ρ else none) = some ρ' := hs
      by_cases hl : ds.length = n
      · rw [if_pos hl] at hs'
        exact ⟨a, xs, rfl, sq, by rw [ra.length]; exact hl, h.s B F H σ ρ ρ' xs ds Q r ra hs' q⟩
      · rw [if_neg hl] at hs'; cases hs'
    rcases hv with hv | ⟨_, a, xs, ds, rfl, rfl, sq, ra⟩
    · cases d with
      | tuple ds =>
        cases hv with
        | tup h1 h2 => exact key _ _ _ (h1.mono r.fh).sq h2 hs
      | _ => cases hs
    · exact key a xs ds (r.fh.sqT sq) ra hs⟩
theorem dg_tK (K' : PySem.W.Frag) {w : Bool} {es : List Expr} {k : Nat} {t : TGs} {n : Nat} {ss : List D → Rho → Option Rho} (h : DGs X W es t ss) (hc : X.calm = true := by rfl) (hn : (assignEach es X.env).length = n := by rfl) (hst : (assignEach es X.env).findIdx? (·.1) = none := by rfl) (hK : X.K = K' := by rfl) : DG w X W (.Tuple es k pos) (gTup K' n t) (sT n ss) := by
  subst hK
  exact dg_t (h := h) (hc := hc) (hn := hn) (hst := hst)
end
theorem Rel.rebase {K : PySem.W.Frag} {B : Bs} {F H : Hp} {σ : L2.St} {ρ : Rho} (r : Rel K B F H σ ρ) : Rel K { F0 := F, G := B.G } F H σ ρ := ⟨r.len, .refl _, r.g, r.fh, .refl, r.sl, r.sep⟩
theorem Rel.unbase {K : PySem.W.Frag} {B : Bs} {F H F' H' : Hp} {σ σ' : L2.St} {ρ ρ' : Rho} (r : Rel K B F H σ ρ) (r' : Rel K { F0 := F, G := B.G } F' H' σ' ρ') : Rel K B F' H' σ' ρ' :=
  ⟨r'.len, r.f0.trans r'.f0, r'.g, r'.fh, fun a q => (r'.nw a q).elim (r.nw a) .inr, r'.sl, r'.sep⟩
theorem Rel.unrt {K : PySem.W.Frag} {m : Md} {B : Bs} {F H F' H' : Hp} {σ : L2.St} {ρ : Rho} {v : V} {d : D} (r : Rel K B F H σ ρ) (r' : RtOk K m { F0 := F, G := B.G } F' H' v d) : RtOk K m B F' H' v d :=
  ⟨r.f0.trans r'.1, r'.2.1, r'.2.2.1, fun a q => (r'.2.2.2.1 a q).elim (r.nw a) .inr, r'.2.2.2.2⟩
/-! ### for -/
/-- the loop over data -/
def forL (step : D → Bd) : List D → Bd
  | [], ρ => some (.nx ρ)
  | d :: ds, ρ => (step d ρ).bind fun o => match o with
    | .nx ρ' => forL step ds ρ'
    | .ct ρ' => forL step ds ρ'
    | .bk ρ' => some (.nx ρ')
    | .rt d => some (.rt d)
def turnD (s : D → Rho → Option Rho) (b : Bd) : D → Bd := fun d ρ => (s d ρ).bind b
def bFor (f : Rho → Option (List D)) (s : D → Rho → Option Rho) (b : Bd) : Bd := fun ρ => (f ρ).bind fun ds => forL (turnD s b) ds ρ
theorem sem_for {w : Bool} {K : PySem.W.Frag} {m : Md} {W1 W2 : List Nat} {wi : TI} {g : TG} {tb : TS} {f : Rho → Option (List D)} {s : D → Rho → Option Rho} {b : Bd} (hi : SemI w K .fz wi f) (hg : SemG w K W1 g s) (hb : SemS K m W2 tb b) : SemS K m (W1 ++ W2) (tFor wi g tb) (bFor f s b) := by
  intro B F H σ ρ o D r hf e
  obtain ⟨ds, h1, h2⟩ := bind_some hf
  refine hi B F H σ ρ ds _ r h1 fun J F1 H1 x1 it => ?_
  refine ⟨fun i m σ' H' => m = ds.length - i ∧ i ≤ ds.length ∧ ∃ F' ρ', Rel K B F' H' σ' ρ' ∧ Same F1 F' ∧ (∀ j, j ∉ W1 ++ W2 → σ'[j]? = σ[j]?) ∧ forL (turnD s b) (ds.drop i) ρ' = some o, ⟨ds.length, by simp, Nat.zero_le _, F1, ρ, r.ext x1, .refl _, fun _ _ => rfl, by simpa using h2⟩, ?_⟩
  rintro i mm σ1 H2 ⟨rfl, hil, F2, ρ2, r2, s2, k2, hf2⟩
  by_cases hlt : i < ds.length
  · rw [List.drop_eq_getElem_cons hlt] at hf2
    obtain ⟨o1, e1, e2⟩ := bind_some (show (turnD s b ds[i] ρ2).bind _ = some o from hf2)
    obtain ⟨ρ3, e3, e4⟩ := bind_some (show (s ds[i] ρ2).bind b = some o1 from e1)
    refine .inr ⟨it.go i F2 H2 hlt s2 r2.fh trivial, fun σ' H' => i + 1 ≤ ds.length ∧ ∃ F' ρ', Rel K B F' H' σ' ρ' ∧ Same F1 F' ∧ (∀ j, j ∉ W1 ++ W2 → σ'[j]? = σ[j]?) ∧ forL (turnD s b) (ds.drop (i + 1)) ρ' = some o, fun σ' H' hn => ⟨ds.length - (i + 1), by omega, rfl, hn⟩, fun x H3 y => ?_⟩
    obtain ⟨F3, x3, rb⟩ := it.yld i ds[i] F2 H2 x H3 (List.getElem?_eq_getElem hlt) s2 r2.fh trivial y
    refine hg B F3 H3 σ1 ρ2 ρ3 x ds[i] _ (r2.ext x3) rb e3 fun σ3 r3 k3 _ => ?_
    have k13 : ∀ j, j ∉ W1 ++ W2 → σ3[j]? = σ[j]? := fun j hj => (k3 j fun z => hj (List.mem_append_left _ z)).trans (k2 j hj)
    have s3 : Same F1 F3 := s2.trans x3.f
    have key : ∀ {σ4 : L2.St}, (∀ j, j ∉ W2 → σ4[j]? = σ3[j]?) → ∀ j, j ∉ W1 ++ W2 → σ4[j]? = σ[j]? := fun k4 j hj => (k4 j fun z => hj (List.mem_append_right _ z)).trans (k13 j hj)
    -- the body, with the frozen part remembered
    refine hb { F0 := F3, G := B.G } F3 H3 σ3 ρ3 o1 _ r3.rebase e4 ?_
    cases o1 with
    | nx ρ4 => exact fun σ4 F4 H4 r4 k4 => ⟨hlt, F4, ρ4, r3.unbase r4, s3.trans r4.f0, key k4, e2⟩
    | ct ρ4 => exact fun σ4 F4 H4 r4 k4 => ⟨hlt, F4, ρ4, r3.unbase r4, s3.trans r4.f0, key k4, e2⟩
    | bk ρ4 => cases e2; exact fun σ4 F4 H4 r4 k4 => e σ4 F4 H4 (r3.unbase r4) (key k4)
    | rt d => cases e2; exact fun v F4 H4 r4 => e v F4 H4 (r3.unrt r4)
  · have ei : i = ds.length := by omega
    subst ei
    rw [List.drop_length] at hf2
    cases hf2
    exact .inl ⟨it.stop _ F2 H2 (Nat.le_refl _) s2 r2.fh trivial, e σ1 F2 H2 r2 k2⟩
section
variable {X : Cx} {m : Md} {W W1 W2 : List Nat} {pos : Pos} {w : Bool}
theorem ds_for {tg iter : Expr} {body : List Stmt} {wi : TI} {g : TG} {tb : TS} {f : Rho → Option (List D)} {s : D → Rho → Option Rho} {b : Bd} (hi : DI w X .fz tg iter wi f) (hg : DG w X W1 tg g s) (hb : DSs X m W2 body tb b)
    (hp : PassesOwn (model X.prog X.w) X.A X.env X.xe := by exact PassesOwn.never) (hc : X.calm = true := by rfl) (hs : ∀ x, foldedSetIterable iter X.env x = pure x := by intro _; rfl) : DS X m (W1 ++ W2) (.For tg iter body [] pos) (tFor wi g tb) (bFor f s b) :=
  ⟨ps_for hp hc hi.p hg.p hb.p hs, sem_for hi.s hg.s hb.s⟩
/-! over an owned list that the body may lengthen but not rebind -/
def forG (j : Nat) (step : D → Bd) : Nat → Nat → Bd
  | 0, _, _ => none
  | n + 1, i, ρ => match ρ[j]? with
    | some (.ow (.list ds)) => match ds[i]? with
      | none => some (.nx ρ)
      | some d => (step d ρ).bind fun o => match o with
        | .nx ρ' => forG j step n (i + 1) ρ'
        | .ct ρ' => forG j step n (i + 1) ρ'
        | .bk ρ' => some (.nx ρ')
        | .rt d => some (.rt d)
    | _ => none
def bForG (N j : Nat) (s : D → Rho → Option Rho) (b : Bd) : Bd := fun ρ => forG j (turnD s b) N 0 ρ
theorem sem_forG {K : PySem.W.Frag} {N j : Nat} {g : TG} {tb : TS} {s : D → Rho → Option Rho} {b : Bd} (hg : SemG false K W1 g s) (hb : SemS K m W2 tb b) (h1 : j ∉ W1) (h2 : j ∉ W2) : SemS K m (W1 ++ W2) (tFor (iList K (tVar j)) g tb) (bForG N j s b) := by
  intro B F H σ ρ o D r hf e
  obtain ⟨a, ha⟩ : ∃ a, ∃ ds, ρ[j]? = some (.ow (.list ds)) ∧ σ[j]? = some (some (.ref a)) := by
    cases N with
    | zero => cases hf
    | succ N =>
      have hf' : (match ρ[j]? with
        | some (.ow (.list ds)) => match ds[0]? with
          | none => some (.nx ρ)
          | some d => (turnD s b d ρ).bind fun o => match o with
            | .nx ρ' => forG j (turnD s b) N (0 + 1) ρ'
            | .ct ρ' => forG j (turnD s b) N (0 + 1) ρ'
            | .bk ρ' => some (.nx ρ')
            | .rt d => some (.rt d)
        | _ => none) = some o := hf
      split at hf'
      · rename_i ds e1
        obtain ⟨oo, e2, c, rfl, _⟩ := r.at e1
        exact ⟨c, ds, e1, e2⟩
      · cases hf'
  obtain ⟨ds0, e0, eσ⟩ := ha
  have lst : ∀ {B' : Bs} {F' H' : Hp} {σ' : L2.St} {ρ' : Rho} {ds : List PyData}, Rel K B' F' H' σ' ρ' → σ'[j]? = some (some (.ref a)) → ρ'[j]? = some (.ow (.list ds)) → ∃ vs, H' a = some (.lst vs) ∧ RepA K F' vs ds := fun r' eσ' e' => by
    obtain ⟨oo, e2, c, rfl, _, _, w⟩ := r'.at e'
    rw [eσ'] at e2
    cases e2
    exact w
  refine ⟨_, eσ, a, rfl, ?_, ?_⟩
  · obtain ⟨vs, h, _⟩ := lst r eσ e0
    exact ⟨vs, .of h⟩
  refine ⟨fun i mm σ' H' => ∃ F' ρ', Rel K B F' H' σ' ρ' ∧ (∀ l, l ∉ W1 ++ W2 → σ'[l]? = σ[l]?) ∧ forG j (turnD s b) mm i ρ' = some o, ⟨N, F, ρ, r, fun _ _ => rfl, hf⟩, ?_⟩
  rintro i mm σ1 H2 ⟨F2, ρ2, r2, k2, hf2⟩
  have jW : j ∉ W1 ++ W2 := fun z => (List.mem_append.mp z).elim h1 h2
  have eσ1 : σ1[j]? = some (some (.ref a)) := (k2 j jW).trans eσ
  cases mm with
  | zero => cases hf2
  | succ mm =>
    have hf' : (match ρ2[j]? with
      | some (.ow (.list ds)) => match ds[i]? with
        | none => some (.nx ρ2)
        | some d => (turnD s b d ρ2).bind fun o => match o with
          | .nx ρ' => forG j (turnD s b) mm (i + 1) ρ'
          | .ct ρ' => forG j (turnD s b) mm (i + 1) ρ'
          | .bk ρ' => some (.nx ρ')
          | .rt d => some (.rt d)
      | _ => none) = some o := hf2
    split at hf'
    · rename_i ds e1
      obtain ⟨vs, hv, rv⟩ := lst r2 eσ1 e1
      cases e3 : ds[i]? with
      | none =>
        rw [e3] at hf'
        cases hf'
        refine .inl ⟨⟨vs, .of hv, ?_⟩, e σ1 F2 H2 r2 k2⟩
        rw [rv.length]
        exact List.getElem?_eq_none_iff.mp e3
      | some d =>
        rw [e3] at hf'
        obtain ⟨o1, e4, e5⟩ := bind_some hf'
        obtain ⟨ρ3, e6, e7⟩ := bind_some (show (s d ρ2).bind b = some o1 from e4)
        obtain ⟨x, hx, rx⟩ := rv.get e3
        refine .inr ⟨⟨vs, x, .of hv, hx⟩, fun σ' H' => ∃ F' ρ', Rel K B F' H' σ' ρ' ∧ (∀ l, l ∉ W1 ++ W2 → σ'[l]? = σ[l]?) ∧ forG j (turnD s b) mm (i + 1) ρ' = some o, fun σ' H' hn => ⟨mm, Nat.lt_succ_self mm, hn⟩, fun y H3 yy => ?_⟩
        obtain ⟨rfl, yy⟩ := yy
        have ey := yy vs (.of hv)
        rw [hx] at ey
        cases ey
        refine hg B F2 _ σ1 ρ2 ρ3 x d _ r2 (.inl rx) e6 fun σ3 r3 k3 _ => ?_
        have k13 : ∀ l, l ∉ W1 ++ W2 → σ3[l]? = σ[l]? := fun l hl => (k3 l fun z => hl (List.mem_append_left _ z)).trans (k2 l hl)
        have key : ∀ {σ4 : L2.St}, (∀ l, l ∉ W2 → σ4[l]? = σ3[l]?) → ∀ l, l ∉ W1 ++ W2 → σ4[l]? = σ[l]? := fun k4 l hl => (k4 l fun z => hl (List.mem_append_right _ z)).trans (k13 l hl)
        refine hb B F2 _ σ3 ρ3 o1 _ r3 e7 ?_
        cases o1 with
        | nx ρ4 => exact fun σ4 F4 H4 r4 k4 => ⟨F4, ρ4, r4, key k4, e5⟩
        | ct ρ4 => exact fun σ4 F4 H4 r4 k4 => ⟨F4, ρ4, r4, key k4, e5⟩
        | bk ρ4 => cases e5; exact fun σ4 F4 H4 r4 k4 => e σ4 F4 H4 r4 (key k4)
        | rt d => cases e5; exact fun v F4 H4 r4 => e v F4 H4 r4
    · cases hf'
theorem ds_forG {N j : Nat} {x : Str} {tg : Expr} {p : Pos} {body : List Stmt} {g : TG} {tb : TS} {s : D → Rho → Option Rho} {b : Bd} (hg : DG false X W1 tg g s) (hb : DSs X m W2 body tb b) (h1 : j ∉ W1) (h2 : j ∉ W2)
    (hj : X.N[j]? = some x := by rfl) (hv : Vis X.env.scope x := by first | exact Or.inl rfl | exact Or.inr (Or.inl rfl) | exact Or.inr (Or.inr rfl)) (hd : (x == ("__debug__" : Str)) = false := by decide) (hcd : (x == ("__classdict__" : Str)) = false := by decide)
    (hp : PassesOwn (model X.prog X.w) X.A X.env X.xe := by exact PassesOwn.never) (hc : X.calm = true := by rfl) (hs : ∀ x', foldedSetIterable (.Name x p) X.env x' = pure x' := by intro _; rfl) : DS X m (W1 ++ W2) (.For tg (.Name x p) body [] pos) (tFor (iList X.K (tVar j)) g tb) (bForG N j s b) :=
  ⟨ps_for hp hc (pi_list (pe_var hj hv hd hcd)) hg.p hb.p hs, sem_forG hg.s hb.s h1 h2⟩
/-! ### while -/
def whileL (c : Rho → Option Bool) (b : Bd) : Nat → Bd
  | 0, _ => none
  | n + 1, ρ => (c ρ).bind fun k => if k = true then (b ρ).bind fun o => match o with
      | .nx ρ' => whileL c b n ρ'
      | .ct ρ' => whileL c b n ρ'
      | .bk ρ' => some (.nx ρ')
      | .rt d => some (.rt d)
    else some (.nx ρ)
theorem sem_while {K : PySem.W.Frag} {N : Nat} {c : TT} {tb : TS} {fc : Rho → Option Bool} {b : Bd} (hc : SemT K c fc) (hb : SemS K m W tb b) : SemS K m W (tWhile c tb) (whileL fc b N) := by
  intro B F H σ ρ o D r hf e
  refine ⟨fun mm σ' H' => ∃ F' ρ', Rel K B F' H' σ' ρ' ∧ (∀ l, l ∉ W → σ'[l]? = σ[l]?) ∧ whileL fc b mm ρ' = some o, ⟨N, F, ρ, r, fun _ _ => rfl, hf⟩, ?_⟩
  rintro mm σ1 H2 ⟨F2, ρ2, r2, k2, hf2⟩
  cases mm with
  | zero => cases hf2
  | succ mm =>
    obtain ⟨k, e1, e2⟩ := bind_some hf2
    refine hc B F2 H2 σ1 ρ2 k _ r2 e1 fun F3 H3 x3 => ?_
    cases k with
    | false =>
      cases e2
      exact e σ1 F3 H3 (r2.ext x3) k2
    | true =>
      obtain ⟨o1, e3, e4⟩ := bind_some e2
      refine ⟨fun σ' H' => ∃ F' ρ', Rel K B F' H' σ' ρ' ∧ (∀ l, l ∉ W → σ'[l]? = σ[l]?) ∧ whileL fc b mm ρ' = some o, fun σ' H' hn => ⟨mm, Nat.lt_succ_self mm, hn⟩, ?_⟩
      have key : ∀ {σ4 : L2.St}, (∀ l, l ∉ W → σ4[l]? = σ1[l]?) → ∀ l, l ∉ W → σ4[l]? = σ[l]? := fun k4 l hl => (k4 l hl).trans (k2 l hl)
      refine hb B F3 H3 σ1 ρ2 o1 _ (r2.ext x3) e3 ?_
      cases o1 with
      | nx ρ4 => exact fun σ4 F4 H4 r4 k4 => ⟨F4, ρ4, r4, key k4, e4⟩
      | ct ρ4 => exact fun σ4 F4 H4 r4 k4 => ⟨F4, ρ4, r4, key k4, e4⟩
      | bk ρ4 => cases e4; exact fun σ4 F4 H4 r4 k4 => e σ4 F4 H4 r4 (key k4)
      | rt d => cases e4; exact fun v F4 H4 r4 => e v F4 H4 r4
theorem ds_while {N : Nat} {c : Expr} {body : List Stmt} {tc : TT} {tb : TS} {fc : Rho → Option Bool} {b : Bd} (hc : DT X c tc fc) (hb : DSs X m W body tb b) (hp : PassesOwn (model X.prog X.w) X.A X.env X.xe := by exact PassesOwn.never) : DS X m W (.While c body [] pos) (tWhile tc tb) (whileL fc b N) :=
  ⟨ps_while hp hc.p hb.p, sem_while hc.s hb.s⟩
end
end Q
end

/-! part: Q7 -/
section
set_option Elab.async false
set_option linter.all false
set_option maxRecDepth 100000
set_option maxHeartbeats 4000000
set_option autoImplicit false
namespace Q
open PySem PySem.Spec PySem.Calls PyProof.Rows L2
/-! ### comprehensions -/
theorem wipe_at (σ : L2.St) (j : Nat) : ∀ vs : List Nat, (wipe σ vs)[j]? = if j ∈ vs then (if j < σ.length then some none else none) else σ[j]?
  | [] => by simp [wipe]
  | v :: vs => by
    unfold wipe
    by_cases e : j = v
    · subst e
      by_cases hl : j < σ.length
      · rw [List.getElem?_set_self (by rw [wipe_length]; exact hl)]
        simp [hl]
      · rw [List.getElem?_eq_none (by simp only [List.length_set, wipe_length]; omega)]
        simp [hl]
    · rw [List.getElem?_set_ne (Ne.symm e), wipe_at σ j vs]
      simp [e]
theorem wipe_back {σ σ2 : L2.St} {vs : List Nat} (hl : σ2.length = σ.length) (h : ∀ j, j ∉ vs → σ2[j]? = (wipe σ vs)[j]?) : wipe σ2 vs = wipe σ vs := by
  apply List.ext_getElem?
  intro j
  rw [wipe_at σ2, wipe_at σ, hl]
  by_cases hj : j ∈ vs
  · simp [hj]
  · simp only [hj, if_false]
    rw [h j hj, wipe_at σ]
    simp [hj]
def wipeR (ρ : Rho) : List Nat → Rho
  | [] => ρ
  | v :: vs => (wipeR ρ vs).set v .un
theorem Rel.setUn {K : PySem.W.Frag} {B : Bs} {F H : Hp} {σ : L2.St} {ρ : Rho} (r : Rel K B F H σ ρ) {i : Nat} {o : Option V} : Rel K B F H (σ.set i o) (ρ.set i .un) := by
  refine ⟨by simpa using r.len, r.f0, r.g, r.fh, r.nw, fun j o s h1 h2 => ?_, fun j k d1 d2 a hjk h1 h2 h3 h4 => ?_⟩
  · rcases set_at h2 with ⟨rfl, _, rfl⟩ | ⟨n2, h2⟩
    · trivial
    · rcases set_at h1 with ⟨e, _, _⟩ | ⟨_, h1⟩
      · exact absurd e n2
      · exact r.sl j o s h1 h2
  · rcases set_at h1 with ⟨_, _, e⟩ | ⟨n1, h1⟩
    · cases e
    rcases set_at h2 with ⟨_, _, e⟩ | ⟨n2, h2⟩
    · cases e
    rw [List.getElem?_set_ne (Ne.symm n1)] at h3
    rw [List.getElem?_set_ne (Ne.symm n2)] at h4
    exact r.sep j k d1 d2 a hjk h1 h2 h3 h4
theorem Rel.wiped {K : PySem.W.Frag} {B : Bs} {F H : Hp} {σ : L2.St} {ρ : Rho} (r : Rel K B F H σ ρ) : ∀ vs : List Nat, Rel K B F H (wipe σ vs) (wipeR ρ vs)
  | [] => r
  | v :: vs => (Rel.wiped r vs).setUn
/-- another object changes -/
theorem Rel.other {K : PySem.W.Frag} {B : Bs} {F H : Hp} {σ : L2.St} {ρ : Rho} (r : Rel K B F H σ ρ) {a : Addr} {o : HO} (hf : F a = none) (hg : B.G a = none) (hn : ∀ (j : Nat) (e : D), ρ[j]? = some (.ow e) → σ[j]? ≠ some (some (.ref a))) : Rel K B F (upd H a o) σ ρ := by
  refine ⟨r.len, r.f0, fun b u q => ?_, fun b u q => ?_, r.nw, fun j oo s h1 h2 => ?_, r.sep⟩
  · rw [upd_ne (ne_of_none q hg)]; exact r.g b u q
  · rw [upd_ne (ne_of_none q hf)]; exact r.fh b u q
  · have q := r.sl j oo s h1 h2
    cases s with
    | un => trivial
    | im d => exact q
    | ow d =>
      obtain ⟨c, rfl, f, g, w⟩ := q
      have hca : c ≠ a := fun z => by subst z; exact hn j d h2 h1
      refine ⟨c, rfl, f, g, ?_⟩
      cases d with
      | list ds =>
        obtain ⟨vs, w1, w2⟩ := w
        exact ⟨vs, by rw [upd_ne hca]; exact w1, w2⟩
      | dict ds =>
        obtain ⟨vs, w1, w2⟩ := w
        exact ⟨vs, by rw [upd_ne hca]; exact w1, w2⟩
      | _ => exact w.elim
def lcL (tt : D → Option Bool) (te : D → Option D) : List D → Option (List D)
  | [] => some []
  | d :: ds => (tt d).bind fun b => if b = true then (te d).bind fun y => (lcL tt te ds).map (y :: ·) else lcL tt te ds
def fLc (f : Rho → Option (List D)) (s : D → Rho → Option Rho) (ft : Rho → Option Bool) (fe : Rho → Option D) (vs : List Nat) : Rho → Option D := fun ρ => (f ρ).bind fun ds =>
  (lcL (fun d => (s d (wipeR ρ vs)).bind ft) (fun d => (s d (wipeR ρ vs)).bind fe) ds).bind fun rs => if rs.length ≤ sizeLine then some (.list rs) else none
theorem sem_lc {w : Bool} {K : PySem.W.Frag} {W1 vs : List Nat} {wi : TI} {g : TG} {tt : TT} {te : TE} {f : Rho → Option (List D)} {s : D → Rho → Option Rho} {ft : Rho → Option Bool} {fe : Rho → Option D} (hi : SemI w K .pk wi f) (hg : SemG w K W1 g s) (ht : SemT K tt ft) (he : SemE K .fz te fe) (hW : ∀ j ∈ W1, j ∈ vs) :
    SemE K .fr (tLc wi g tt te vs) (fLc f s ft fe vs) := by
  intro B F H σ ρ z Q rel hf q
  obtain ⟨ds, h1, h2⟩ := bind_some hf
  obtain ⟨rs, h3, h4⟩ := bind_some h2
  obtain ⟨h5, rfl⟩ := if_some h4
  refine hi B F H σ ρ ds _ rel h1 fun J F1 H1 x1 it => ?_
  intro L hL
  have r1 := (rel.ext x1).wiped vs
  have gL : B.G L = none := (rel.ext x1).g.free hL
  have nL : ∀ (j : Nat) (e : D), (wipeR ρ vs)[j]? = some (.ow e) → (wipe σ vs)[j]? ≠ some (some (.ref L)) := own_ne r1 hL
  refine ⟨fun i m H' => m = ds.length - i ∧ i ≤ ds.length ∧ ∃ F' acc rr r2, Rel K B F' H' (wipe σ vs) (wipeR ρ vs) ∧ Same F1 F' ∧ Same H1 H' ∧ New F1 F' H1 ∧ F' L = none ∧ H' L = some (.lst acc) ∧ RepA K F' acc rr ∧
    lcL (fun d => (s d (wipeR ρ vs)).bind ft) (fun d => (s d (wipeR ρ vs)).bind fe) (ds.drop i) = some r2 ∧ rs = rr ++ r2,
    ⟨ds.length, by simp, Nat.zero_le _, F1, [], [], rs, r1.other (x1.s.free hL) gL nL, .refl _, same_upd hL, .refl, x1.s.free hL, upd_same, .nil, by simpa using h3, rfl⟩, ?_⟩
  rintro i m H2 ⟨rfl, hil, F2, acc, rr, r2, rel2, f2, s2, n2, fL, hH, ra, hl, hrs⟩
  by_cases hlt : i < ds.length
  · rw [List.drop_eq_getElem_cons hlt] at hl
    obtain ⟨b, e1, e2⟩ := bind_some (show ((s ds[i] (wipeR ρ vs)).bind ft).bind _ = some r2 from hl)
    obtain ⟨ρ3, e3, e4⟩ := bind_some e1
    refine .inr ⟨it.go i F2 H2 hlt f2 rel2.fh s2, fun H' => i + 1 ≤ ds.length ∧ ∃ F' acc rr r2, Rel K B F' H' (wipe σ vs) (wipeR ρ vs) ∧ Same F1 F' ∧ Same H1 H' ∧ New F1 F' H1 ∧ F' L = none ∧ H' L = some (.lst acc) ∧ RepA K F' acc rr ∧
      lcL (fun d => (s d (wipeR ρ vs)).bind ft) (fun d => (s d (wipeR ρ vs)).bind fe) (ds.drop (i + 1)) = some r2 ∧ rs = rr ++ r2, fun H' hn => ⟨ds.length - (i + 1), by omega, rfl, hn⟩, fun x H3 y => ?_⟩
    obtain ⟨F3, x3, rb⟩ := it.yld i ds[i] F2 H2 x H3 (List.getElem?_eq_getElem hlt) f2 rel2.fh s2 y
    refine hg B F3 H3 (wipe σ vs) (wipeR ρ vs) ρ3 x ds[i] _ (rel2.ext x3) rb e3 fun σ3 r3 k3 l3 => ?_
    refine ⟨wipe_back (l3.trans (wipe_length σ vs)) fun j hj => k3 j fun z => hj (hW j z), ?_⟩
    refine ht B F3 H3 σ3 ρ3 b _ r3 e4 fun F4 H4 x4 => ?_
    have x34 := x3.trans x4
    -- the state behind the turn
    have back : ∀ {F5 H5 : Hp}, Ext F2 H2 F5 H5 → Rel K B F5 H5 (wipe σ vs) (wipeR ρ vs) ∧ Same F1 F5 ∧ Same H1 H5 ∧ New F1 F5 H1 ∧ F5 L = none ∧ H5 L = some (.lst acc) := fun {F5 H5} x => by
      refine ⟨rel2.ext x, f2.trans x.f, s2.trans x.h, fun a h => ?_, x.keepNone fL (by rw [hH]; exact fun z => nomatch z), x.h _ _ hH⟩
      exact (x.n a h).elim (n2 a) fun z => .inr (s2.free z)
    cases b with
    | false =>
      obtain ⟨a1, a2, a3, a4, a5, a6⟩ := back x34
      exact ⟨hlt, F4, acc, rr, r2, a1, a2, a3, a4, a5, a6, ra.mono x34.f, e2, hrs⟩
    | true =>
      obtain ⟨y0, e5, e6⟩ := bind_some (show ((s ds[i] (wipeR ρ vs)).bind fe).bind _ = some r2 from e2)
      obtain ⟨ρ4, e7, e8⟩ := bind_some e5
      rw [e3] at e7
      cases e7
      obtain ⟨r5, e9, rfl⟩ := Option.map_eq_some_iff.mp e6
      show te σ3 H4 _
      refine he B F4 H4 σ3 ρ3 y0 _ (r3.ext x4) e8 fun v F5 H5 x5 rv => ?_
      have x35 := x34.trans x5
      obtain ⟨a1, a2, a3, a4, a5, a6⟩ := back x35
      have hlen : acc.length < sizeLine := by
        have h6 : rs.length = rr.length + (r5.length + 1) := by rw [hrs]; simp
        have h7 := ra.length
        omega
      refine ⟨acc, a6, hlen, hlt, F5, acc ++ [v], rr ++ [y0], r5, a1.other a5 gL nL, a2, fun c u hc => ?_, a4, a5, upd_same, (ra.mono x35.f).append (.cons rv .nil), e9, by rw [hrs]; simp⟩
      rw [upd_ne (ne_of_none hc hL)]
      exact a3 _ _ hc
  · have ei : i = ds.length := by omega
    subst ei
    rw [List.drop_length] at hl
    cases hl
    rw [List.append_nil] at hrs
    subst hrs
    refine .inl ⟨it.stop _ F2 H2 (Nat.le_refl _) f2 rel2.fh s2, q _ F2 H2 ⟨x1.f.trans f2, x1.h.trans s2, fun a h => ?_, rel2.fh⟩ ⟨L, rfl, x1.h.free hL, fL, acc, hH, ra⟩⟩
    exact (n2 a h).elim (x1.n a) fun z => .inr (x1.h.free z)
section
variable {X : Cx} {m : Md} {W1 : List Nat} {pos : Pos} {w : Bool}
structure DTs (X : Cx) (ifs : List Expr) (t : TT) (f : Rho → Option Bool) : Prop where
  p : PTs X ifs t
  s : SemT X.K t f
def fYes : Rho → Option Bool := fun _ => some true
theorem dts_nil : DTs X [] tYes fYes := ⟨pts_nil, fun B F H σ ρ b Q r hf q => by cases hf; exact q F H (.refl r.fh)⟩
theorem dts_one {c : Expr} {t : TT} {f : Rho → Option Bool} (h : DT X c t f) : DTs X [c] t f := ⟨pts_one h.p, h.s⟩
variable {elt tg iter : Expr} {ifs : List Expr} {scope : Scope} {own : List (Str × Nat)} {wi : TI} {g : TG} {tt : TT} {te : TE} {f : Rho → Option (List D)} {s : D → Rho → Option Rho} {ft : Rho → Option Bool} {fe : Rho → Option D}
theorem de_lc {vs : List Nat} (own : List (Str × Nat)) (hN : X.N.Nodup) (hi : DI w X m tg iter wi f) (ok : blkC X.N X.env.scope scope own = true)
    (hg : ∀ (s' : Shared) (H : Hp) (C : Addr) (cl : List (Str × Addr)) (fp : List Addr), DG w (X.blk s' H scope (compEnvC scope cl C X.env) fp) W1 tg g s) (ht : ∀ (s : Shared) (H : Hp) (C : Addr) (cl : List (Str × Addr)) (fp : List Addr), DTs (X.blk s H scope (compEnvC scope cl C X.env) fp) ifs tt ft)
    (he : ∀ (s : Shared) (H : Hp) (C : Addr) (cl : List (Str × Addr)) (fp : List Addr), DE (X.blk s H scope (compEnvC scope cl C X.env) fp) .fz elt te fe) (hW : ∀ j ∈ W1, j ∈ vs) (hc : X.calm = true := by rfl) (hs : ∀ x, foldedSetIterable iter X.env x = pure x := by intro _; rfl) (hvs : own.map (·.2) = vs := by rfl) :
    DE X .fr (.ListComp elt [⟨tg, iter, ifs, 0⟩] scope pos) (tLc wi g tt te (vs)) (fLc f s ft fe (vs)) := by
  subst hvs
  exact
  ⟨pe_lc hc hN hi.p (blkOk_by ok) (fun s H C cl fp => (hg s H C cl fp).p) (fun s H C cl fp => (ht s H C cl fp).p) (fun s H C cl fp => (he s H C cl fp).p) hs,
    sem_lc hi.pk.s (hg X.s_0 (fun _ => none) 0 [] []).s (ht X.s_0 (fun _ => none) 0 [] []).s (he X.s_0 (fun _ => none) 0 [] []).s hW⟩
/-- name = [..], the name a local on the same line -/
theorem ds_asgLc {m1 : Md} {vs : List Nat} {i : Nat} {y : Str} {py spos : Pos} (own : List (Str × Nat)) (hN : X.N.Nodup) (hi : DI w X m tg iter wi f) (ok : blkC X.N X.env.scope scope own = true)
    (hg : ∀ (s' : Shared) (H : Hp) (C : Addr) (cl : List (Str × Addr)) (fp : List Addr), DG w (X.blk s' H scope (compEnvC scope cl C X.env) fp) W1 tg g s) (ht : ∀ (s : Shared) (H : Hp) (C : Addr) (cl : List (Str × Addr)) (fp : List Addr), DTs (X.blk s H scope (compEnvC scope cl C X.env) fp) ifs tt ft)
    (he : ∀ (s : Shared) (H : Hp) (C : Addr) (cl : List (Str × Addr)) (fp : List Addr), DE (X.blk s H scope (compEnvC scope cl C X.env) fp) .fz elt te fe) (hW : ∀ j ∈ W1, j ∈ vs) (hsw : swapsWith (.ListComp elt [⟨tg, iter, ifs, 0⟩] scope pos) (some (.Name y py)) spos.line X.env = pure true)
    (hy : X.N[i]? = some y := by rfl) (hyl : X.env.scope.names.lookup y = some .local := by rfl) (hc : X.calm = true := by rfl) (hs : ∀ x, foldedSetIterable iter X.env x = pure x := by intro _; rfl) (hvs : own.map (·.2) = vs := by rfl) :
    DS X m1 [i] (.Assign [.Name y py] (.ListComp elt [⟨tg, iter, ifs, 0⟩] scope pos) spos) (tAsg (tLc wi g tt te (vs)) (gName i)) (bAsg i (fLc f s ft fe (vs))) := by
  subst hvs
  have d := de_lc (pos := pos) own hN hi ok hg ht he hW hc hs
  exact ⟨ps_setLc hc hN hy hyl hsw hi.p (blkOk_by ok) (fun s H C cl fp => (hg s H C cl fp).p) (fun s H C cl fp => (ht s H C cl fp).p) (fun s H C cl fp => (he s H C cl fp).p) hs, sem_asg d.frz.s⟩
theorem ds_ownLc {m1 : Md} {vs : List Nat} {i : Nat} {y : Str} {py spos : Pos} (own : List (Str × Nat)) (hN : X.N.Nodup) (hi : DI w X m tg iter wi f) (ok : blkC X.N X.env.scope scope own = true)
    (hg : ∀ (s' : Shared) (H : Hp) (C : Addr) (cl : List (Str × Addr)) (fp : List Addr), DG w (X.blk s' H scope (compEnvC scope cl C X.env) fp) W1 tg g s) (ht : ∀ (s : Shared) (H : Hp) (C : Addr) (cl : List (Str × Addr)) (fp : List Addr), DTs (X.blk s H scope (compEnvC scope cl C X.env) fp) ifs tt ft)
    (he : ∀ (s : Shared) (H : Hp) (C : Addr) (cl : List (Str × Addr)) (fp : List Addr), DE (X.blk s H scope (compEnvC scope cl C X.env) fp) .fz elt te fe) (hW : ∀ j ∈ W1, j ∈ vs) (hsw : swapsWith (.ListComp elt [⟨tg, iter, ifs, 0⟩] scope pos) (some (.Name y py)) spos.line X.env = pure true)
    (hy : X.N[i]? = some y := by rfl) (hyl : X.env.scope.names.lookup y = some .local := by rfl) (hc : X.calm = true := by rfl) (hs : ∀ x, foldedSetIterable iter X.env x = pure x := by intro _; rfl) (hvs : own.map (·.2) = vs := by rfl) :
    DS X m1 [i] (.Assign [.Name y py] (.ListComp elt [⟨tg, iter, ifs, 0⟩] scope pos) spos) (tAsg (tLc wi g tt te (vs)) (gName i)) (bOwn i (fLc f s ft fe (vs))) := by
  subst hvs
  have d := de_lc (pos := pos) own hN hi ok hg ht he hW hc hs
  exact ⟨ps_setLc hc hN hy hyl hsw hi.p (blkOk_by ok) (fun s H C cl fp => (hg s H C cl fp).p) (fun s H C cl fp => (ht s H C cl fp).p) (fun s H C cl fp => (he s H C cl fp).p) hs, sem_own d.s⟩
end
end Q
end

/-! part: Q8 -/
section
set_option Elab.async false
set_option linter.all false
set_option maxRecDepth 100000
set_option maxHeartbeats 4000000
set_option autoImplicit false
namespace Q
open PySem PySem.Spec PySem.Calls PyProof.Rows L2
/-! ### defs of the text -/
def spM (K : PySem.W.Frag) (m : Md) (Φ : List D → Option D) : Sp := fun vs H Q _ => ∃ F ds r, Same F H ∧ RepA K F vs ds ∧ Φ ds = some r ∧ ∀ v F' H', Ext F H F' H' → Res K m H F' H' v r → Q v H'
def runB (n : Nat) (b : Bd) : List D → Option D := fun ds => (b (ds.map .im ++ List.replicate (n - ds.length) .un)).bind fun o => match o with
  | .rt d => some d
  | .nx _ => some .none
  | _ => none
section
variable {P : Program} {w : World} {K : PySem.W.Frag} {mg : Str → Option Value} {base : Heap}
theorem start_rel {N : List Str} {F H : Hp} : ∀ {vs : List V} {ds : List D}, RepA K F vs ds → ds.length ≤ N.length → Same F H → Rel K { F0 := F, G := H } F H (L2.start N vs) (ds.map Sl.im ++ List.replicate (N.length - ds.length) .un) := fun {vs ds} ra hl fh => by
  have el := ra.length
  refine ⟨?_, .refl _, .refl _, fh, .refl, fun i o s h1 h2 => ?_, fun i j d e a hij h1 h2 h3 h4 => ?_⟩
  · unfold L2.start; simp [el]
  · unfold L2.start at h1
    by_cases hi : i < ds.length
    · rw [List.getElem?_append_left (by simpa using hi)] at h2
      rw [List.getElem?_append_left (by simpa [el] using hi)] at h1
      rw [List.getElem?_map] at h1 h2
      obtain ⟨d, e1, rfl⟩ := Option.map_eq_some_iff.mp h2
      obtain ⟨v, e2, e3⟩ := ra.get e1
      rw [e2] at h1
      cases h1
      exact ⟨v, rfl, e3⟩
    · rw [List.getElem?_append_right (by simpa using hi)] at h2
      rw [List.getElem?_replicate] at h2
      split at h2
      · cases h2; trivial
      · cases h2
  · by_cases hi : i < ds.length
    · rw [List.getElem?_append_left (by simpa using hi), List.getElem?_map] at h1
      obtain ⟨d, _, e1⟩ := Option.map_eq_some_iff.mp h1
      cases e1
    · rw [List.getElem?_append_right (by simpa using hi), List.getElem?_replicate] at h1
      split at h1 <;> cases h1
/-- A DEF KEEPS WHAT ITS BODY'S DENOTATION SAYS -/
theorem fn_den {x qual : Str} {params : Arguments} {body : List Stmt} {scope : Scope} {dvs : List V} {kws : List (Str × V)} {f : Addr} {fd : FuncData} {N ps : List Str} {k : Nat} {m : Md} {b : Bd}
    (Fd : FunD K x qual params body scope dvs kws f fd) (S : FnScope N ps scope) (Φ : List D → Option D) (hΦ : ∀ ds r, Φ ds = some r → ds.length = ps.length ∧ runB N.length b ds = some r) (hm : m = .fz ∨ ∀ ds ρ', b ds ≠ some (.nx ρ'))
    (hb : ∀ (cdv : Value) (A : Around) (outer : List Env) (s : Shared) (H : Hp) (E : XK), Room k (A.deeper (envOfC qual scope s.heap.objs.size f cdv)) →
      ∃ W t, DSs (cxOf CX0 P w K mg base N qual scope f cdv A outer s H E).nox m W body t b) : FnOk P w K mg base CX0 (k + 1) f fd ps (spM K m Φ) := by
  have lenOf : ∀ vs H Q E, spM K m Φ vs H Q E → vs.length = ps.length := fun vs H Q E h => by
    obtain ⟨F, ds, r, _, ra, hr, _⟩ := h
    rw [ra.length]
    exact (hΦ ds r hr).1
  refine Fd.ok S lenOf fun cdv A outer s H vs Q E hr h => ?_
  obtain ⟨W, t, D⟩ := hb cdv A outer s H E hr
  refine ⟨t, D.p.nox, ?_⟩
  obtain ⟨F, ds, r, fh, ra, hP, q⟩ := h
  obtain ⟨hl, hrun⟩ := hΦ ds r hP
  obtain ⟨o, e1, e2⟩ := bind_some hrun
  have hlen : ps.length ≤ N.length := by
    have e := congrArg List.length S.pre
    rw [List.length_take] at e
    omega
  refine D.s { F0 := F, G := H } F H _ _ o _ (start_rel ra (by rw [hl]; exact hlen) fh) e1 ?_
  cases o with
  | rt d =>
    cases e2
    intro v F' H' ro
    obtain ⟨a1, a2, a3, a4, a5⟩ := ro
    exact q v F' H' ⟨a1, a2, a4, a3⟩ a5
  | nx ρ' =>
    cases e2
    rcases hm with rfl | hm
    · intro σ' F' H' r' _
      exact q .non F' H' ⟨r'.f0, r'.g, r'.nw, r'.fh⟩ Rep.non
    · exact absurd e1 (hm _ _)
  | bk ρ' => cases e2
  | ct ρ' => cases e2
end
section
variable {X : Cx} {m : Md} {k : Nat} {f : Addr} {fd : FuncData} {ps : List Str} {Φ : List D → Option D} {x : Str} {p pos : Pos} {e : Expr} {es : List Expr} {t : TA} {fs : Rho → Option (List D)}
theorem sem_call {K : PySem.W.Frag} (h : SemA K .fz t fs) : SemE K m (tCall (spM K m Φ) [] E0 t) (fB Φ fs) := by
  intro B F H σ ρ z Q rel hf q
  obtain ⟨ds, h1, h2⟩ := bind_some hf
  refine h B F H σ ρ ds _ rel h1 fun vs F1 H1 x1 r1 => ?_
  rw [List.append_nil]
  exact ⟨F1, ds, z, x1.s, r1.rep, h2, fun v F' H' x2 r2 => q v F' H' (x1.trans x2) (r2.back (F1 := F1) x1.h)⟩
/-- f(e, ..), f a def of the text -/
theorem de_call (F : FnOk X.prog X.w X.K X.mg X.base CX0 k f fd ps (spM X.K m Φ)) (hr : Room k X.A) (hg : Gl X x) (hm : X.mg x = some (.ref f)) (hk : PySem.W.keepIn X.K (.ref f) = true) (hb : Binds X.K fd ps []) (ha : DA X .fz (e :: es) t fs)
    (hdb : (x == ("__debug__" : Str)) = false := by decide) (he : starEach (e :: es) X.env = (false, eval e X.env) :: starEach es X.env := by rfl) (hpl : (backTo pos (starEach es X.env)).any (·.1) = false := by rfl) :
    DE X m (.Call (.Name x p) (e :: es) [] pos) (tCall (spM X.K m Φ) [] E0 t) (fB Φ fs) := ⟨pe_call F hr hg hm hk hb .nil pass0 ha.p hdb he hpl, sem_call ha.s⟩
theorem de_call0 (F : FnOk X.prog X.w X.K X.mg X.base CX0 k f fd ps (spM X.K m Φ)) (hr : Room k X.A) (hg : Gl X x) (hm : X.mg x = some (.ref f)) (hk : PySem.W.keepIn X.K (.ref f) = true) (hb : Binds X.K fd ps [])
    (hdb : (x == ("__debug__" : Str)) = false := by decide) : DE X m (.Call (.Name x p) [] [] pos) (tCall (spM X.K m Φ) [] E0 tNil) (fB Φ aNil) := ⟨pe_call0 F hr hg hm hk hb .nil pass0 hdb, sem_call (fs := aNil) fun B F H σ ρ ds Q rel hf q => by cases hf; exact q [] F H (.refl rel.fh) .nil⟩
end
/-! a result without lists: arguments that are owned stay so -/
mutual
def nm : D → Bool
  | .none => true
  | .bool _ => true
  | .int _ => true
  | .str _ => true
  | .tuple ds => nmA ds
  | .list _ => false
  | .dict _ => false
def nmA : List D → Bool
  | [] => true
  | d :: ds => nm d && nmA ds
end
/-- of a new list: its items -/
def okR (m : Md) (d : D) : Bool := match m, d with
  | .fr, .list ds => nmA ds
  | .fr, .dict es => es.all fun e => nm e.2
  | .fr, _ => false
  | _, d => nm d
/-- a list or a dict -/
def Mb (o : HO) : Prop := (∃ xs, o = .lst xs) ∨ ∃ ks, o = .dK ks
section
variable {K : PySem.W.Frag} {F F2 : Hp}
mutual
theorem Rep.less (h : ∀ a o, F a = some o → ¬ Mb o → F2 a = some o) : ∀ {v : V} {d : D}, Rep K F v d → nm d = true → Rep K F2 v d
  | _, _, .non, _ => .non
  | _, _, .bl b, _ => .bl b
  | _, _, .int i, _ => .int i
  | _, _, .str x, _ => .str x
  | _, _, .lst _ _, e => by simp [nm] at e
  | _, _, .dct _ _, e => by simp [nm] at e
  | _, .tuple ds, .tup h1 r, e => .tup (by
      rcases h1 with ⟨o, h1, h2⟩ | h1
      · exact .inl ⟨o, h _ _ h1 (fun z => by rcases z with ⟨_, z⟩ | ⟨_, z⟩ <;> cases z), h2⟩
      · exact .inr h1) (RepA.less h r (by simpa [nm] using e))
theorem RepA.less (h : ∀ a o, F a = some o → ¬ Mb o → F2 a = some o) : ∀ {vs : List V} {ds : List D}, RepA K F vs ds → nmA ds = true → RepA K F2 vs ds
  | _, _, .nil, _ => .nil
  | _, d :: ds, .cons h1 r, e => by
    have e' : nm d = true ∧ nmA ds = true := by simpa [nmA] using e
    exact .cons (Rep.less h h1 e'.1) (RepA.less h r e'.2)
end
theorem RepK.less (h : ∀ a o, F a = some o → ¬ Mb o → F2 a = some o) : ∀ {ks : List (Key × V)} {es : List (D × D)}, RepK K F ks es → (es.all fun e => nm e.2) = true → RepK K F2 ks es
  | _, _, .nil, _ => .nil
  | _, _, .cons h1 r, e => by
    simp only [List.all_cons, Bool.and_eq_true] at e
    exact .cons (Rep.less h h1 e.1) (RepK.less h r e.2)
end
/-- F with the objects at L added as they stand in H -/
def plus (F H : Hp) (L : List Addr) : Hp := fun a => match F a with
  | some o => some o
  | none => if a ∈ L then H a else none
theorem plus_f {F H : Hp} {L : List Addr} : Same F (plus F H L) := fun a o h => by unfold plus; rw [h]
theorem plus_h {F H : Hp} {L : List Addr} (s : Same F H) : Same (plus F H L) H := fun a o h => by
  unfold plus at h
  split at h
  · rename_i o' e; cases h; exact s _ _ e
  · split at h
    · exact h
    · cases h
theorem plus_mono {F H : Hp} {L L' : List Addr} (h : ∀ a ∈ L, a ∈ L') : Same (plus F H L) (plus F H L') := fun a o q => by
  unfold plus at q ⊢
  cases e : F a with
  | some o' => rw [e] at q; exact q
  | none =>
    rw [e] at q
    have q' : (if a ∈ L then H a else none) = some o := q
    show (if a ∈ L' then H a else none) = some o
    by_cases hm : a ∈ L
    · rw [if_pos hm] at q'; rw [if_pos (h a hm)]; exact q'
    · rw [if_neg hm] at q'; cases q'
theorem args_plus {K : PySem.W.Frag} {H0 F H : Hp} : ∀ {vs : List V} {ds : List D}, ResA K .pk H0 F H vs ds → ∃ L : List Addr, (∀ a ∈ L, F a = none ∧ ∃ u, Mb u ∧ H a = some u) ∧ RepA K (plus F H L) vs ds
  | _, _, .nil => ⟨[], by simp, .nil⟩
  | _, _, .cons h r => by
    obtain ⟨L, h1, h2⟩ := args_plus r
    rcases h with h | ⟨a, rfl, hf, o⟩
    · exact ⟨L, h1, .cons (h.mono plus_f) h2⟩
    · rename_i d ds
      cases d with
      | list es =>
        obtain ⟨xs, e, ra⟩ := o
        refine ⟨a :: L, fun b hb => ?_, .cons (.lst (.of ?_) (ra.mono plus_f)) (h2.mono (plus_mono fun b hb => List.mem_cons_of_mem _ hb))⟩
        · rcases List.mem_cons.mp hb with rfl | hb
          · exact ⟨hf, _, .inl ⟨xs, rfl⟩, e⟩
          · exact h1 b hb
        · unfold plus; rw [hf]; show (if a ∈ a :: L then H a else none) = _; rw [if_pos List.mem_cons_self]; exact e
      | dict es =>
        obtain ⟨xs, e, ra⟩ := o
        refine ⟨a :: L, fun b hb => ?_, .cons (.dct (.of ?_) (ra.mono plus_f)) (h2.mono (plus_mono fun b hb => List.mem_cons_of_mem _ hb))⟩
        · rcases List.mem_cons.mp hb with rfl | hb
          · exact ⟨hf, _, .inr ⟨xs, rfl⟩, e⟩
          · exact h1 b hb
        · unfold plus; rw [hf]; show (if a ∈ a :: L then H a else none) = _; rw [if_pos List.mem_cons_self]; exact e
      | _ => exact o.elim
def fBP (m : Md) (Φ : List D → Option D) (fs : Rho → Option (List D)) : Rho → Option D := fun ρ => (fs ρ).bind fun ds => (Φ ds).bind fun r => if okR m r = true then some r else none
section
variable {X : Cx} {m m1 : Md} {k : Nat} {f : Addr} {fd : FuncData} {ps : List Str} {Φ : List D → Option D} {x : Str} {p pos : Pos} {e : Expr} {es : List Expr} {t : TA} {fs : Rho → Option (List D)}
theorem sem_callP {K : PySem.W.Frag} (hm : m = .fz ∨ m = .fr) (h : SemA K m1 t fs) : SemE K m (tCall (spM K m Φ) [] E0 t) (fBP m Φ fs) := by
  intro B F H σ ρ z Q rel hf q
  obtain ⟨ds, h1, h2⟩ := bind_some hf
  obtain ⟨r, h3, h4⟩ := bind_some h2
  obtain ⟨hn, rfl⟩ := if_some h4
  refine h B F H σ ρ ds _ rel h1 fun vs F1 H1 x1 r1 => ?_
  rw [List.append_nil]
  obtain ⟨L, hL, ra⟩ := args_plus r1.any
  refine ⟨plus F1 H1 L, ds, r, plus_h x1.s, ra, h3, fun v F' H' x2 r2 => ?_⟩
  -- what the callee froze, without the caller's own
  have hex : ∃ F3 : Hp, Ext F1 H1 F3 H' ∧ (∀ a o, F' a = some o → ¬ Mb o → F3 a = some o) ∧ ∀ a, F' a = none → F3 a = none := by
    refine ⟨fun a => if a ∈ L then none else F' a, ⟨fun a o h => ?_, x2.h, fun a h => ?_, fun a o h => ?_⟩, fun a o h1 h2 => ?_, fun a h => ?_⟩
    · have : a ∉ L := fun z => by rw [(hL a z).1] at h; cases h
      rw [if_neg this]
      exact x2.f _ _ (plus_f _ _ h)
    · by_cases z : a ∈ L
      · exact absurd (if_pos z) h
      · have h' : F' a ≠ none := by intro e; exact h (by rw [if_neg z]; exact e)
        rcases x2.n a h' with w | w
        · left
          intro e
          apply w
          unfold plus
          rw [e]
          exact if_neg z
        · exact .inr w
    · by_cases z : a ∈ L
      · have h' : (none : Option HO) = some o := by rw [← h]; exact (if_pos z).symm
        cases h'
      · have h' : F' a = some o := by rw [← h]; exact (if_neg z).symm
        exact x2.s _ _ h'
    · have : a ∉ L := fun z => by
        obtain ⟨f1, u, hu, e⟩ := hL a z
        have : plus F1 H1 L a = some u := by unfold plus; rw [f1]; show (if a ∈ L then H1 a else none) = _; rw [if_pos z]; exact e
        have q := x2.f _ _ this
        rw [h1] at q
        exact h2 (by rw [Option.some.inj q]; exact hu)
      exact (if_neg this).trans h1
    · by_cases z : a ∈ L
      · exact if_pos z
      · exact (if_neg z).trans h
  obtain ⟨F3, x3, k1, k2⟩ := hex
  refine q v F3 H' (x1.trans x3) ?_
  rcases hm with rfl | rfl
  · exact Rep.less k1 r2 hn
  · obtain ⟨a, rfl, h0, hf0, o⟩ := r2
    refine ⟨a, rfl, x1.h.free h0, k2 a hf0, ?_⟩
    cases r with
    | list es =>
      obtain ⟨ws, e1, e2⟩ := o
      exact ⟨ws, e1, e2.less k1 hn⟩
    | dict es =>
      obtain ⟨ws, e1, e2⟩ := o
      exact ⟨ws, e1, e2.less k1 hn⟩
    | _ => exact o.elim
/-- f(e, ..), owned names among the arguments, no list in what comes back -/
theorem de_callP (hm0 : m = .fz ∨ m = .fr) (F : FnOk X.prog X.w X.K X.mg X.base CX0 k f fd ps (spM X.K m Φ)) (hr : Room k X.A) (hg : Gl X x) (hm : X.mg x = some (.ref f)) (hk : PySem.W.keepIn X.K (.ref f) = true) (hb : Binds X.K fd ps []) (ha : DA X .pk (e :: es) t fs)
    (hdb : (x == ("__debug__" : Str)) = false := by decide) (he : starEach (e :: es) X.env = (false, eval e X.env) :: starEach es X.env := by rfl) (hpl : (backTo pos (starEach es X.env)).any (·.1) = false := by rfl) :
    DE X m (.Call (.Name x p) (e :: es) [] pos) (tCall (spM X.K m Φ) [] E0 t) (fBP m Φ fs) := ⟨pe_call F hr hg hm hk hb .nil pass0 ha.p hdb he hpl, sem_callP hm0 ha.s⟩
end
end Q
end

/-! part: Q9 -/
section
set_option Elab.async false
set_option linter.all false
set_option maxRecDepth 100000
set_option maxHeartbeats 4000000
set_option autoImplicit false
namespace PySem
set_option maxHeartbeats 1000000 in
theorem meets_enumerate_new1 {v : Value} {o : Obj} {H : Heap → Prop} (B : Begins v o H) :
    Meets (Builtin.«enumerate.__new__» ⟨[.type "enumerate", v], []⟩) (fun _ R s => H s.heap ∧
      R (.ok (.ret (.ref (s.heap.push o).objs.size))) { s with heap := (s.heap.push o).push { cls := .type "enumerate", data := .fields #[.none, .bool false, .ref s.heap.objs.size, rawInt 0, .none, .none] } }) :=
  .of_wp fun prog w A R s h => by
    obtain ⟨hp, g, d, tk, os⟩ := s; obtain ⟨h1, h⟩ := h
    have hsub := sub_enumerate
    have q1 : ∀ {A' : Around} {E : Value → Shared → Prop} {Q : Value → Shared → Prop}, Q (.ref hp.objs.size) ⟨hp.push o, g, d, tk, os⟩ → wpAny (model prog w) A' (pyIter v) Q E ⟨hp, g, d, tk, os⟩ :=
      fun q => B.iter prog w _ _ ⟨hp, g, d, tk, os⟩ _ h1 q
    wp_walk using q1
    refine wpAny_stack_any fun st => wpAny_pure ?_
    split
    · rename_i c _ _ _ _ _
      cases (c == Value.type "enumerate")
      · wp_walk using q1
        exact ⟨_, rfl, h⟩
      · wp_walk using q1
        exact ⟨_, rfl, h⟩
    · wp_walk using q1
      exact ⟨_, rfl, h⟩
theorem enum_begins1 {prog : Program} {w : World} {A : Around} {E : Value → Shared → Prop} {s : Shared} {v : Value} {o : Obj} {H : Heap → Prop} {Q : Value → Shared → Prop} (B : Begins v o H) (h1 : H s.heap)
    (h : ∀ h', IsEnum h' (s.heap.objs.size + 1) s.heap.objs.size 0 .none → h'.get? s.heap.objs.size = some o → h'.objs.size = s.heap.objs.size + 2 →
      (∀ b o, s.heap.get? b = some o → h'.get? b = some o) → Q (.ref (s.heap.objs.size + 1)) { s with heap := h' }) :
    wpAny (model prog w) A (call (.type "enumerate") [v]) Q E s := by
  refine callType_new F.called_enumerate (by decide) (F.typeCall_enumerate_1 _) (F.newCall_enumerate_1 _) (fun obj => F.args_object_init_2 obj _) F.entry_enumerate_new
    (meets_enumerate_new1 B) ⟨h1, ?_⟩
  have hz : (s.heap.push o).objs.size = s.heap.objs.size + 1 := Heap.size_push ..
  show _ ∧ _
  rw [hz]
  have he : IsEnum ((s.heap.push o).push { cls := .type "enumerate", data := .fields #[.none, .bool false, .ref s.heap.objs.size, rawInt 0, .none, .none] }) (s.heap.objs.size + 1) s.heap.objs.size 0 .none := by
    have := Heap.get?_push_size (s.heap.push o) (o := { cls := .type "enumerate", data := .fields #[.none, .bool false, .ref s.heap.objs.size, rawInt 0, .none, .none] }) rfl
    rw [hz] at this; exact this
  refine ⟨⟨_, he, rfl⟩, h _ he (Heap.get?_push_of_some _ (Heap.get?_push_size _ B.free)) (by rw [Heap.size_push, hz]) fun b o x => Heap.get?_push_of_some _ (Heap.get?_push_of_some _ x)⟩
end PySem
namespace Q
open PySem PySem.Spec PySem.Calls PyProof.Rows L2
/-! ### enumerate over a tuple -/
def IteT (K : PySem.W.Frag) (a : Addr) (n : Nat) : It :=
  ⟨fun i H => i < n ∧ ∃ (xs : List V) (x : V), SqT K H a xs ∧ xs[i]? = some x, fun i H v H' => ∃ T x, v = .ref T ∧ H T = none ∧ H' = upd H T (.tup [.int (i : Nat), x]) ∧ ∀ xs, SqT K H a xs → xs[i]? = some x, fun i H => n ≤ i ∧ ∃ xs : List V, SqT K H a xs ∧ xs.length = n⟩
theorem turn_enumT {P : Program} {w : World} {K : PySem.W.Frag} {elts : List Expr} {kk : Nat} {tpos : Pos} (a e it : Addr) (n : Nat) :
    Turn P w K (.Tuple elts kk tpos) (IteT K a n) [e, it] e (fun i h => i ≤ n ∧ (∃ old, IsEnum h e it ((i : Nat) : Int) old) ∧ h.IsTupleIter it a i ∧ e ≠ it ∧ a ≠ it ∧ a ≠ e) where
  mem := by simp
  obj := fun i h st b hb => by
    obtain ⟨_, ⟨old, he⟩, ⟨o, ho, hc, hd⟩, _⟩ := st
    have e' : b = e ∨ b = it := by simpa using hb
    rcases e' with z | z
    · rw [z]; exact ⟨_, he, fun v q => nomatch q⟩
    · rw [z]; exact ⟨o, ho, fun v q => by rw [hd] at q; cases q⟩
  keep := fun i h h' st k => let ⟨hn, ⟨old, he⟩, hi, hne⟩ := st; ⟨hn, ⟨old, k e (by simp) _ he⟩, hi.at fun o q => k it (by simp) o q, hne⟩
  item := by
    intro X hP hw hK hc i pins s σ H E I hf st hg
    subst hP hw hK
    obtain ⟨_, ⟨old, he⟩, hit, hne, hai, hae⟩ := st
    obtain ⟨hin, xs, x, hq, hx⟩ := hg
    obtain ⟨its, rv, p, hz⟩ := I.tuple hq
    obtain ⟨u, hu, ru⟩ := rv.get hx
    have hel : e < s.heap.objs.size := Heap.lt_size he
    have hil : it < s.heap.objs.size := by obtain ⟨_, q, _⟩ := hit; exact Heap.lt_size q
    have Dr := Draws.tuple (prog := X.prog) (w := X.w) (A := X.A.in1) (I.ok.hd hc) it a hai its.toArray
    have hlt : i < its.toArray.size := by rw [List.size_toArray, ← rv.length]; exact (List.getElem?_eq_some_iff.mp hx).1
    refine wpAny_pyNext_enum_itemD Dr he ⟨hit, p⟩ hlt hne (by simp [hne, Ne.symm hae]) fun u' h' tk hP' ho hit' hT hsz hk => ?_
    have eu : u' = u := by
      have h1 : its.toArray[i]? = some u := by simpa using hu
      rw [h1] at hP'
      exact (Option.some.inj hP').symm
    subst eu
    refine ⟨_, rfl, wpAny_letOwnedTupleGo_enum (s := { s with heap := h', toks := tk + 1 }) ho fun h'' he' sb => ?_⟩
    have hT2 : h''.get? s.heap.objs.size = some { cls := .type "tuple", data := .seq #[.int i tk, u'] } := (sb.2 _ (Nat.ne_of_gt hel)).trans hT
    have new : ObjOk X.prog X.w (upd H s.heap.objs.size (.tup [.int (i : Nat), x])) h'' s.heap.objs.size (.tup [.int (i : Nat), x]) :=
      ⟨by show 2 ≤ sizeLine; decide, [.int i tk, u'], .cons ⟨_, rfl⟩ (.cons ru .nil), ⟨_, hT2, rfl, _, rfl⟩⟩
    have I1 : Inv X pins σ (upd H s.heap.objs.size (.tup [.int (i : Nat), x])) { s with heap := h'', toks := tk + 1 } :=
      I.turnedNew (ch := [e, it]) (fun b ob hb q => (sb.2 b (fun z => hb (by simp [z]))).trans (hk b ob (fun z => hb (by simp [z])) (fun z => hb (by simp [z])) q)) hf (Nat.le_refl _) new
    refine ⟨.ref s.heap.objs.size, _, I1, rfl, ⟨_, x, rfl, I.hok.fresh (Nat.le_refl _), rfl, fun ys hy => by rw [I.tuple_inj hy hq]; exact hx⟩, ⟨hin, ⟨u', ?_⟩, hit'.1.at fun o q => (sb.2 it (Ne.symm hne)).trans q, hne, hai, hae⟩, fun b hb => ?_⟩
    · have e1 : ((i + 1 : Nat) : Int) = (i : Int) + 1 := by omega
      rw [e1]; exact he'
    · have hb' : b < s.heap.objs.size := by
        have e' : b = e ∨ b = it := by simpa using hb
        rcases e' with z | z
        · rw [z]; exact hel
        · rw [z]; exact hil
      rw [upd_ne (Nat.ne_of_lt hb')]
      exact (hf b hb).1
  done := by
    intro X hP hw hK hc i pins s σ H E I hf st hg
    subst hP hw hK
    obtain ⟨hin, ⟨old, he⟩, hit, hne, hai, hae⟩ := st
    obtain ⟨hge, xs, hq, hx⟩ := hg
    obtain ⟨its, rv, p, hz⟩ := I.tuple hq
    obtain ⟨f0, f1, f2, f3, f4, f5⟩ := hf it (by simp)
    have Dr := Draws.tuple (prog := X.prog) (w := X.w) (A := X.A.in1) (I.ok.hd hc) it a hai its.toArray
    have ei : i = its.toArray.size := by rw [List.size_toArray, ← rv.length]; omega
    subst ei
    exact wpAny_pyNext_enum_endD Dr he ⟨hit, p⟩ fun h' eb => ⟨rfl, I.turned (t' := s.toks) (fun b o hb q => eb b o hb q) f0 f1 f3 f4 f5⟩
  self := fun A i s Q E st h => let ⟨_, ⟨_, he⟩, _⟩ := st; wpAny_pyIter_enum he h
/-- enumerate(x), x a list or a tuple -/
def iEnumA (K : PySem.W.Frag) (te : TE) : TI := fun σ H R => te σ H fun v H1 => ∃ a xs, v = .ref a ∧ ((SqL K H1 a xs ∧ R (Ite K a) H1) ∨ (SqT K H1 a xs ∧ R (IteT K a xs.length) H1))
theorem pi_enumA {X : Cx} {e : Expr} {te : TE} {p pos tpos : Pos} {elts : List Expr} {kk : Nat} (hg : Gl X "enumerate") (hm : X.mg "enumerate" = none) (he : PE X e te) (hs : starEach [e] X.env = (false, eval e X.env) :: starEach [] X.env := by rfl) :
    PI X (.Tuple elts kk tpos) (.Call (.Name "enumerate" p) [e] [] pos) (iEnumA X.K te) := by
  refine ⟨fun pins s σ H R I h => ?_⟩
  refine Call_ (ld_blt I hg hm boot_enumerate (PyProof.Rows.callWith_type1 (args_cons (thn (he.run pins s σ H _ I h) fun u s1 ⟨v, H1, I1, r1, q1⟩ => args_nil ?_) hs) hs rfl))
  obtain ⟨a, xs, ev, q⟩ := q1
  subst ev
  obtain rfl : u = Value.ref a := r1
  have fresh2 : ∀ b, b ∈ [s1.heap.objs.size + 1, s1.heap.objs.size] → FpOk X pins H1 b := fun b hb => by
    have e' : b = s1.heap.objs.size + 1 ∨ b = s1.heap.objs.size := by simpa using hb
    have hle : s1.heap.objs.size ≤ b := by
      rcases e' with z | z
      · rw [z]; exact Nat.le_add_right _ _
      · rw [z]; exact Nat.le_refl _
    exact I1.fpOk hle (I1.hok.fresh hle)
  rcases q with ⟨hq, q⟩ | ⟨hq, q⟩
  · obtain ⟨its, rv, p', hz⟩ := I1.list hq
    refine call_enumerate_list p'.isList fun h' he hit hsz hk => wpAny_pyIter_enum he ?_
    have I2 : Inv X pins σ H1 { s1 with heap := h' } := I1.kept (t' := s1.toks) hk
    exact ⟨s1.heap.objs.size + 1, [s1.heap.objs.size + 1, s1.heap.objs.size], _, _, H1, rfl, I2, turn_enum a (s1.heap.objs.size + 1) s1.heap.objs.size, ⟨⟨.none, he⟩, hit, Nat.succ_ne_self _⟩, fresh2, q⟩
  · obtain ⟨its, rv, p', hz⟩ := I1.tuple hq
    have hal : a < s1.heap.objs.size := by obtain ⟨o, e, _⟩ := p'; exact Heap.lt_size e
    refine enum_begins1 (begins_tuple a its.toArray) p' fun h' he hit hsz hk => wpAny_pyIter_enum he ?_
    have I2 : Inv X pins σ H1 { s1 with heap := h' } := I1.kept (t' := s1.toks) hk
    exact ⟨s1.heap.objs.size + 1, [s1.heap.objs.size + 1, s1.heap.objs.size], _, _, H1, rfl, I2, turn_enumT a (s1.heap.objs.size + 1) s1.heap.objs.size xs.length, ⟨Nat.zero_le _, ⟨.none, he⟩, ⟨_, hit, rfl, rfl⟩, Nat.succ_ne_self _, Nat.ne_of_lt hal, Nat.ne_of_lt (Nat.lt_succ_of_lt hal)⟩, fresh2, q⟩
def numL : Nat → List D → List D
  | _, [] => []
  | i, d :: ds => .tuple [.int (i : Nat), d] :: numL (i + 1) ds
theorem numL_at : ∀ {ds : List D} {k i : Nat} {d : D}, (numL k ds)[i]? = some d → ∃ x, ds[i]? = some x ∧ d = .tuple [.int ((k + i : Nat) : Int), x]
  | [], _, _, _, h => by simp [numL] at h
  | x :: ds, k, 0, d, h => by simp [numL] at h; subst h; exact ⟨x, rfl, rfl⟩
  | x :: ds, k, i + 1, d, h => by
    have h' : (numL (k + 1) ds)[i]? = some d := by simpa [numL] using h
    obtain ⟨y, h1, h2⟩ := numL_at h'
    refine ⟨y, by simpa using h1, ?_⟩
    rw [h2, show k + 1 + i = k + (i + 1) by omega]
theorem numL_length : ∀ (ds : List D) (k : Nat), (numL k ds).length = ds.length
  | [], _ => rfl
  | x :: ds, k => by simp [numL, numL_length ds]
theorem ite_ok {K : PySem.W.Frag} {F : Hp} {a : Addr} {xs : List V} {ds : List D} {st : Hp → Prop} (hs : ∀ H, Same F H → st H → SqL K H a xs) (r : RepA K F xs ds) : ItO true K (Ite K a) F st (numL 0 ds) :=
  ⟨fun i F' H' hi s1 s2 s3 => by
    obtain ⟨x, h1, _⟩ := numL_at (List.getElem?_eq_getElem hi)
    obtain ⟨y, h3, _⟩ := r.get h1
    exact ⟨xs, y, hs H' (s1.trans s2) s3, h3⟩, fun i d F' H' v H3 hd s1 s2 s3 yy => by
    obtain ⟨T, x, rfl, hT, rfl, y1⟩ := yy
    obtain ⟨dx, h1, rfl⟩ := numL_at hd
    obtain ⟨x', h3, h5⟩ := r.get h1
    have e1 := y1 xs (hs H' (s1.trans s2) s3)
    rw [h3] at e1
    cases e1
    rw [Nat.zero_add]
    exact pair_ok s2 hT (Rep.int _) (h5.mono s1), fun i F' H' hi s1 s2 s3 => by
    rw [numL_length] at hi
    exact ⟨xs, hs H' (s1.trans s2) s3, by rw [r.length]; exact hi⟩⟩
theorem iteT_ok {K : PySem.W.Frag} {F : Hp} {a : Addr} {xs : List V} {ds : List D} {st : Hp → Prop} (hs : ∀ H, Same F H → st H → SqT K H a xs) (r : RepA K F xs ds) : ItO true K (IteT K a xs.length) F st (numL 0 ds) :=
  ⟨fun i F' H' hi s1 s2 s3 => by
    obtain ⟨x, h1, _⟩ := numL_at (List.getElem?_eq_getElem hi)
    obtain ⟨y, h3, _⟩ := r.get h1
    rw [numL_length, ← r.length] at hi
    exact ⟨hi, xs, y, hs H' (s1.trans s2) s3, h3⟩, fun i d F' H' v H3 hd s1 s2 s3 yy => by
    obtain ⟨T, x, rfl, hT, rfl, y1⟩ := yy
    obtain ⟨dx, h1, rfl⟩ := numL_at hd
    obtain ⟨x', h3, h5⟩ := r.get h1
    have e1 := y1 xs (hs H' (s1.trans s2) s3)
    rw [h3] at e1
    cases e1
    rw [Nat.zero_add]
    exact pair_ok s2 hT (Rep.int _) (h5.mono s1), fun i F' H' hi s1 s2 s3 => by
    rw [numL_length] at hi
    exact ⟨by rw [r.length]; exact hi, xs, hs H' (s1.trans s2) s3, rfl⟩⟩
def enumD (d : D) : Option (List D) := (itemsD d).map (numL 0)
def fEnum (f : Rho → Option D) : Rho → Option (List D) := fun ρ => (f ρ).bind enumD
section
variable {X : Cx} {m : Md} {e : Expr} {te : TE} {f : Rho → Option D} {p pos tpos : Pos} {elts : List Expr} {kk : Nat}
theorem sem_enum {K : PySem.W.Frag} (h : SemE K .fz te f) : SemI true K .fz (iEnumA K te) (fEnum f) := by
  intro B F H σ ρ ds R rel hf q
  obtain ⟨d, h1, h2⟩ := bind_some hf
  obtain ⟨es, h3, rfl⟩ := Option.map_eq_some_iff.mp h2
  refine h B F H σ ρ d _ rel h1 fun v F1 H1 x1 r1 => ?_
  cases d with
  | list es =>
    cases h3
    cases r1 with
    | lst hs hr => exact ⟨_, _, rfl, .inl ⟨x1.s.seq hs, q _ F1 H1 x1 (ite_ok (fun H s _ => s.seq hs) hr)⟩⟩
  | tuple es =>
    cases h3
    cases r1 with
    | tup hs hr => exact ⟨_, _, rfl, .inr ⟨(hs.mono x1.s).sq, q _ F1 H1 x1 (iteT_ok (fun H s _ => (hs.mono s).sq) hr)⟩⟩
  | _ => cases h3
theorem sem_enumP {K : PySem.W.Frag} (h : SemE K m te f) : SemI true K .pk (iEnumA K te) (fEnum f) := by
  intro B F H σ ρ ds R rel hf q
  obtain ⟨d, h1, h2⟩ := bind_some hf
  obtain ⟨es, h3, rfl⟩ := Option.map_eq_some_iff.mp h2
  refine h B F H σ ρ d _ rel h1 fun v F1 H1 x1 r1 => ?_
  cases d with
  | list es =>
    cases h3
    obtain ⟨a, xs, rfl, hs, hr⟩ := r1.list x1.s
    exact ⟨_, _, rfl, .inl ⟨hs, q _ F1 H1 x1 (ite_ok (fun H _ s => s.seq hs) hr)⟩⟩
  | tuple es =>
    cases h3
    obtain ⟨a, xs, rfl, hs, hr⟩ := r1.tup x1.s
    exact ⟨_, _, rfl, .inr ⟨hs.sq, q _ F1 H1 x1 (iteT_ok (fun H _ s => (hs.mono s).sq) hr)⟩⟩
  | _ => cases h3
theorem di_enum (hg : Gl X "enumerate") (hm : X.mg "enumerate" = none) (he : DE X .fz e te f) (hs : starEach [e] X.env = (false, eval e X.env) :: starEach [] X.env := by rfl) :
    DI true X .fz (.Tuple elts kk tpos) (.Call (.Name "enumerate" p) [e] [] pos) (iEnumA X.K te) (fEnum f) := ⟨pi_enumA hg hm he.p hs, sem_enum he.s⟩
theorem di_enumK (K' : PySem.W.Frag) (hg : Gl X "enumerate") (hm : X.mg "enumerate" = none) (he : DE X .fz e te f) (hs : starEach [e] X.env = (false, eval e X.env) :: starEach [] X.env := by rfl) (hK : X.K = K' := by rfl) : DI true X .fz (.Tuple elts kk tpos) (.Call (.Name "enumerate" p) [e] [] pos) (iEnumA K' te) (fEnum f) := by
  subst hK
  exact di_enum (hg := hg) (hm := hm) (he := he) (hs := hs)
theorem di_enumP (hg : Gl X "enumerate") (hm : X.mg "enumerate" = none) (he : DE X m e te f) (hs : starEach [e] X.env = (false, eval e X.env) :: starEach [] X.env := by rfl) :
    DI true X .pk (.Tuple elts kk tpos) (.Call (.Name "enumerate" p) [e] [] pos) (iEnumA X.K te) (fEnum f) := ⟨pi_enumA hg hm he.p hs, sem_enumP he.s⟩
theorem di_enumPK (K' : PySem.W.Frag) (hg : Gl X "enumerate") (hm : X.mg "enumerate" = none) (he : DE X m e te f) (hs : starEach [e] X.env = (false, eval e X.env) :: starEach [] X.env := by rfl) (hK : X.K = K' := by rfl) : DI true X .pk (.Tuple elts kk tpos) (.Call (.Name "enumerate" p) [e] [] pos) (iEnumA K' te) (fEnum f) := by
  subst hK
  exact di_enumP (hg := hg) (hm := hm) (he := he) (hs := hs)
end
end Q
end

/-! part: Q10 -/
section
set_option Elab.async false
set_option linter.all false
set_option maxRecDepth 100000
set_option maxHeartbeats 4000000
set_option autoImplicit false
namespace Q
open PySem PySem.Spec PySem.Calls PyProof.Rows L2
theorem DE.pk {X : Cx} {m : Md} {e : Expr} {t : TE} {f : Rho → Option D} (h : DE X m e t f) : DE X .pk e t f := ⟨h.p, fun B F H σ ρ d Q r hf q => h.s B F H σ ρ d Q r hf fun v F' H' x rs => q v F' H' x rs.any⟩
/-! ### slices -/
def SemO (K : PySem.W.Frag) (t : TO) (f : Rho → Option (Option Int)) : Prop :=
  ∀ (B : Bs) (F H : Hp) (σ : L2.St) (ρ : Rho) (o : Option Int) (Q : Option Int → Hp → Prop), Rel K B F H σ ρ → f ρ = some o → (∀ F' H', Ext F H F' H' → Q o H') → t σ H Q
structure DO (X : Cx) (e : Option Expr) (t : TO) (f : Rho → Option (Option Int)) : Prop where
  p : PO X e t
  s : SemO X.K t f
def oNo : Rho → Option (Option Int) := fun _ => some none
def oIs (f : Rho → Option D) : Rho → Option (Option Int) := fun ρ => (f ρ).bind fun d => match d with
  | .int i => some (some i)
  | _ => none
section
variable {X : Cx} {m m1 : Md} {e : Expr} {te : TE} {f : Rho → Option D} {p p2 pos : Pos} {lo hi : Option Expr} {tl th : TO} {fl fh : Rho → Option (Option Int)}
theorem do_no : DO X none tNoPart oNo := ⟨po_none, fun B F H σ ρ o Q r hf q => by cases hf; exact q F H (.refl r.fh)⟩
theorem do_is (h : DE X m e te f) : DO X (some e) (tPart te) (oIs f) := ⟨po_some h.p, fun B F H σ ρ o Q r hf q => by
  obtain ⟨d, h1, h2⟩ := bind_some hf
  refine h.s B F H σ ρ d _ r h1 fun v F1 H1 x1 r1 => ?_
  cases d with
  | int i => cases h2; exact ⟨i, r1.int, q F1 H1 x1⟩
  | _ => cases h2⟩
def cutL (ds : List D) (lo hi : Option Int) : List D := (ds.drop (HT.sIx ds.length 0 lo)).take (HT.sIx ds.length ds.length hi - HT.sIx ds.length 0 lo)
theorem repA_cut {K : PySem.W.Frag} {F : Hp} {xs : List V} {ds : List D} (r : RepA K F xs ds) (lo hi : Option Int) : RepA K F (cutV xs lo hi) (cutL ds lo hi) := by
  unfold cutV cutL
  rw [r.length]
  exact (r.drop _).take _
/-- t[lo:hi]: the whole of it is t itself -/
def rSlF (K : PySem.W.Frag) : V → Option Int → Option Int → Hp → VK → Prop := fun x lo hi H Q => ∃ a xs, x = .ref a ∧ SqT K H a xs ∧
  (HT.sIx xs.length 0 lo = 0 ∧ HT.sIx xs.length xs.length hi = xs.length → Q (.ref a) H) ∧ (¬ (HT.sIx xs.length 0 lo = 0 ∧ HT.sIx xs.length xs.length hi = xs.length) → NewT (cutV xs lo hi) H Q)
theorem sl_tupF : SlR X (rSlF X.K) := by
  intro pins s σ H x v vl vu lo hi sl Q I rx hs pl pu h
  obtain ⟨a, xs, rfl, hx, q1, q2⟩ := h
  cases rx
  obtain ⟨its, r, ht, hz⟩ := I.tuple hx
  have hlen : its.toArray.size = xs.length := by rw [List.size_toArray]; exact r.length.symm
  refine ⟨"tuple", _, PyProof.Rows.slot_tuple_getitem.lookup, ht.typeIs, ?_⟩
  by_cases hw : HT.sIx xs.length 0 lo = 0 ∧ HT.sIx xs.length xs.length hi = xs.length
  · exact getItem_tuple_whole ht hs pl pu (by rw [hlen]; exact hw) ⟨.ref a, H, I, rfl, q1 hw⟩
  · refine HT.getItem_tuple_cut ht hs pl pu (by rw [hlen]; exact hw) ?_ (by rw [hlen]; exact hz)
    rw [hlen]
    exact ⟨.ref s.heap.objs.size, _, I.laidT (t' := s.toks) ((r.drop (HT.sIx xs.length 0 lo)).take (HT.sIx xs.length xs.length hi - HT.sIx xs.length 0 lo)) (Nat.le_trans (cutV_length xs lo hi) hz), rfl, q2 hw _ _ (I.hok.fresh (Nat.le_refl _)) rfl rfl⟩
def rSlC (K : PySem.W.Frag) : V → Option Int → Option Int → Hp → VK → Prop := fun x lo hi H Q => rSlF K x lo hi H Q ∨ (rSlL K x lo hi H Q ∨ rSlS x lo hi H Q)
theorem sl_all : SlR X (rSlC X.K) := sl_tupF.or (sl_list.or sl_str)
def cutD (d : D) (lo hi : Option Int) : Option D := match d with
  | .tuple ds => some (.tuple (cutL ds lo hi))
  | .list ds => some (.list (cutL ds lo hi))
  | .str z => if z.length ≤ sizeLine then some (.str (cutS z lo hi)) else none
  | _ => none
def fSl (f : Rho → Option D) (fl fh : Rho → Option (Option Int)) : Rho → Option D := fun ρ => (f ρ).bind fun d => (fl ρ).bind fun l => (fh ρ).bind fun h => cutD d l h
theorem cut_whole {ds : List D} {lo hi : Option Int} (h : HT.sIx ds.length 0 lo = 0 ∧ HT.sIx ds.length ds.length hi = ds.length) : cutL ds lo hi = ds := by
  unfold cutL
  rw [h.1, h.2]
  simp
theorem de_sl (he : DE X m e te f) (hl : DO X lo tl fl) (hh : DO X hi th fh) : DE X .fz (.Subscript e (.Slice lo hi none p2) pos) (tSl (rSlC X.K) te tl th) (fSl f fl fh) := ⟨pe_slice sl_all he.p hl.p hh.p, fun B F H σ ρ z Q r hf q => by
  obtain ⟨d, h1, h2⟩ := bind_some hf
  obtain ⟨l, h3, h4⟩ := bind_some h2
  obtain ⟨h, h5, h6⟩ := bind_some h4
  refine he.s B F H σ ρ d _ r h1 fun v F1 H1 x1 r1 => ?_
  refine hl.s B F1 H1 σ ρ l _ (r.ext x1) h3 fun F2 H2 x2 => ?_
  refine hh.s B F2 H2 σ ρ h _ ((r.ext x1).ext x2) h5 fun F3 H3 x3 => ?_
  have r3 := (r1.mono x2).mono x3
  have x13 := (x1.trans x2).trans x3
  cases d with
  | tuple ds =>
    cases h6
    have rt := Res.rep r3 (fun _ z => nomatch z) (fun _ z => nomatch z)
    obtain ⟨a, xs, rfl, s1, p1⟩ := r3.tup x3.s
    refine .inl ⟨a, xs, rfl, s1.sq, fun hw => ?_, fun _ => newT_rep x13 (repA_cut p1 l h) q⟩
    rw [p1.length] at hw
    rw [cut_whole hw] at q
    exact q _ F3 H3 x13 rt
  | list ds =>
    cases h6
    obtain ⟨a, xs, rfl, s1, p1⟩ := r3.list x3.s
    refine .inr (.inl ⟨a, xs, rfl, s1, ?_⟩)
    refine newL_res x13 (repA_cut p1 l h) fun v F' H' x' r' => ?_
    obtain ⟨F5, x5, r5⟩ := fr_fz x' r'
    exact q v F5 H' x5 r5
  | str z =>
    obtain ⟨hz, rfl⟩ := if_some h6
    exact .inr (.inr ⟨z, r3.str, hz, q _ F3 H3 x13 (Rep.str _)⟩)
  | _ => cases h6⟩
theorem de_slK (K' : PySem.W.Frag) (he : DE X m e te f) (hl : DO X lo tl fl) (hh : DO X hi th fh) (hK : X.K = K' := by rfl) : DE X .fz (.Subscript e (.Slice lo hi none p2) pos) (tSl (rSlC K') te tl th) (fSl f fl fh) := by
  subst hK
  exact de_sl (he := he) (hl := hl) (hh := hh)
/-! ### list(range(..)) -/
theorem repA_rg {K : PySem.W.Frag} {F : Hp} (a b : Int) : RepA K F (rgV a b) (rgD a (b - a).toNat) := by
  unfold rgV rgD
  have e1 : (List.range (b - a).toNat).map (fun i => V.int (a + (i : Nat))) = ((List.range (b - a).toNat).map fun i => (a + (i : Nat))).map V.int := by rw [List.map_map]; rfl
  have e2 : (List.range (b - a).toNat).map (fun i => (.int (a + (i : Nat)) : D)) = ((List.range (b - a).toNat).map fun i => (a + (i : Nat))).map .int := by rw [List.map_map]; rfl
  rw [e1, e2]
  exact RepA.of_ints _
def fLr1 (f : Rho → Option D) : Rho → Option D := fun ρ => (f ρ).bind fun d => match d with
  | .int n => if -(2 ^ 62) ≤ n ∧ n ≤ 16777216 then some (.list (rgD 0 n.toNat)) else none
  | _ => none
theorem de_lr1 {q : Pos} (hg : Gl X "list") (hm : X.mg "list" = none) (hg2 : Gl X "range") (hm2 : X.mg "range" = none) (he : DE X m e te f) (hc : X.calm = true := by rfl) (na : starEach [.Call (.Name "range" p2) [e] [] q] X.env = (false, eval (.Call (.Name "range" p2) [e] [] q) X.env) :: starEach [] X.env := by rfl)
    (na2 : starEach [e] X.env = (false, eval e X.env) :: starEach [] X.env := by rfl) : DE X .fr (.Call (.Name "list" p) [.Call (.Name "range" p2) [e] [] q] [] pos) (tLstRg (tRg1 te)) (fLr1 f) := ⟨pe_listRg hc hg hm (prg_1 hg2 hm2 he.p na2) na, fun B F H σ ρ z Q r hf q => by
  obtain ⟨d, h1, h2⟩ := bind_some hf
  refine he.s B F H σ ρ d _ r h1 fun v F1 H1 x1 r1 => ?_
  cases d with
  | int n =>
    obtain ⟨hn, rfl⟩ := if_some h2
    refine ⟨n, r1.int, ⟨by omega, by omega, by omega, by omega, by omega⟩, ?_⟩
    have ra : RepA X.K F1 (rgV 0 n) (rgD 0 n.toNat) := by have := repA_rg (K := X.K) (F := F1) 0 n; rwa [Int.sub_zero] at this
    exact newL_res x1 ra q
  | _ => cases h2⟩
/-! ### isinstance -/
def tyName : D → String
  | .none => "NoneType"
  | .bool _ => "bool"
  | .int _ => "int"
  | .str _ => "str"
  | .list _ => "list"
  | .tuple _ => "tuple"
  | .dict _ => "dict"
def isiN (a b : String) : Bool := a == b || (a == "bool" && b == "int")
def tyB (b : String) : Bool := ["int", "bool", "str", "list", "tuple", "dict"].contains b
theorem kit_all : (["NoneType", "bool", "int", "str", "list", "tuple"].all fun a => ["int", "bool", "str", "list", "tuple", "dict"].all fun b => decide (kitB a b = some (isiN a b))) = true := by decide +kernel
theorem kit_of2 {K : PySem.W.Frag} {d : D} {b : String} (hd : tyName d ≠ "dict") (hb : tyB b = true) : PySem.W.kitOne K (.type (tyName d)) (.type b) = some (isiN (tyName d) b) := by
  refine kit_ty ?_
  have h := List.all_eq_true.mp kit_all (tyName d) (by cases d <;> first | (simp [tyName]; done) | exact absurd rfl hd)
  exact of_decide_eq_true (List.all_eq_true.mp h b (by simpa [tyB, List.contains_iff_mem] using hb))
theorem tyX_of {K : PySem.W.Frag} {m : Md} {H0 F H : Hp} {x : V} {d : D} (r : Res K m H0 F H x d) (fh : Same F H) (hd : tyName d ≠ "dict") : TyX K H x (.type (tyName d)) := by
  rcases r.any with r | ⟨a, rfl, _, o⟩
  · cases r with
    | non => exact .base .non
    | bl b => exact .base (.bl b)
    | int i => exact .base (.int i)
    | str x => exact .base (.str x)
    | lst h _ =>
      rcases h with (h | ⟨o, h⟩) | ⟨o, its, n, h1, h2, _⟩
      · exact .base (.lst (fh _ _ h))
      · exact .base (.frz (fh _ _ h))
      · exact .kList h1 h2
    | tup h _ =>
      rcases h with ⟨o, h, _⟩ | ⟨o, its, n, h1, h2, _⟩
      · exact .fTuple (fh _ _ h)
      · exact .kTuple h1 h2
    | dct _ _ => exact absurd rfl hd
  · cases d with
    | list ds => obtain ⟨vs, e, _⟩ := o; exact .base (.lst e)
    | dict es => exact absurd rfl hd
    | _ => exact o.elim
/-- isinstance(x, T) -/
def fIsi (b : String) (f : Rho → Option D) : Rho → Option D := fun ρ => (f ρ).bind fun d => match d with
  | .dict _ => none
  | d => some (.bool (isiN (tyName d) b))
theorem isi_some {b : String} {d z : D} (h : (match d with
  | .dict _ => none
  | d => some (.bool (isiN (tyName d) b))) = some z) : tyName d ≠ "dict" ∧ z = .bool (isiN (tyName d) b) := by
  cases d <;> first | (cases h; done) | (cases h; exact ⟨by simp [tyName], rfl⟩)
theorem ld_ty {b : String} {x : Str} {pos : Pos} (hg : Gl X x) (hm : X.mg x = none) (hv : bootBuiltins x = some (.type b)) (hn : x ≠ "__name__") (hdb : (x == ("__debug__" : Str)) = false) : PE X (.Name x pos) (tC (.ty b)) := pe_bltn hg hm hv (show RelV (.ty b) (.type b) from rfl) hn hdb
theorem de_isi {x y : Str} {b : String} {p3 : Pos} (hx : x = "isinstance") (hgi : Gl X x) (hmi : X.mg x = none) (hv0 : bootBuiltins x = some (.builtin "isinstance")) (hg : Gl X y) (hm : X.mg y = none) (hv : bootBuiltins y = some (.type b)) (he : DE X m e te f) (hb : tyB b = true := by decide) (hn0 : x ≠ "__name__" := by decide) (hdb0 : (x == ("__debug__" : Str)) = false := by decide) (hn : y ≠ "__name__" := by decide) (hdb : (y == ("__debug__" : Str)) = false := by decide)
    (s1 : starEach [e, .Name y p3] X.env = (false, eval e X.env) :: starEach [.Name y p3] X.env := by rfl) (s2 : starEach [.Name y p3] X.env = (false, eval (.Name y p3) X.env) :: starEach [] X.env := by rfl) (hpl : (backTo pos (starEach [.Name y p3] X.env)).any (·.1) = false := by rfl) :
    DE X .fz (.Call (.Name x p) [e, .Name y p3] [] pos) (tCB (rIsi X.K) (tCons te (tCons (tC (.ty b)) tNil))) (fIsi b f) :=
  ⟨pe_callB call_isi hgi hmi hv0 (pa_cons he.p (pa_cons (ld_ty hg hm hv hn hdb) pa_nil s2) s1) hn0 hdb0 s1 hpl, fun B F H σ ρ z Q r hf q => by
    obtain ⟨d, h1, h2⟩ := bind_some hf
    obtain ⟨hd, rfl⟩ := isi_some h2
    refine he.s B F H σ ρ d _ r h1 fun v F1 H1 x1 r1 => ?_
    exact ⟨v, .ty b, _, _, _, rfl, .ty b, tyX_of r1 x1.s hd, kit_of2 hd hb, q _ F1 H1 x1 (Rep.bl _)⟩⟩
theorem de_isiK (K' : PySem.W.Frag) {x y : Str} {b : String} {p3 : Pos} (hx : x = "isinstance") (hgi : Gl X x) (hmi : X.mg x = none) (hv0 : bootBuiltins x = some (.builtin "isinstance")) (hg : Gl X y) (hm : X.mg y = none) (hv : bootBuiltins y = some (.type b)) (he : DE X m e te f) (hb : tyB b = true := by decide) (hn0 : x ≠ "__name__" := by decide) (hdb0 : (x == ("__debug__" : Str)) = false := by decide) (hn : y ≠ "__name__" := by decide) (hdb : (y == ("__debug__" : Str)) = false := by decide) (s1 : starEach [e, .Name y p3] X.env = (false, eval e X.env) :: starEach [.Name y p3] X.env := by rfl) (s2 : starEach [.Name y p3] X.env = (false, eval (.Name y p3) X.env) :: starEach [] X.env := by rfl) (hpl : (backTo pos (starEach [.Name y p3] X.env)).any (·.1) = false := by rfl) (hK : X.K = K' := by rfl) : DE X .fz (.Call (.Name x p) [e, .Name y p3] [] pos) (tCB (rIsi K') (tCons te (tCons (tC (.ty b)) tNil))) (fIsi b f) := by
  subst hK
  exact de_isi (hx := hx) (hgi := hgi) (hmi := hmi) (hv0 := hv0) (hg := hg) (hm := hm) (hv := hv) (he := he) (hb := hb) (hn0 := hn0) (hdb0 := hdb0) (hn := hn) (hdb := hdb) (s1 := s1) (s2 := s2) (hpl := hpl)
/-- isinstance(x, (T, U)) -/
def fIsi2 (b c : String) (f : Rho → Option D) : Rho → Option D := fun ρ => (f ρ).bind fun d => match d with
  | .dict _ => none
  | d => some (.bool (isiN (tyName d) b || isiN (tyName d) c))
theorem de_isi2 {x y z : Str} {b c : String} {p3 p4 p5 : Pos} {k : Nat} (hx : x = "isinstance") (hgi : Gl X x) (hmi : X.mg x = none) (hv0 : bootBuiltins x = some (.builtin "isinstance")) (hg : Gl X y) (hm : X.mg y = none) (hv : bootBuiltins y = some (.type b)) (hg' : Gl X z) (hm' : X.mg z = none) (hv' : bootBuiltins z = some (.type c)) (he : DE X m e te f) (hb : tyB b = true := by decide) (hc : tyB c = true := by decide)
    (hn0 : x ≠ "__name__" := by decide) (hdb0 : (x == ("__debug__" : Str)) = false := by decide) (hn : y ≠ "__name__" := by decide) (hdb : (y == ("__debug__" : Str)) = false := by decide) (hn' : z ≠ "__name__" := by decide) (hdb' : (z == ("__debug__" : Str)) = false := by decide)
    (s1 : starEach [e, .Tuple [.Name y p3, .Name z p4] k p5] X.env = (false, eval e X.env) :: starEach [.Tuple [.Name y p3, .Name z p4] k p5] X.env := by rfl) (s2 : starEach [.Tuple [.Name y p3, .Name z p4] k p5] X.env = (false, eval (.Tuple [.Name y p3, .Name z p4] k p5) X.env) :: starEach [] X.env := by rfl) (hpl : (backTo pos (starEach [.Tuple [.Name y p3, .Name z p4] k p5] X.env)).any (·.1) = false := by rfl)
    (s3 : starEach [.Name y p3, .Name z p4] X.env = (false, eval (.Name y p3) X.env) :: starEach [.Name z p4] X.env := by rfl) (s4 : starEach [.Name z p4] X.env = (false, eval (.Name z p4) X.env) :: starEach [] X.env := by rfl) :
    DE X .fz (.Call (.Name x p) [e, .Tuple [.Name y p3, .Name z p4] k p5] [] pos) (tCB (rIsiT X.K) (tCons te (tCons (tTup (tCons (tC (.ty b)) (tCons (tC (.ty c)) tNil))) tNil))) (fIsi2 b c f) :=
  ⟨pe_callB call_isiT hgi hmi hv0 (pa_cons he.p (pa_cons (pe_tup (pa_cons (ld_ty hg hm hv hn hdb) (pa_cons (ld_ty hg' hm' hv' hn' hdb') pa_nil s4) s3)) pa_nil s2) s1) hn0 hdb0 s1 hpl, fun B F H σ ρ zz Q r hf q => by
    obtain ⟨d, h1, h2⟩ := bind_some hf
    have hd : tyName d ≠ "dict" ∧ zz = .bool (isiN (tyName d) b || isiN (tyName d) c) := by
      cases d <;> first | (cases h2; done) | (cases h2; exact ⟨by simp [tyName], rfl⟩)
    obtain ⟨hd, rfl⟩ := hd
    refine he.s B F H σ ρ d _ r h1 fun v F1 H1 x1 r1 => ⟨by show 2 ≤ sizeLine; decide, fun tp htp => ?_⟩
    have x2 := ext_own (o := .tup [.ty b, .ty c]) x1 htp
    have ty : TyX X.K (upd H1 tp (.tup [.ty b, .ty c])) v (.type (tyName d)) := tyX_of (r1.mono (ext_own (o := .tup [.ty b, .ty c]) (.refl x1.s) htp)) x2.s hd
    refine ⟨v, tp, _, _, [.type b, .type c], isiN (tyName d) b || isiN (tyName d) c, rfl, upd_same, .cons (.ty b) (.cons (.ty c) .nil), ty, ?_, q _ F1 _ x2 (Rep.bl _)⟩
    refine kitAny_cons (kit_of2 hd hb) (fun e1 => ?_) (fun e1 => by rw [e1]; rfl)
    rw [e1, Bool.false_or]
    refine kitAny_cons (kit_of2 hd hc) (fun e2 => ?_) (fun e2 => e2)
    rw [e2]
    rfl⟩
theorem de_isi2K (K' : PySem.W.Frag) {x y z : Str} {b c : String} {p3 p4 p5 : Pos} {k : Nat} (hx : x = "isinstance") (hgi : Gl X x) (hmi : X.mg x = none) (hv0 : bootBuiltins x = some (.builtin "isinstance")) (hg : Gl X y) (hm : X.mg y = none) (hv : bootBuiltins y = some (.type b)) (hg' : Gl X z) (hm' : X.mg z = none) (hv' : bootBuiltins z = some (.type c)) (he : DE X m e te f) (hb : tyB b = true := by decide) (hc : tyB c = true := by decide) (hn0 : x ≠ "__name__" := by decide) (hdb0 : (x == ("__debug__" : Str)) = false := by decide) (hn : y ≠ "__name__" := by decide) (hdb : (y == ("__debug__" : Str)) = false := by decide) (hn' : z ≠ "__name__" := by decide) (hdb' : (z == ("__debug__" : Str)) = false := by decide) (s1 : starEach [e, .Tuple [.Name y p3, .Name z p4] k p5] X.env = (false, eval e X.env) :: starEach [.Tuple [.Name y p3, .Name z p4] k p5] X.env := by rfl) (s2 : starEach [.Tuple [.Name y p3, .Name z p4] k p5] X.env = (false, eval (.Tuple [.Name y p3, .Name z p4] k p5) X.env) :: starEach [] X.env := by rfl) (hpl : (backTo pos (starEach [.Tuple [.Name y p3, .Name z p4] k p5] X.env)).any (·.1) = false := by rfl) (s3 : starEach [.Name y p3, .Name z p4] X.env = (false, eval (.Name y p3) X.env) :: starEach [.Name z p4] X.env := by rfl) (s4 : starEach [.Name z p4] X.env = (false, eval (.Name z p4) X.env) :: starEach [] X.env := by rfl) (hK : X.K = K' := by rfl) : DE X .fz (.Call (.Name x p) [e, .Tuple [.Name y p3, .Name z p4] k p5] [] pos) (tCB (rIsiT K') (tCons te (tCons (tTup (tCons (tC (.ty b)) (tCons (tC (.ty c)) tNil))) tNil))) (fIsi2 b c f) := by
  subst hK
  exact de_isi2 (hx := hx) (hgi := hgi) (hmi := hmi) (hv0 := hv0) (hg := hg) (hm := hm) (hv := hv) (hg' := hg') (hm' := hm') (hv' := hv') (he := he) (hb := hb) (hc := hc) (hn0 := hn0) (hdb0 := hdb0) (hn := hn) (hdb := hdb) (hn' := hn') (hdb' := hdb') (s1 := s1) (s2 := s2) (hpl := hpl) (s3 := s3) (s4 := s4)
end
/-! ### methods that change a list -/
section
variable {X : Cx} {m m1 : Md} {e : Expr} {te : TE} {f : Rho → Option D} {p p2 pos apos : Pos} {j : Nat} {x : Str}
theorem tyL {K : PySem.W.Frag} {H : Hp} {a : Addr} {xs : List V} (h : H a = some (.lst xs)) : tyV K "list" (.ref a) H := .inl ⟨rfl, xs, .of h⟩
/-- the owned list of a name -/
theorem Rel.own {K : PySem.W.Frag} {B : Bs} {F H : Hp} {σ : L2.St} {ρ : Rho} (r : Rel K B F H σ ρ) {ds : List D} (h : ρ[j]? = some (.ow (.list ds))) : ∃ a vs, σ[j]? = some (some (.ref a)) ∧ F a = none ∧ B.G a = none ∧ H a = some (.lst vs) ∧ RepA K F vs ds := by
  obtain ⟨o, e, a, rfl, h1, h2, vs, h3, h4⟩ := r.at h
  exact ⟨a, vs, e, h1, h2, h3, h4⟩
def bApp (j : Nat) (f : Rho → Option D) : Bd := fun ρ => match ρ[j]? with
  | some (.ow (.list ds)) => (f ρ).bind fun d => if ds.length < sizeLine then some (.nx (ρ.set j (.ow (.list (ds ++ [d]))))) else none
  | _ => none
theorem app_some {j : Nat} {f : Rho → Option D} {ρ : Rho} {o : Out} (h : bApp j f ρ = some o) : ∃ ds d, ρ[j]? = some (.ow (.list ds)) ∧ f ρ = some d ∧ ds.length < sizeLine ∧ o = .nx (ρ.set j (.ow (.list (ds ++ [d])))) := by
  unfold bApp at h
  split at h
  · rename_i ds e
    obtain ⟨d, h1, h2⟩ := bind_some h
    obtain ⟨h3, rfl⟩ := if_some h2
    exact ⟨ds, d, e, h1, h3, rfl⟩
  · cases h
theorem sem_app {K : PySem.W.Frag} (h : SemE K .fz te f) : SemS K m [] (tDrop (tBM K "list" rAppend (tVar j) (tCons te tNil))) (bApp j f) := by
  intro B F H σ ρ o D r hb q
  obtain ⟨ds, d, e1, e2, hl, rfl⟩ := app_some hb
  obtain ⟨a, vs, h1, h2, h3, h4, h5⟩ := r.own e1
  refine ⟨_, h1, tyL h4, ?_⟩
  refine h B F H σ ρ d _ r e2 fun v F1 H1 x1 r1 => ?_
  have h6 := x1.h _ _ h4
  refine ⟨a, vs, v, rfl, rfl, h6, by rw [h5.length]; exact hl, ?_⟩
  have hF1 : F1 a = none := x1.keepNone h2 (by rw [h4]; exact fun z => nomatch z)
  exact q σ F1 _ ((r.ext x1).write e1 h1 hF1 h3 ⟨vs ++ [v], upd_same, (h5.mono x1.f).append (.cons r1 .nil)⟩) fun _ _ => rfl
theorem pe_app {a : Expr} {r : V → List V → Hp → VK → Prop} {id : String} {name : Str} {ta : TE} {t : TA} {e : Expr} {es : List Expr} (slot : Slot "list" name id) (hty : typeOf (.builtin id) = pure (.type "method_descriptor")) (hm : MtR X id r) (ho : PE X a ta) (ha : PA X (e :: es) t)
    (hbase : attributeBase a name X.env (eval a X.env) = eval a X.env := by rfl)
    (hfew : ((backTo p (starEach (e :: es) X.env)).all (fun x => !x.1) && (backToKw p (keywordEach [] X.env)).all (fun x => x.1.isSome)
      && decide ((e :: es).length + ([] : List Keyword).length + (if ([] : List Keyword).isEmpty then 0 else 1) < 30)) = true := by rfl)
    (hline : (apos.endLine == p.line) = true := by rfl) (hs : starEach (e :: es) X.env = (false, eval e X.env) :: starEach es X.env := by rfl) (hplain : (backTo p (starEach es X.env)).any (·.1) = false := by rfl) :
    PE X (.Call (.Attribute a name apos) (e :: es) [] p) (tBM X.K "list" r ta t) := pe_bm PySem.F.plainAttrs_list slot hty hm ho ha hbase hfew hline hs hplain
/-- x.append(e) -/
theorem ds_app {pn : Pos} (he : DE X .fz e te f) (hN : X.N[j]? = some x := by rfl) (hv : Vis X.env.scope x := by first | exact Or.inl rfl | exact Or.inr (Or.inl rfl) | exact Or.inr (Or.inr rfl)) (hd : (x == ("__debug__" : Str)) = false := by decide) (hcd : (x == ("__classdict__" : Str)) = false := by decide)
    (hbase : attributeBase (.Name x pn) "append" X.env (eval (.Name x pn) X.env) = eval (.Name x pn) X.env := by rfl)
    (hfew : ((backTo p (starEach [e] X.env)).all (fun x => !x.1) && (backToKw p (keywordEach [] X.env)).all (fun x => x.1.isSome)
      && decide ([e].length + ([] : List Keyword).length + (if ([] : List Keyword).isEmpty then 0 else 1) < 30)) = true := by rfl)
    (hline : (apos.endLine == p.line) = true := by rfl) (hs : starEach [e] X.env = (false, eval e X.env) :: starEach [] X.env := by rfl) (hsw : swapsWith (.Call (.Attribute (.Name x pn) "append" apos) [e] [] p) none pos.line X.env = pure false := by rfl) :
    DS X m [] (.Expr (.Call (.Attribute (.Name x pn) "append" apos) [e] [] p) pos) (tDrop (tBM X.K "list" rAppend (tVar j) (tCons te tNil))) (bApp j f) :=
  ⟨ps_expr (pe_bm PySem.F.plainAttrs_list PySem.F.slot_list_append PySem.F.type_list_append mt_append (pe_var hN hv hd hcd) (pa_cons he.p pa_nil hs) hbase hfew hline hs rfl) hsw, sem_app he.s⟩
/-! effects within expressions -/
def SemX (K : PySem.W.Frag) (t : TE) (f : Rho → Option (D × Rho)) : Prop :=
  ∀ (B : Bs) (F H : Hp) (σ : L2.St) (ρ ρ' : Rho) (d : D) (Q : VK), Rel K B F H σ ρ → f ρ = some (d, ρ') → (∀ v F' H', Rel K B F' H' σ ρ' → Same F F' → Rep K F' v d → Q v H') → t σ H Q
structure DX (X : Cx) (e : Expr) (t : TE) (f : Rho → Option (D × Rho)) : Prop where
  p : PE X e t
  s : SemX X.K t f
def xPop (j : Nat) : Rho → Option (D × Rho) := fun ρ => match ρ[j]? with
  | some (.ow (.list ds)) => (ds[ds.length - 1]?).map fun d => (d, ρ.set j (.ow (.list ds.dropLast)))
  | _ => none
theorem dx_pop {pn : Pos} (hN : X.N[j]? = some x := by rfl) (hv : Vis X.env.scope x := by first | exact Or.inl rfl | exact Or.inr (Or.inl rfl) | exact Or.inr (Or.inr rfl)) (hd : (x == ("__debug__" : Str)) = false := by decide) (hcd : (x == ("__classdict__" : Str)) = false := by decide)
    (hbase : attributeBase (.Name x pn) "pop" X.env (eval (.Name x pn) X.env) = eval (.Name x pn) X.env := by rfl) (hline : (apos.endLine == p.line) = true := by rfl) :
    DX X (.Call (.Attribute (.Name x pn) "pop" apos) [] [] p) (tBM0 X.K "list" rPop (tVar j)) (xPop j) :=
  ⟨pe_bm0 PySem.F.plainAttrs_list PySem.F.slot_list_pop PySem.F.type_list_pop mt_pop (pe_var hN hv hd hcd) hbase hline, fun B F H σ ρ ρ' d Q r hf q => by
    unfold xPop at hf
    split at hf
    · rename_i ds e1
      obtain ⟨d', e2, e3⟩ := Option.map_eq_some_iff.mp hf
      cases e3
      obtain ⟨a, vs, h1, h2, h3, h4, h5⟩ := r.own e1
      obtain ⟨v, h6, h7⟩ := h5.get e2
      refine ⟨_, h1, tyL h4, a, vs, v, rfl, rfl, h4, by rw [h5.length]; exact h6, ?_⟩
      exact q v F _ (r.write e1 h1 h2 h3 ⟨vs.dropLast, upd_same, h5.dropLast⟩) (.refl _) h7
    · cases hf⟩
def xPopAt (j : Nat) (f : Rho → Option D) : Rho → Option (D × Rho) := fun ρ => match ρ[j]? with
  | some (.ow (.list ds)) => (f ρ).bind fun i => match i with
    | .int i => if -(2 ^ 63) ≤ i ∧ i < 2 ^ 63 then (seqIndex? i ds.length).bind fun k => (ds[k]?).map fun d => (d, ρ.set j (.ow (.list (ds.eraseIdx k)))) else none
    | _ => none
  | _ => none
theorem dx_popAt {pn : Pos} (he : DE X m e te f) (hN : X.N[j]? = some x := by rfl) (hv : Vis X.env.scope x := by first | exact Or.inl rfl | exact Or.inr (Or.inl rfl) | exact Or.inr (Or.inr rfl)) (hd : (x == ("__debug__" : Str)) = false := by decide) (hcd : (x == ("__classdict__" : Str)) = false := by decide)
    (hbase : attributeBase (.Name x pn) "pop" X.env (eval (.Name x pn) X.env) = eval (.Name x pn) X.env := by rfl)
    (hfew : ((backTo p (starEach [e] X.env)).all (fun x => !x.1) && (backToKw p (keywordEach [] X.env)).all (fun x => x.1.isSome)
      && decide ([e].length + ([] : List Keyword).length + (if ([] : List Keyword).isEmpty then 0 else 1) < 30)) = true := by rfl)
    (hline : (apos.endLine == p.line) = true := by rfl) (hs : starEach [e] X.env = (false, eval e X.env) :: starEach [] X.env := by rfl) :
    DX X (.Call (.Attribute (.Name x pn) "pop" apos) [e] [] p) (tBM X.K "list" rPopAt (tVar j) (tCons te tNil)) (xPopAt j f) :=
  ⟨pe_bm PySem.F.plainAttrs_list PySem.F.slot_list_pop PySem.F.type_list_pop mt_popAt (pe_var hN hv hd hcd) (pa_cons he.p pa_nil hs) hbase hfew hline hs rfl, fun B F H σ ρ ρ' d Q r hf q => by
    unfold xPopAt at hf
    split at hf
    · rename_i ds e1
      obtain ⟨i, e2, e3⟩ := bind_some hf
      obtain ⟨a, vs, h1, h2, h3, h4, h5⟩ := r.own e1
      refine ⟨_, h1, tyL h4, ?_⟩
      refine he.s B F H σ ρ i _ r e2 fun v F1 H1 x1 r1 => ?_
      cases i with
      | int i =>
        have e3' : (if -(2 ^ 63) ≤ i ∧ i < 2 ^ 63 then (seqIndex? i ds.length).bind fun k => (ds[k]?).map fun d => (d, ρ.set j (.ow (.list (ds.eraseIdx k)))) else none) = some (d, ρ') := e3
        by_cases hb : -(2 ^ 63) ≤ i ∧ i < 2 ^ 63
        · rw [if_pos hb] at e3'
          obtain ⟨k, e4, e5⟩ := bind_some e3'
          obtain ⟨d', e6, e7⟩ := Option.map_eq_some_iff.mp e5
          cases e7
          obtain ⟨w, h6, h7⟩ := h5.get e6
          have h8 := x1.h _ _ h4
          have hF1 : F1 a = none := x1.keepNone h2 (by rw [h4]; exact fun z => nomatch z)
          refine ⟨a, vs, i, k, w, rfl, by rw [r1.int], h8, hb.1, hb.2, by rw [h5.length]; exact e4, h6, ?_⟩
          exact q w F1 _ ((r.ext x1).write e1 h1 hF1 h3 ⟨vs.eraseIdx k, upd_same, (h5.mono x1.f).eraseIdx k⟩) x1.f (h7.mono x1.f)
        · rw [if_neg hb] at e3'; cases e3'
      | _ => cases e3
    · cases hf⟩
variable {fx : Rho → Option (D × Rho)}
/-- x = (an expression with an effect) -/
def bAsgX (i : Nat) (f : Rho → Option (D × Rho)) : Bd := fun ρ => (f ρ).bind fun z => some (.nx (z.2.set i (.im z.1)))
theorem sem_asgX {K : PySem.W.Frag} {i : Nat} (h : SemX K te fx) : SemS K m [i] (tAsg te (gName i)) (bAsgX i fx) := by
  intro B F H σ ρ o D r hb q
  obtain ⟨⟨d, ρ'⟩, h1, h2⟩ := bind_some hb
  cases h2
  exact h B F H σ ρ ρ' d _ r h1 fun v F1 H1 r1 _ rv => q _ F1 H1 (r1.setIm rv) set_keep
theorem ds_asgX {i : Nat} {x : Str} {pos' : Pos} (he : DX X e te fx) (hN : X.N.Nodup) (hi : X.N[i]? = some x := by rfl) (hx : Loc X.env.scope x := by first | exact Or.inl rfl | exact Or.inr rfl) (hs : swapsWith e (some (.Name x pos')) pos.line X.env = pure false := by rfl)
    (hf : X.fn x = true ∨ X.env.scope.names.lookup x = some .local := by first | exact .inl rfl | exact .inr rfl) : DS X m [i] (.Assign [.Name x pos'] e pos) (tAsg te (gName i)) (bAsgX i fx) := ⟨ps_set hN hi hx he.p hs hf, sem_asgX he.s⟩
/-- y.append(an expression with an effect) -/
def bAppX (j : Nat) (f : Rho → Option (D × Rho)) : Bd := fun ρ => (f ρ).bind fun z => match ρ[j]?, z.2[j]? with
  | some (.ow (.list _)), some (.ow (.list ds)) => if ds.length < sizeLine then some (.nx (z.2.set j (.ow (.list (ds ++ [z.1]))))) else none
  | _, _ => none
theorem sem_appX {K : PySem.W.Frag} (h : SemX K te fx) : SemS K m [] (tDrop (tBM K "list" rAppend (tVar j) (tCons te tNil))) (bAppX j fx) := by
  intro B F H σ ρ o D r hb q
  obtain ⟨⟨d, ρ'⟩, h1, h2⟩ := bind_some hb
  simp only at h2
  split at h2
  · rename_i ds0 ds e0 e1
    obtain ⟨hl, rfl⟩ := if_some h2
    obtain ⟨a, vs0, g1, g2, g3, g4, g5⟩ := r.own e0
    refine ⟨_, g1, tyL g4, ?_⟩
    refine h B F H σ ρ ρ' d _ r h1 fun v F1 H1 r1 s1 rv => ?_
    obtain ⟨a', vs, k1, k2, k3, k4, k5⟩ := r1.own e1
    rw [g1] at k1
    cases k1
    refine ⟨a, vs, v, rfl, rfl, k4, by rw [k5.length]; exact hl, ?_⟩
    exact q σ F1 _ (r1.write e1 g1 k2 k3 ⟨vs ++ [v], upd_same, k5.append (.cons rv .nil)⟩) fun _ _ => rfl
  · cases h2
theorem ds_appX {pn : Pos} (he : DX X e te fx) (hN : X.N[j]? = some x := by rfl) (hv : Vis X.env.scope x := by first | exact Or.inl rfl | exact Or.inr (Or.inl rfl) | exact Or.inr (Or.inr rfl)) (hd : (x == ("__debug__" : Str)) = false := by decide) (hcd : (x == ("__classdict__" : Str)) = false := by decide)
    (hbase : attributeBase (.Name x pn) "append" X.env (eval (.Name x pn) X.env) = eval (.Name x pn) X.env := by rfl)
    (hfew : ((backTo p (starEach [e] X.env)).all (fun x => !x.1) && (backToKw p (keywordEach [] X.env)).all (fun x => x.1.isSome)
      && decide ([e].length + ([] : List Keyword).length + (if ([] : List Keyword).isEmpty then 0 else 1) < 30)) = true := by rfl)
    (hline : (apos.endLine == p.line) = true := by rfl) (hs : starEach [e] X.env = (false, eval e X.env) :: starEach [] X.env := by rfl) (hsw : swapsWith (.Call (.Attribute (.Name x pn) "append" apos) [e] [] p) none pos.line X.env = pure false := by rfl) :
    DS X m [] (.Expr (.Call (.Attribute (.Name x pn) "append" apos) [e] [] p) pos) (tDrop (tBM X.K "list" rAppend (tVar j) (tCons te tNil))) (bAppX j fx) :=
  ⟨ps_expr (pe_bm PySem.F.plainAttrs_list PySem.F.slot_list_append PySem.F.type_list_append mt_append (pe_var hN hv hd hcd) (pa_cons he.p pa_nil hs) hbase hfew hline hs rfl) hsw, sem_appX he.s⟩
/-- y.append(x), x owned: frozen first -/
def bAppMv (j i : Nat) : Bd := fun ρ => match ρ[j]?, ρ[i]? with
  | some (.ow (.list ds)), some (.ow d) => if i ≠ j ∧ ds.length < sizeLine then some (.nx ((ρ.set i (.im d)).set j (.ow (.list (ds ++ [d]))))) else none
  | some (.ow (.list ds)), some (.im d) => if ds.length < sizeLine then some (.nx (ρ.set j (.ow (.list (ds ++ [d]))))) else none
  | _, _ => none
theorem sem_appMv {K : PySem.W.Frag} {i : Nat} : SemS K m [] (tDrop (tBM K "list" rAppend (tVar j) (tCons (tVar i) tNil))) (bAppMv j i) := by
  intro B F H σ ρ o D r hb q
  unfold bAppMv at hb
  split at hb
  · rename_i ds d e0 e1
    obtain ⟨⟨hij, hl⟩, rfl⟩ := if_some hb
    obtain ⟨a, vs, h1, h2, h3, h4, h5⟩ := r.own e0
    obtain ⟨F', v, s1, g1, g2, r2⟩ := r.freeze e1
    have e0' : (ρ.set i (.im d))[j]? = some (.ow (.list ds)) := by rw [List.getElem?_set_ne hij]; exact e0
    obtain ⟨a', vs', k1, k2, k3, k4, k5⟩ := r2.own e0'
    rw [h1] at k1
    cases k1
    refine ⟨_, h1, tyL h4, v, g1, a, vs', v, rfl, rfl, k4, by rw [k5.length]; exact hl, ?_⟩
    exact q σ F' _ (r2.write e0' h1 k2 k3 ⟨vs' ++ [v], upd_same, k5.append (.cons g2 .nil)⟩) fun _ _ => rfl
  · rename_i ds d e0 e1
    obtain ⟨hl, rfl⟩ := if_some hb
    obtain ⟨a, vs, h1, h2, h3, h4, h5⟩ := r.own e0
    obtain ⟨oo, g1, v, rfl, g2⟩ := r.at e1
    refine ⟨_, h1, tyL h4, v, g1, a, vs, v, rfl, rfl, h4, by rw [h5.length]; exact hl, ?_⟩
    exact q σ F _ (r.write e0 h1 h2 h3 ⟨vs ++ [v], upd_same, h5.append (.cons g2 .nil)⟩) fun _ _ => rfl
  · cases hb
theorem ds_appMv {i : Nat} {y : Str} {pn pm : Pos} (hN : X.N[j]? = some x := by rfl) (hv : Vis X.env.scope x := by first | exact Or.inl rfl | exact Or.inr (Or.inl rfl) | exact Or.inr (Or.inr rfl)) (hd : (x == ("__debug__" : Str)) = false := by decide) (hcd : (x == ("__classdict__" : Str)) = false := by decide)
    (hNi : X.N[i]? = some y := by rfl) (hvi : Vis X.env.scope y := by first | exact Or.inl rfl | exact Or.inr (Or.inl rfl) | exact Or.inr (Or.inr rfl)) (hdi : (y == ("__debug__" : Str)) = false := by decide) (hcdi : (y == ("__classdict__" : Str)) = false := by decide)
    (hbase : attributeBase (.Name x pn) "append" X.env (eval (.Name x pn) X.env) = eval (.Name x pn) X.env := by rfl)
    (hfew : ((backTo p (starEach [.Name y pm] X.env)).all (fun x => !x.1) && (backToKw p (keywordEach [] X.env)).all (fun x => x.1.isSome)
      && decide ([Expr.Name y pm].length + ([] : List Keyword).length + (if ([] : List Keyword).isEmpty then 0 else 1) < 30)) = true := by rfl)
    (hline : (apos.endLine == p.line) = true := by rfl) (hs : starEach [.Name y pm] X.env = (false, eval (.Name y pm) X.env) :: starEach [] X.env := by rfl) (hsw : swapsWith (.Call (.Attribute (.Name x pn) "append" apos) [.Name y pm] [] p) none pos.line X.env = pure false := by rfl) :
    DS X m [] (.Expr (.Call (.Attribute (.Name x pn) "append" apos) [.Name y pm] [] p) pos) (tDrop (tBM X.K "list" rAppend (tVar j) (tCons (tVar i) tNil))) (bAppMv j i) :=
  ⟨ps_expr (pe_bm PySem.F.plainAttrs_list PySem.F.slot_list_append PySem.F.type_list_append mt_append (pe_var hN hv hd hcd) (pa_cons (pe_var hNi hvi hdi hcdi) pa_nil hs) hbase hfew hline hs rfl) hsw, sem_appMv⟩
/-! x[i] = e -/
def bSet (j : Nat) (fi f : Rho → Option D) : Bd := fun ρ => (f ρ).bind fun d => match ρ[j]? with
  | some (.ow (.list ds)) => (fi ρ).bind fun i => match i with
    | .int i => (ixN ds.length i).bind fun k => some (.nx (ρ.set j (.ow (.list (ds.set k d)))))
    | _ => none
  | _ => none
theorem sem_set {K : PySem.W.Frag} {ti : TE} {fi : Rho → Option D} (h : SemE K .fz te f) (hi : SemE K m1 ti fi) : SemS K m [] (tAsg te (gSub (tVar j) ti rSetL)) (bSet j fi f) := by
  intro B F H σ ρ o D r hb q
  obtain ⟨d, h1, h2⟩ := bind_some hb
  split at h2
  · rename_i ds e1
    obtain ⟨i, h3, h4⟩ := bind_some h2
    refine h B F H σ ρ d _ r h1 fun v F1 H1 x1 r1 => ?_
    obtain ⟨a, vs, g1, g2, g3, g4, g5⟩ := (r.ext x1).own e1
    refine ⟨_, g1, ?_⟩
    refine hi B F1 H1 σ ρ i _ (r.ext x1) h3 fun w F2 H2 x2 r2 => ?_
    cases i with
    | int i =>
      obtain ⟨k, h5, h6⟩ := bind_some h4
      cases h6
      have hF2 : F2 a = none := x2.keepNone g2 (by rw [g4]; exact fun z => nomatch z)
      refine ⟨a, vs, i, k, rfl, r2.int, x2.h _ _ g4, by rw [g5.length]; exact h5, ?_⟩
      exact q σ F2 _ (((r.ext x1).ext x2).write e1 g1 hF2 g3 ⟨vs.set k v, upd_same, (g5.mono x2.f).set k (Rep.mono x2.f r1)⟩) fun _ _ => rfl
    | _ => cases h4
  · cases h2
theorem ds_set {i : Expr} {ti : TE} {fi : Rho → Option D} {pn : Pos} (he : DE X .fz e te f) (hi : DE X m1 i ti fi) (hN : X.N[j]? = some x := by rfl) (hv : Vis X.env.scope x := by first | exact Or.inl rfl | exact Or.inr (Or.inl rfl) | exact Or.inr (Or.inr rfl)) (hd : (x == ("__debug__" : Str)) = false := by decide) (hcd : (x == ("__classdict__" : Str)) = false := by decide)
    (ha : ∀ v, assign (.Subscript (.Name x pn) i p) X.env v = (do
      let ov ← holding [v] (eval (.Name x pn) X.env)
      let iv ← holding [v, ov] (eval i X.env)
      standAt p
      holding [v, ov, iv] (setItem ov iv v)
      release [v, ov, iv] []) := by intro _; rfl) (hs : swapsWithSole [.Subscript (.Name x pn) i p] e pos.line X.env = pure false := by rfl) (hw : swappedStores [.Subscript (.Name x pn) i p] e X.env = pure none := by rfl)
    (h1 : (assignEach [.Subscript (.Name x pn) i p] X.env).map (·.2) = [assign (.Subscript (.Name x pn) i p) X.env] := by rfl) : DS X m [] (.Assign [.Subscript (.Name x pn) i p] e pos) (tAsg te (gSub (tVar j) ti rSetL)) (bSet j fi f) :=
  ⟨ps_asg he.p (pg_sub (pe_var hN hv hd hcd) hi.p set_list ha) hs hw h1, sem_set he.s hi.s⟩
/-! x += e, x a number or a text -/
def augD (op : D → D → Option D) (i : Nat) (f : Rho → Option D) : Bd := fun ρ => match ρ[i]? with
  | some (.im d) => (f ρ).bind fun e => (op d e).bind fun z => some (.nx (ρ.set i (.im z)))
  | _ => none
theorem sem_aug {K : PySem.W.Frag} {i : Nat} {r2 : R2} {g : D → D → Option D} (hs : OpS K .fz r2 g) (h : SemE K m1 te f) : SemS K m [i] (tAug i te r2) (augD g i f) := by
  intro B F H σ ρ o D r hb q
  unfold augD at hb
  split at hb
  · rename_i d e1
    obtain ⟨e, h1, h2⟩ := bind_some hb
    obtain ⟨z, h3, h4⟩ := bind_some h2
    cases h4
    obtain ⟨oo, g1, v, rfl, g2⟩ := r.at e1
    refine ⟨v, g1, ?_⟩
    refine h B F H σ ρ e _ r h1 fun w F1 H1 x1 r1 => ?_
    exact hs F1 H1 H H v w d e z _ x1.s (Or.inl (g2.mono x1.f)) r1.any h3 fun u F2 H2 x2 r3 => q _ F2 H2 (((r.ext x1).ext x2).setIm r3) set_keep
  · cases hb
def addS : D → D → Option D
  | .int i, .int j => some (.int (i + j))
  | .str a, .str b => if a.length + b.length ≤ sizeLine then some (.str (a ++ b)) else none
  | _, _ => none
def rAddS : R2 := fun x y H Q => rI0 (fun i j => .int (i + j)) x y H Q ∨ (∃ i j, x = .str i ∧ y = .str j ∧ i.length + j.length ≤ sizeLine ∧ Q (.str (i ++ j)) H)
theorem iop_addS : OpR X (inplaceOp .Add) rAddS := iop_add.or iop_add_str
theorem ops_addS {K : PySem.W.Frag} : OpS K .fz rAddS addS := by
  intro F H Ha Hb x y d e z Q fh r1 r2 hz q
  cases d with
  | int i =>
    cases e with
    | int j => cases hz; exact .inl ⟨i, j, r1.int, r2.int, q _ F H (.refl fh) (Rep.int _)⟩
    | _ => cases hz
  | str i =>
    cases e with
    | str j =>
      obtain ⟨hl, rfl⟩ := if_some hz
      exact .inr ⟨i, j, r1.str, r2.str, hl, q _ F H (.refl fh) (Rep.str _)⟩
    | _ => cases hz
  | _ => cases hz
theorem ds_augAdd {i : Nat} {pos' : Pos} (he : DE X m1 e te f) (hN : X.N.Nodup) (hi : X.N[i]? = some x := by rfl) (hx : Loc X.env.scope x := by first | exact Or.inl rfl | exact Or.inr rfl)
    (hf : X.fn x = true ∨ X.env.scope.names.lookup x = some .local := by first | exact .inl rfl | exact .inr rfl) : DS X m [i] (.AugAssign (.Name x pos') .Add e pos) (tAug i te rAddS) (augD addS i f) := ⟨ps_aug hN hi hx he.p iop_addS hf, sem_aug ops_addS he.s⟩
theorem ds_augSub {i : Nat} {pos' : Pos} (he : DE X m1 e te f) (hN : X.N.Nodup) (hi : X.N[i]? = some x := by rfl) (hx : Loc X.env.scope x := by first | exact Or.inl rfl | exact Or.inr rfl)
    (hf : X.fn x = true ∨ X.env.scope.names.lookup x = some .local := by first | exact .inl rfl | exact .inr rfl) : DS X m [i] (.AugAssign (.Name x pos') .Sub e pos) (tAug i te (rI0 fun i j => .int (i - j))) (augD subD i f) := ⟨ps_aug hN hi hx he.p iop_sub hf, sem_aug ops_sub he.s⟩
/-- an expression for nothing -/
def bDrop (f : Rho → Option D) : Bd := fun ρ => (f ρ).bind fun _ => some (.nx ρ)
theorem ds_drop (he : DE X m1 e te f) (hs : swapsWith e none pos.line X.env = pure false := by rfl) : DS X m [] (.Expr e pos) (tDrop te) (bDrop f) := ⟨ps_expr he.p hs, fun B F H σ ρ o D r hb q => by
  obtain ⟨d, h1, h2⟩ := bind_some hb
  cases h2
  exact he.s B F H σ ρ d _ r h1 fun v F1 H1 x1 r1 => q σ F1 H1 (r.ext x1) fun _ _ => rfl⟩
theorem ds_doc {z : Str} {k : Nat} {p' : Pos} : DS X m [] (.Expr (.Constant (.str z) k p') pos) tNext bNext := ⟨ps_doc, fun B F H σ ρ o D r hb e => by cases hb; exact e σ F H r fun _ _ => rfl⟩
/-! (*xs, e) -/
def aStar (f : Rho → Option D) (fs : Rho → Option (List D)) : Rho → Option (List D) := fun ρ => (f ρ).bind fun d => (itemsD d).bind fun ds => (fs ρ).bind fun es => some (ds ++ es)
/-- a row with stars: no length known -/
structure DAs (X : Cx) (m : Md) (es : List Expr) (t : TA) (f : Rho → Option (List D)) : Prop where
  p : PA X es t
  s : SemA X.K m t f
variable {es : List Expr} {t : TA} {fs : Rho → Option (List D)}
theorem das_nil : DAs X m [] tNil aNil := ⟨pa_nil, (da_nil (X := X)).s⟩
theorem sem_cons {K : PySem.W.Frag} (ha : SemE K m te f) (hr : SemA K m t fs) : SemA K m (tCons te t) (aCons f fs) := fun B F H σ ρ ds Q rel hf q => by
  obtain ⟨d, h1, h2⟩ := bind_some hf
  obtain ⟨ds', h3, h4⟩ := bind_some h2
  cases h4
  refine ha B F H σ ρ d _ rel h1 fun x F1 H1 x1 r1 => ?_
  exact hr B F1 H1 σ ρ ds' _ (rel.ext x1) h3 fun xs F2 H2 x2 r2 => q _ F2 H2 (x1.trans x2) (.cons (r1.mono x2) (r2.back x1.h))
theorem das_cons (ha : DE X m e te f) (hr : DAs X m es t fs) (hs : starEach (e :: es) X.env = (false, eval e X.env) :: starEach es X.env := by rfl) : DAs X m (e :: es) (tCons te t) (aCons f fs) := ⟨pa_cons ha.p hr.p hs, sem_cons ha.s hr.s⟩
theorem resA_app {K : PySem.W.Frag} {H0 F H : Hp} : ∀ {vs ws : List V} {ds es : List D}, RepA K F vs ds → ResA K .fz H0 F H ws es → ResA K .fz H0 F H (vs ++ ws) (ds ++ es)
  | _, _, _, _, .nil, s => s
  | _, _, _, _, .cons h r, s => .cons (show Res K .fz H0 F H _ _ from h) (resA_app r s)
theorem das_star {p : Pos} (ha : DE X m1 e te f) (hr : DAs X .fz es t fs) (hs : starEach (.Starred e p :: es) X.env = (true, eval e X.env) :: starEach es X.env := by rfl) : DAs X .fz (.Starred e p :: es) (StX.tStar X.K te t) (aStar f fs) :=
  ⟨StX.pa_star ha.p hr.p hs, fun B F H σ ρ ds Q rel hf q => by
    obtain ⟨d, h1, h2⟩ := bind_some hf
    obtain ⟨es', h3, h4⟩ := bind_some h2
    obtain ⟨ds', h5, h6⟩ := bind_some h4
    cases h6
    refine ha.s B F H σ ρ d _ rel h1 fun x F1 H1 x1 r1 => ?_
    obtain ⟨a, xs, rfl, s1, p1⟩ := r1.items x1.s h3
    refine ⟨a, xs, rfl, s1.symm, ?_⟩
    exact hr.s B F1 H1 σ ρ ds' _ (rel.ext x1) h5 fun ys F2 H2 x2 r2 => q _ F2 H2 (x1.trans x2) (resA_app (p1.mono x2.f) (r2.back x1.h))⟩
theorem das_starK (K' : PySem.W.Frag) {p : Pos} (ha : DE X m1 e te f) (hr : DAs X .fz es t fs) (hs : starEach (.Starred e p :: es) X.env = (true, eval e X.env) :: starEach es X.env := by rfl) (hK : X.K = K' := by rfl) : DAs X .fz (.Starred e p :: es) (StX.tStar K' te t) (aStar f fs) := by
  subst hK
  exact das_star (ha := ha) (hr := hr) (hs := hs)
def fTupS (fs : Rho → Option (List D)) : Rho → Option D := fun ρ => (fs ρ).bind fun ds => if ds.length ≤ sizeLine then some (.tuple ds) else none
def fLstS (fs : Rho → Option (List D)) : Rho → Option D := fun ρ => (fs ρ).bind fun ds => if ds.length ≤ sizeLine then some (.list ds) else none
theorem de_tupS {k : Nat} (h : DAs X .fz es t fs) : DE X .fz (.Tuple es k pos) (tTupF t) (fTupS fs) := ⟨pe_tupF h.p, fun B F H σ ρ d Q rel hf q => by
  obtain ⟨ds, h1, h2⟩ := bind_some hf
  obtain ⟨hl, rfl⟩ := if_some h2
  exact h.s B F H σ ρ ds _ rel h1 fun xs F1 H1 x1 r1 => ⟨by rw [r1.length]; exact hl, newT_rep x1 r1.rep q⟩⟩
theorem de_lstS (h : DAs X .fz es t fs) : DE X .fr (.List es pos) (tLst t) (fLstS fs) := ⟨pe_lst h.p, fun B F H σ ρ d Q rel hf q => by
  obtain ⟨ds, h1, h2⟩ := bind_some hf
  obtain ⟨hl, rfl⟩ := if_some h2
  exact h.s B F H σ ρ ds _ rel h1 fun xs F1 H1 x1 r1 => ⟨by rw [r1.length]; exact hl, newL_res x1 r1.rep q⟩⟩
end
end Q
end

/-! part: Q11 -/
section
set_option Elab.async false
set_option linter.all false
set_option maxRecDepth 100000
set_option maxHeartbeats 4000000
set_option autoImplicit false
namespace Q
open PySem PySem.Spec PySem.Calls PyProof.Rows L2
/-! ### x, y = a, b -/
section
variable {X : Cx} {m m1 : Md} {a b c e : Expr} {te : TE} {f : Rho → Option D} {ta : TA} {fs : Rho → Option (List D)} {p p2 pos px py pz pt : Pos} {kt k2 : Nat} {pt2 : Pos} {x y z : Str}
def bPar (i j : Nat) (fs : Rho → Option (List D)) : Bd := fun ρ => (fs ρ).bind fun ds => match ds with
  | [d, e] => some (.nx ((ρ.set i (.im d)).set j (.im e)))
  | _ => none
def bPar3 (i j l : Nat) (fs : Rho → Option (List D)) : Bd := fun ρ => (fs ρ).bind fun ds => match ds with
  | [d, e, g] => some (.nx (((ρ.set i (.im d)).set j (.im e)).set l (.im g)))
  | _ => none
theorem sem_par {K : PySem.W.Frag} {i j : Nat} (h : SemA K .fz ta fs) : SemS K m [i, j] (tPar i j ta) (bPar i j fs) := by
  intro B F H σ ρ o D r hb q
  obtain ⟨ds, h1, h2⟩ := bind_some hb
  match ds, h1, h2 with
  | [d, e], h1, h2 =>
    cases h2
    refine h B F H σ ρ _ _ r h1 fun vs F1 H1 x1 r1 => ?_
    obtain ⟨v, w, rfl, r2, r3⟩ := resA2 r1
    refine ⟨v, w, rfl, q _ F1 H1 (((r.ext x1).setIm r2).setIm r3) fun k hk => ?_⟩
    have h4 : k ≠ i ∧ k ≠ j := by simpa using hk
    rw [List.getElem?_set_ne (Ne.symm h4.2), List.getElem?_set_ne (Ne.symm h4.1)]
theorem resA3 {K : PySem.W.Frag} {m : Md} {H0 F H : Hp} {vs : List V} {d e g : D} (h : ResA K m H0 F H vs [d, e, g]) : ∃ u v w, vs = [u, v, w] ∧ Res K m H0 F H u d ∧ Res K m H0 F H v e ∧ Res K m H0 F H w g := by
  cases h with
  | cons h1 r => cases r with
    | cons h2 r => cases r with
      | cons h3 r => cases r; exact ⟨_, _, _, rfl, h1, h2, h3⟩
theorem sem_par3 {K : PySem.W.Frag} {i j l : Nat} (h : SemA K .fz ta fs) : SemS K m [i, j, l] (tPar3 i j l ta) (bPar3 i j l fs) := by
  intro B F H σ ρ o D r hb q
  obtain ⟨ds, h1, h2⟩ := bind_some hb
  match ds, h1, h2 with
  | [d, e, g], h1, h2 =>
    cases h2
    refine h B F H σ ρ _ _ r h1 fun vs F1 H1 x1 r1 => ?_
    obtain ⟨u, v, w, rfl, r2, r3, r4⟩ := resA3 r1
    refine ⟨u, v, w, rfl, q _ F1 H1 ((((r.ext x1).setIm r2).setIm r3).setIm r4) fun k hk => ?_⟩
    have h4 : k ≠ i ∧ k ≠ j ∧ k ≠ l := by simpa using hk
    rw [List.getElem?_set_ne (Ne.symm h4.2.2), List.getElem?_set_ne (Ne.symm h4.2.1), List.getElem?_set_ne (Ne.symm h4.1)]
theorem ds_par {i j : Nat} (ha : DA X .fz [a, b] ta fs) (hN : X.N.Nodup) (hi : X.N[i]? = some x := by rfl) (hj : X.N[j]? = some y := by rfl) (hij : i ≠ j := by decide)
    (hx : X.env.scope.names.lookup x = some .local := by rfl) (hy : X.env.scope.names.lookup y = some .local := by rfl)
    (hw : swappedStores [.Tuple [.Name x px, .Name y py] kt pt] (.Tuple [a, b] k2 pt2) X.env = pure (some [x, y]) := by rfl)
    (hs : swapsWithSole [.Tuple [.Name x px, .Name y py] kt pt] (.Tuple [a, b] k2 pt2) pos.line X.env = pure false := by rfl) (hc : X.calm = true := by rfl) :
    DS X m [i, j] (.Assign [.Tuple [.Name x px, .Name y py] kt pt] (.Tuple [a, b] k2 pt2) pos) (tPar i j ta) (bPar i j fs) := ⟨ps_par hc hN hi hj hij hx hy ha.p hw hs, sem_par ha.s⟩
theorem ds_par3 {i j l : Nat} (ha : DA X .fz [a, b, c] ta fs) (hN : X.N.Nodup) (hi : X.N[i]? = some x := by rfl) (hj : X.N[j]? = some y := by rfl) (hl : X.N[l]? = some z := by rfl) (hij : i ≠ j := by decide) (hil : i ≠ l := by decide) (hjl : j ≠ l := by decide)
    (hx : X.env.scope.names.lookup x = some .local := by rfl) (hy : X.env.scope.names.lookup y = some .local := by rfl) (hz : X.env.scope.names.lookup z = some .local := by rfl)
    (hw : swappedStores [.Tuple [.Name x px, .Name y py, .Name z pz] kt pt] (.Tuple [a, b, c] k2 pt2) X.env = pure (some [x, y, z]) := by rfl)
    (hs : swapsWithSole [.Tuple [.Name x px, .Name y py, .Name z pz] kt pt] (.Tuple [a, b, c] k2 pt2) pos.line X.env = pure false := by rfl) (hc : X.calm = true := by rfl) :
    DS X m [i, j, l] (.Assign [.Tuple [.Name x px, .Name y py, .Name z pz] kt pt] (.Tuple [a, b, c] k2 pt2) pos) (tPar3 i j l ta) (bPar3 i j l fs) := ⟨ps_par3 hc hN hi hj hl hij hil hjl hx hy hz ha.p hw hs, sem_par3 ha.s⟩
/-- target = e, the target a tuple of names (or more) -/
def bAsgG (f : Rho → Option D) (s : D → Rho → Option Rho) : Bd := fun ρ => (f ρ).bind fun d => (s d ρ).bind fun ρ' => some (.nx ρ')
theorem ds_asgG {W : List Nat} {tg : Expr} {g : TG} {s : D → Rho → Option Rho} (he : DE X .fz e te f) (hg : DG false X W tg g s) (hs : swapsWithSole [tg] e pos.line X.env = pure false := by rfl) (hw : swappedStores [tg] e X.env = pure none := by rfl)
    (h1 : (assignEach [tg] X.env).map (·.2) = [assign tg X.env] := by rfl) : DS X m W (.Assign [tg] e pos) (tAsg te g) (bAsgG f s) := ⟨ps_asg he.p hg.p hs hw h1, fun B F H σ ρ o D r hb q => by
  obtain ⟨d, e1, e2⟩ := bind_some hb
  obtain ⟨ρ', e3, e4⟩ := bind_some e2
  cases e4
  refine he.s B F H σ ρ d _ r e1 fun v F1 H1 x1 r1 => ?_
  exact hg.s B F1 H1 σ ρ ρ' v d _ (r.ext x1) (.inl r1) e3 fun σ' r' k' _ => q σ' F1 H1 r' k'⟩
/-! ### len(set(xs)), ints -/
def dedupI : List Int → List Int
  | [] => []
  | n :: ns => if n ∈ ns then dedupI ns else n :: dedupI ns
theorem dedupI_mem (k : Int) : ∀ ns : List Int, k ∈ dedupI ns ↔ k ∈ ns
  | [] => by simp [dedupI]
  | n :: ns => by
    unfold dedupI
    by_cases h : n ∈ ns
    · rw [if_pos h, dedupI_mem k ns, List.mem_cons]
      exact ⟨.inr, fun z => z.elim (fun e => e ▸ h) id⟩
    · rw [if_neg h, List.mem_cons, List.mem_cons, dedupI_mem k ns]
theorem dedupI_nodup : ∀ ns : List Int, (dedupI ns).Nodup
  | [] => by simp [dedupI]
  | n :: ns => by
    unfold dedupI
    by_cases h : n ∈ ns
    · rw [if_pos h]; exact dedupI_nodup ns
    · rw [if_neg h, List.nodup_cons]; exact ⟨fun z => h ((dedupI_mem n ns).mp z), dedupI_nodup ns⟩
theorem dedup_len {l ns : List Int} (h : l.Nodup) (hm : ∀ k, k ∈ l ↔ k ∈ ns) : l.length = (dedupI ns).length :=
  ((List.perm_ext_iff_of_nodup h (dedupI_nodup ns)).mpr fun k => (hm k).trans (dedupI_mem k ns).symm).length_eq
theorem firstMet_all (f : Nat → Int) : ∀ i, (firstMet f i).Nodup ∧ ∀ k, k ∈ firstMet f i ↔ ∃ j, j < i ∧ f j = k
  | 0 => ⟨by simp [firstMet_zero], fun k => by simp [firstMet_zero]⟩
  | i + 1 => by
    obtain ⟨h1, h2⟩ := firstMet_all f i
    have key : ∀ k, (∃ j, j < i + 1 ∧ f j = k) ↔ (∃ j, j < i ∧ f j = k) ∨ f i = k := fun k => by
      constructor
      · rintro ⟨j, hj, e⟩
        by_cases z : j = i
        · subst z; exact .inr e
        · exact .inl ⟨j, by omega, e⟩
      · rintro (⟨j, hj, e⟩ | e)
        · exact ⟨j, by omega, e⟩
        · exact ⟨i, by omega, e⟩
    rw [firstMet_succ]
    unfold step_dedup
    cases hb : (firstMet f i).any (· == f i) with
    | true =>
      obtain ⟨y, hy, ey⟩ := List.any_eq_true.mp hb
      have ey2 : y = f i := eq_of_beq ey
      subst ey2
      refine ⟨by simpa using h1, fun k => ?_⟩
      rw [key, ← h2 k]
      simp only [if_true]
      exact ⟨.inl, fun z => z.elim id fun e => e ▸ hy⟩
    | false =>
      have hn : f i ∉ firstMet f i := fun z => by
        have : (firstMet f i).any (· == f i) = true := List.any_eq_true.mpr ⟨_, z, by simp⟩
        rw [hb] at this; cases this
      simp only [Bool.false_eq_true, if_false]
      refine ⟨?_, fun k => ?_⟩
      · rw [List.nodup_append]
        exact ⟨h1, by simp, fun a ha b hb e => by
          have hb' : b = f i := by simpa using hb
          subst hb'; subst e; exact hn ha⟩
      · rw [key, ← h2 k, List.mem_append, List.mem_singleton]
        exact ⟨fun z => z.imp id fun e => e.symm, fun z => z.imp id fun e => e.symm⟩
theorem firstMet_len (ns : List Int) : (firstMet (fun i => ns.getD i 0) ns.length).length = (dedupI ns).length := by
  obtain ⟨h1, h2⟩ := firstMet_all (fun i => ns.getD i 0) ns.length
  refine dedup_len h1 fun k => (h2 k).trans ?_
  constructor
  · rintro ⟨j, hj, e⟩
    rw [List.getD_eq_getElem?_getD, List.getElem?_eq_getElem hj] at e
    have e' : ns[j] = k := e
    exact e' ▸ List.getElem_mem hj
  · intro h
    obtain ⟨j, hj, e⟩ := List.mem_iff_getElem.mp h
    exact ⟨j, hj, by show ns.getD j 0 = k; rw [List.getD_eq_getElem?_getD, List.getElem?_eq_getElem hj]; exact e⟩
def tLenSetA (K : PySem.W.Frag) (ta : TE) : TE := fun σ H Q => ta σ H fun x H1 => ∃ (l : Addr) (ns : List Int), x = .ref l ∧ SqA K H1 l (ns.map V.int) ∧ ns.length ≤ 4000 ∧ Q (.int ((dedupI ns).length : Nat)) H1
theorem pe_lenSetA {a : Expr} {ta : TE} {p p2 q pos : Pos} (hg : Gl X "len") (hm : X.mg "len" = none) (hg2 : Gl X "set") (hm2 : X.mg "set" = none) (ha : PE X a ta) (hc : X.calm = true := by rfl)
    (na : starEach [a] X.env = (false, eval a X.env) :: starEach [] X.env := by rfl) : PE X (.Call (.Name "len" p) [.Call (.Name "set" p2) [a] [] q] [] pos) (tLenSetA X.K ta) := by
  refine ⟨fun pins s σ H Q I h => ?_⟩
  refine Call_ (ld_blt I hg hm PySem.boot_len ?_)
  refine PyProof.Rows.callWith_builtin1 (PyProof.Rows.args_cons ?_ rfl) rfl rfl
  refine Call_ (ld_blt I hg2 hm2 PyProof.Rows.boot_set ?_)
  refine PyProof.Rows.callWith_type1 (PyProof.Rows.args_cons (thn (ha.run pins s σ H _ I h) fun v s1 ⟨x, H1, I1, r1, q1⟩ => PyProof.Rows.args_nil ?_) na) na rfl
  obtain ⟨l, ns, rfl, hq, hl, q1⟩ := q1
  cases r1
  rcases hq with hq | hq
  · obtain ⟨its, r, pl, hz⟩ := I1.list hq
    have hlen : its.toArray.size = ns.length := by rw [List.size_toArray, ← r.length, List.length_map]
    refine call_set_list (I1.ok.hd hc) pl.isList (by simpa using RZ.intsAre_vals r) (by rw [hlen]; unfold scanBound; omega) fun h' tk hS hk => ?_
    refine PyProof.Rows.args_nil ?_
    rw [hlen, firstMet_len] at hS
    obtain ⟨o, es, ep, t, ho, hex, hd, _, _, _, hf, hn⟩ := hS
    have hle : (dedupI ns).length ≤ 4000 := by
      rw [← firstMet_len]
      exact Nat.le_trans (firstMet_length_le _ _) hl
    have I2 : Inv X pins σ H1 { s1 with heap := h', toks := tk } := I1.kept fun b o e => hk b o (Heap.lt_size e) e
    exact call_len_set ho hex hd hf (by rw [hn] <;> omega) ⟨.int (dedupI ns).length, H1, I2.tok _, ⟨_, by rw [hn]⟩, q1⟩
  · obtain ⟨its, r, pl, hz⟩ := I1.tuple hq
    refine call_set_tupI ns (I1.ok.hd hc) pl (by simpa using RZ.intsAre_vals r) (by unfold scanBound; omega) fun h' tk c hS hcl hk => ?_
    refine PyProof.Rows.args_nil ?_
    obtain ⟨o, es, ep, t, ho, hex, hd, _, nd, hmm, hb, hf, hn, _⟩ := hS
    have e1 : es.size = (dedupI ns).length := by
      have := dedup_len nd fun k => ((hmm k).symm.trans (by simp) : k ∈ es.toList.map keyOf ↔ k ∈ ns)
      simpa using this
    have I2 : Inv X pins σ H1 { s1 with heap := h', toks := tk } := I1.kept fun b o e => hk b o e
    exact call_len_set ho hex hd hf (by rw [hn] <;> omega) ⟨.int (dedupI ns).length, H1, I2.tok _, ⟨_, by rw [e1]⟩, q1⟩
def fLenSet (f : Rho → Option D) : Rho → Option D := fun ρ => (f ρ).bind fun d => (itemsD d).bind fun ds => (intsOf ds).bind fun ns => if ns.length ≤ 4000 then some (.int ((dedupI ns).length : Nat)) else none
theorem de_lenSet {a : Expr} {fa : Rho → Option D} {p p2 q pos : Pos} (hg : Gl X "len") (hm : X.mg "len" = none) (hg2 : Gl X "set") (hm2 : X.mg "set" = none) (ha : DE X m1 a te fa) (hc : X.calm = true := by rfl)
    (na : starEach [a] X.env = (false, eval a X.env) :: starEach [] X.env := by rfl) : DE X .fz (.Call (.Name "len" p) [.Call (.Name "set" p2) [a] [] q] [] pos) (tLenSetA X.K te) (fLenSet fa) :=
  ⟨pe_lenSetA hg hm hg2 hm2 ha.p hc na, fun B F H σ ρ z Q r hf q => by
    obtain ⟨d, h1, h2⟩ := bind_some hf
    obtain ⟨ds, h3, h4⟩ := bind_some h2
    obtain ⟨ns, h5, h6⟩ := bind_some h4
    obtain ⟨h7, rfl⟩ := if_some h6
    refine ha.s B F H σ ρ d _ r h1 fun v F1 H1 x1 r1 => ?_
    obtain ⟨a, xs, rfl, s1, p1⟩ := r1.items x1.s h3
    cases intsOf_map h5
    refine ⟨a, ns, rfl, ?_, h7, q _ F1 H1 x1 (Rep.int _)⟩
    rw [← p1.ints]
    exact s1⟩
theorem de_lenSetK (K' : PySem.W.Frag) {a : Expr} {fa : Rho → Option D} {p p2 q pos : Pos} (hg : Gl X "len") (hm : X.mg "len" = none) (hg2 : Gl X "set") (hm2 : X.mg "set" = none) (ha : DE X m1 a te fa) (hc : X.calm = true := by rfl) (na : starEach [a] X.env = (false, eval a X.env) :: starEach [] X.env := by rfl) (hK : X.K = K' := by rfl) : DE X .fz (.Call (.Name "len" p) [.Call (.Name "set" p2) [a] [] q] [] pos) (tLenSetA K' te) (fLenSet fa) := by
  subst hK
  exact de_lenSet (hg := hg) (hm := hm) (hg2 := hg2) (hm2 := hm2) (ha := ha) (hc := hc) (na := na)
/-! ### a tuple times an int -/
def rRepF (K : PySem.W.Frag) : R2 := fun x y H Q => ∃ l k xs, x = .ref l ∧ y = .int k ∧ SqT K H l xs ∧ xs ≠ [] ∧ 2 ≤ k ∧ k ≤ 1000 ∧ xs.length ≤ 1000 ∧ NewT (List.replicate k.toNat xs).flatten H Q
theorem op_repF : OpR X (binaryOp .Mult) (rRepF X.K) := by
  intro pins s σ H x y v u Q I rx ry h
  obtain ⟨l, k, xs, rfl, rfl, hT, hne, h1, h2, hz, q⟩ := h
  cases rx
  obtain ⟨t, rfl⟩ := ry
  obtain ⟨its, r, ⟨⟨cls, dd, data, sl⟩, ho, hc, n, hd⟩, hs⟩ := I.tuple hT
  simp only at hc hd
  subst hc hd
  have hle : its.length = xs.length := r.length.symm
  have hn : its ≠ [] := fun e => hne (by
    rw [e] at hle
    exact List.eq_nil_of_length_eq_zero hle.symm)
  have hi : its.toArray.isEmpty = false := by
    cases its with
    | nil => exact absurd rfl hn
    | cons a b => rfl
  have hsz0 : its.toArray.size = xs.length := by rw [List.size_toArray, hle]
  have hm : ((its.toArray.size : Nat) : Int) * k ≤ 1000000 := by
    rw [hsz0]
    have a1 : ((xs.length : Nat) : Int) * k ≤ 1000 * k := Int.mul_le_mul_of_nonneg_right (by omega) (by omega)
    omega
  have flen : (List.replicate k.toNat its).flatten.length ≤ sizeLine := by
    rw [PyProof.Rows.lm_len_rep_flat, hle, sizeLine_eq]
    have a1 : k.toNat * xs.length ≤ 1000 * 1000 := Nat.mul_le_mul (by omega) hz
    omega
  have c0 : (decide (k < -(2 ^ 63)) || decide (k ≥ 2 ^ 63)) = false := by
    rw [decide_eq_false (by omega), decide_eq_false (by omega)] <;> rfl
  have c1 : (its.toArray.isEmpty || k == 1) = false := by
    rw [hi, Bool.false_or]
    exact beq_eq_false_iff_ne.mpr (by omega)
  have c2 : (decide (k ≤ 0) || its.toArray.isEmpty) = false := by
    rw [hi, Bool.or_false]
    exact decide_eq_false (by omega)
  have c4 : Builtin.Tuple.tupleTooMany (((its.toArray.size : Nat) : Int) * k) = false := by
    unfold Builtin.Tuple.tupleTooMany
    rw [sizeLine_eq]
    exact decide_eq_false (by omega)
  refine wpAny_binaryOp_repeat_ref (T := "tuple") (U := "int") (by decide) ⟨_, ho, rfl⟩ (fun s' => typeIs_int s' k t) noFill_tuple_mul PySem.F.fills_int_mul PySem.F.slot_int_rmul repeat_tuple PySem.F.slot_int_index.lookup
    (call_meets PySem.F.slot_int_rmul (typeIs_int s k t) PySem.F.entry_int_rmul (PySem.F.args_int_rmul_2 _ _) (int_rmul_tuple k t l its.toArray n dd sl)
      ⟨ho, rfl, ⟨_, ho, rfl⟩, call_meets PySem.F.slot_tuple_mul ⟨_, ho, rfl⟩ PySem.F.entry_tuple_mul (PySem.F.args_tuple_mul_2 _ _) (tuple_mulW l its.toArray n dd sl k t c0 c1 c2 (by omega) c4 (by rw [size_rep, List.size_toArray]; exact flen)) ⟨ho, ?_⟩⟩)
  rw [size_rep]
  refine ⟨.ref s.heap.objs.size, _, I.laidT (t' := s.toks) (r.rep k.toNat) (by rw [PyProof.Rows.lm_len_rep_flat, sizeLine_eq]; have a1 : k.toNat * xs.length ≤ 1000 * 1000 := Nat.mul_le_mul (by omega) hz; omega), rfl, q _ _ (I.hok.fresh (Nat.le_refl _)) rfl rfl⟩
theorem op_repFK (K' : PySem.W.Frag) (hK : X.K = K' := by rfl) : OpR X (binaryOp .Mult) (rRepF K') := by
  subst hK
  exact op_repF 
theorem RepA.rep {K : PySem.W.Frag} {F : Hp} {vs : List V} {ds : List D} (r : RepA K F vs ds) : ∀ n : Nat, RepA K F (List.replicate n vs).flatten (List.replicate n ds).flatten
  | 0 => .nil
  | n + 1 => by rw [List.replicate_succ, List.replicate_succ, List.flatten_cons, List.flatten_cons]; exact r.append (RepA.rep r n)
def repTD : D → D → Option D
  | .tuple ds, .int k => if ds ≠ [] ∧ 2 ≤ k ∧ k ≤ 1000 ∧ ds.length ≤ 1000 then some (.tuple (List.replicate k.toNat ds).flatten) else none
  | _, _ => none
theorem ops_repT {K : PySem.W.Frag} : OpS K .fz (rRepF K) repTD := by
  intro F H Ha Hb x y d e z Q fh r1 r2 hz q
  match d, e, r1, r2, hz with
  | .tuple ds, .int k, r1, r2, hz =>
    obtain ⟨⟨h1, h2, h3, h4⟩, rfl⟩ := if_some hz
    obtain ⟨a, vs, rfl, s1, p1⟩ := r1.tup fh
    exact ⟨a, k, vs, rfl, r2.int, s1.sq, fun e0 => h1 (by subst e0; cases p1; rfl), h2, h3, by rw [p1.length]; exact h4, newT_rep (.refl fh) (p1.rep _) q⟩
/-! ### a list times an int: a new list -/
def repLD : D → D → Option D
  | .list ds, .int k => if -(2 ^ 63) ≤ k ∧ k < 2 ^ 63 ∧ ds.length * k.toNat ≤ sizeLine then some (.list (List.replicate k.toNat ds).flatten) else none
  | _, _ => none
/-- [..] * e -/
theorem de_repL {es : List Expr} (ha : DE X .fr (.List es p) te f) {tb : TE} {fb : Rho → Option D} (hb : DE X m1 b tb fb) : DE X .fr (.BinOp (.List es p) .Mult b pos) (tOp rRep te tb) (f2 repLD f fb) :=
  ⟨pe_op op_rep ha.p hb.p, fun B F H σ ρ z Q r hf q => by
    obtain ⟨d, h1, h2⟩ := bind_some hf
    obtain ⟨e, h3, h4⟩ := bind_some h2
    refine ha.s B F H σ ρ d _ r h1 fun v F1 H1 x1 r1 => ?_
    refine hb.s B F1 H1 σ ρ e _ (r.ext x1) h3 fun u F2 H2 x2 r2 => ?_
    match d, e, r1, r2, h4 with
    | .list ds, .int k, r1, r2, h4 =>
      obtain ⟨⟨h5, h6, h7⟩, rfl⟩ := if_some h4
      obtain ⟨a, rfl, h0, hf, xs, hH, ra⟩ := r1
      refine ⟨a, k, xs, rfl, r2.int, x2.h _ _ hH, h5, h6, by rw [ra.length]; exact h7, ?_⟩
      exact newL_res (x1.trans x2) ((ra.mono x2.f).rep _) fun v' F' H' x' r' => q v' F' H' x' (r'.back (F1 := F1) (.refl _))⟩
end
end Q
end

/-! part: Q12 -/
section
set_option Elab.async false
set_option linter.all false
set_option maxRecDepth 100000
set_option maxHeartbeats 4000000
set_option autoImplicit false
namespace Q
open PySem PySem.Spec PySem.Calls PyProof.Rows L2
theorem bt_len : bootBuiltins "len" = some (.builtin "len") := by decide +kernel
theorem bt_sorted : bootBuiltins "sorted" = some (.builtin "sorted") := by decide +kernel
theorem bt_sum : bootBuiltins "sum" = some (.builtin "sum") := by decide +kernel
theorem bt_min : bootBuiltins "min" = some (.builtin "min") := by decide +kernel
theorem bt_max : bootBuiltins "max" = some (.builtin "max") := by decide +kernel
theorem bt_abs : bootBuiltins "abs" = some (.builtin "abs") := by decide +kernel
theorem bt_all : bootBuiltins "all" = some (.builtin "all") := by decide +kernel
theorem bt_any : bootBuiltins "any" = some (.builtin "any") := by decide +kernel
theorem bt_isinstance : bootBuiltins "isinstance" = some (.builtin "isinstance") := by decide +kernel
theorem bt_int : bootBuiltins "int" = some (.type "int") := by decide +kernel
theorem bt_bool : bootBuiltins "bool" = some (.type "bool") := by decide +kernel
theorem bt_str : bootBuiltins "str" = some (.type "str") := by decide +kernel
theorem bt_list : bootBuiltins "list" = some (.type "list") := by decide +kernel
theorem bt_tuple : bootBuiltins "tuple" = some (.type "tuple") := by decide +kernel
theorem bt_dict : bootBuiltins "dict" = some (.type "dict") := by decide +kernel
theorem _root_.L2.Room.u64 {k : Nat} {A : Around} (r : Room k A) : A.units + 64 < cLine := r.units
theorem _root_.L2.Room.u65 {k : Nat} {A : Around} (r : Room k A) : A.units + 65 < cLine := by have := r.un; omega
theorem _root_.L2.Room.u70 {k : Nat} {A : Around} (r : Room k A) : A.units + 70 < cLine := by have := r.un; omega
theorem blk_of {N : List Str} {sc scope : Scope} {own : List (Str × Nat)} (h : blkC N sc scope own = true) : blkC N sc scope own = true := h
/-! ### a if t else b as a test; the given rules with the written part named -/
section
variable {X : Cx} {a b c : Expr} {tc ta tb : TT} {fc fa fb : Rho → Option Bool} {pos : Pos}
def tIfT (t a b : TT) : TT := fun σ H Q => t σ H fun c H1 => if c = true then a σ H1 Q else b σ H1 Q
def fIfT (fc fa fb : Rho → Option Bool) : Rho → Option Bool := fun ρ => (fc ρ).bind fun k => if k = true then fa ρ else fb ρ
theorem dt_if (hc : DT X c tc fc) (ha : DT X a ta fa) (hb : DT X b tb fb) : DT X (.IfExp c a b pos) (tIfT tc ta tb) (fIfT fc fa fb) :=
  ⟨⟨fun pins s σ H Q I h => by
    refine PyProof.Rows.isTrue_IfExp (thn (hc.p.run pins s σ H _ I h) fun d s1 ⟨H1, I1, q1⟩ => ?_)
    cases d with
    | true => exact ha.p.run pins s1 σ H1 Q I1 q1
    | false => exact hb.p.run pins s1 σ H1 Q I1 q1⟩, fun B F H σ ρ z Q r hf q => by
    obtain ⟨k, h1, h2⟩ := bind_some hf
    refine hc.s B F H σ ρ k _ r h1 fun F1 H1 x1 => ?_
    cases k with
    | true => exact ha.s B F1 H1 σ ρ z _ (r.ext x1) h2 fun F2 H2 x2 => q F2 H2 (x1.trans x2)
    | false => exact hb.s B F1 H1 σ ρ z _ (r.ext x1) h2 fun F2 H2 x2 => q F2 H2 (x1.trans x2)⟩
theorem op_eqDK (K' : PySem.W.Frag) (hu : X.A.units + 64 < cLine) (hK : X.K = K' := by rfl) : OpR X (compareOp .Eq) (rEqD K') := by
  subst hK; exact op_eqD hu
theorem op_neDK (K' : PySem.W.Frag) (hu : X.A.units + 64 < cLine) (hK : X.K = K' := by rfl) : OpR X (compareOp .NotEq) (rNeD K') := by
  subst hK; exact op_neD hu
theorem call_lenK (K' : PySem.W.Frag) (hK : X.K = K' := by rfl) : CallR X (.builtin "len") (rLen K') := by
  subst hK; exact call_len
theorem call_list_ofK (K' : PySem.W.Frag) (hK : X.K = K' := by rfl) : CallR X (.type "list") (rLstC K') := by
  subst hK; exact call_list_of
theorem cr_allK (K' : PySem.W.Frag) (hc : X.calm = true) (hK : X.K = K' := by rfl) : CallR X (.builtin "all") (rAll K') := by
  subst hK; exact cr_all hc
theorem cr_anyK (K' : PySem.W.Frag) (hc : X.calm = true) (hK : X.K = K' := by rfl) : CallR X (.builtin "any") (rAny K') := by
  subst hK; exact cr_any hc
end
/-! ### what is known of a def by its name -/
def Ok (P : Program) (w : World) (K : PySem.W.Frag) (mg : Str → Option Value) (base : Heap) (k : Nat) (x : Str) (ps : List Str) (m : Md) (Φ : List D → Option D) : Prop :=
  ∃ fd : FuncData, FnOk P w K mg base CX0 k (He.ga K x) fd ps (spM K m Φ) ∧ PySem.W.keepIn K (.ref (He.ga K x)) = true ∧ Binds K fd ps [] ∧ mg x = some (.ref (He.ga K x))
def fnB (n p : Nat) (b : Bd) : List D → Option D := fun ds => if ds.length = p then runB n b ds else none
/-- a def that never runs off its end -/
def runR (n : Nat) (b : Bd) : List D → Option D := fun ds => (b (ds.map .im ++ List.replicate (n - ds.length) .un)).bind fun o => match o with
  | .rt d => some d
  | _ => none
def fnR (n p : Nat) (b : Bd) : List D → Option D := fun ds => if ds.length = p then runR n b ds else none
section
variable {P : Program} {w : World} {K : PySem.W.Frag} {mg : Str → Option Value} {base : Heap} {x qual : Str} {params : Arguments} {body : List Stmt} {scope : Scope} {fd : FuncData} {N ps : List Str} {k j : Nat} {m : Md} {b : Bd} {Φ : List D → Option D}
theorem Ok.mono (h : Ok P w K mg base j x ps m Φ) (e : j ≤ k) : Ok P w K mg base k x ps m Φ := by
  obtain ⟨fd, h1, h2, h3, h4⟩ := h
  exact ⟨fd, h1.mono e, h2, h3, h4⟩
theorem ok_fz (Fd : FunD K x qual params body scope [] [] (He.ga K x) fd) (S : FnScope N ps scope)
    (hb0 : ∀ (kV doc pm : Value) (an : Option Addr) (cdv ct : Value) (us : List Value), us.length = ps.length → bindArgs (PySem.W.fnOf x qual params body scope .none kV doc pm an cdv ct) ⟨us, []⟩ = pure (ps.zip us))
    (hg : mg x = some (.ref (He.ga K x)))
    (hb : ∀ (cdv : Value) (A : Around) (outer : List Env) (s : Shared) (H : Hp) (E : XK), Room k (A.deeper (envOfC qual scope s.heap.objs.size (He.ga K x) cdv)) →
      ∃ W t, DSs (cxOf CX0 P w K mg base N qual scope (He.ga K x) cdv A outer s H E).nox .fz W body t b) : Ok P w K mg base (k + 1) x ps .fz (fnB N.length ps.length b) :=
  ⟨fd, fn_den Fd S _ (fun ds r h => if_someB h) (.inl rfl) hb, Fd.kp, Fd.bindsN hb0, hg⟩
where
  if_someB {ds : List D} {r : D} (h : fnB N.length ps.length b ds = some r) : ds.length = ps.length ∧ runB N.length b ds = some r := by
    unfold fnB at h
    by_cases hl : ds.length = ps.length
    · rw [if_pos hl] at h; exact ⟨hl, h⟩
    · rw [if_neg hl] at h; cases h
/-- as fn_den, the body ends by return -/
theorem fn_denR {f : Addr} (Fd : FunD K x qual params body scope [] [] f fd) (S : FnScope N ps scope) (Φ : List D → Option D) (hΦ : ∀ ds r, Φ ds = some r → ds.length = ps.length ∧ runR N.length b ds = some r)
    (hb : ∀ (cdv : Value) (A : Around) (outer : List Env) (s : Shared) (H : Hp) (E : XK), Room k (A.deeper (envOfC qual scope s.heap.objs.size f cdv)) →
      ∃ W t, DSs (cxOf CX0 P w K mg base N qual scope f cdv A outer s H E).nox m W body t b) : FnOk P w K mg base CX0 (k + 1) f fd ps (spM K m Φ) := by
  have lenOf : ∀ vs H Q E, spM K m Φ vs H Q E → vs.length = ps.length := fun vs H Q E h => by
    obtain ⟨F, ds, r, _, ra, hr, _⟩ := h
    rw [ra.length]
    exact (hΦ ds r hr).1
  refine Fd.ok S lenOf fun cdv A outer s H vs Q E hr h => ?_
  obtain ⟨W, t, D⟩ := hb cdv A outer s H E hr
  refine ⟨t, D.p.nox, ?_⟩
  obtain ⟨F, ds, r, fh, ra, hP, q⟩ := h
  obtain ⟨hl, hrun⟩ := hΦ ds r hP
  obtain ⟨o, e1, e2⟩ := bind_some hrun
  have hlen : ps.length ≤ N.length := by
    have e := congrArg List.length S.pre
    rw [List.length_take] at e
    omega
  refine D.s { F0 := F, G := H } F H _ _ o _ (start_rel ra (by rw [hl]; exact hlen) fh) e1 ?_
  cases o with
  | rt d =>
    cases e2
    intro v F' H' ro
    obtain ⟨a1, a2, a3, a4, a5⟩ := ro
    exact q v F' H' ⟨a1, a2, a4, a3⟩ a5
  | nx ρ' => cases e2
  | bk ρ' => cases e2
  | ct ρ' => cases e2
theorem ok_fr (Fd : FunD K x qual params body scope [] [] (He.ga K x) fd) (S : FnScope N ps scope)
    (hb0 : ∀ (kV doc pm : Value) (an : Option Addr) (cdv ct : Value) (us : List Value), us.length = ps.length → bindArgs (PySem.W.fnOf x qual params body scope .none kV doc pm an cdv ct) ⟨us, []⟩ = pure (ps.zip us))
    (hg : mg x = some (.ref (He.ga K x)))
    (hb : ∀ (cdv : Value) (A : Around) (outer : List Env) (s : Shared) (H : Hp) (E : XK), Room k (A.deeper (envOfC qual scope s.heap.objs.size (He.ga K x) cdv)) →
      ∃ W t, DSs (cxOf CX0 P w K mg base N qual scope (He.ga K x) cdv A outer s H E).nox m W body t b) : Ok P w K mg base (k + 1) x ps m (fnR N.length ps.length b) :=
  ⟨fd, fn_denR Fd S _ (fun ds r h => if_someR h) hb, Fd.kp, Fd.bindsN hb0, hg⟩
where
  if_someR {ds : List D} {r : D} (h : fnR N.length ps.length b ds = some r) : ds.length = ps.length ∧ runR N.length b ds = some r := by
    unfold fnR at h
    by_cases hl : ds.length = ps.length
    · rw [if_pos hl] at h; exact ⟨hl, h⟩
    · rw [if_neg hl] at h; cases h
/-- the law itself -/
theorem law_fz {f : Addr} (Fd : FunD K x qual params body scope [] [] f fd) (S : FnScope N ps scope)
    (hb : ∀ (cdv : Value) (A : Around) (outer : List Env) (s : Shared) (H : Hp) (E : XK), Room k (A.deeper (envOfC qual scope s.heap.objs.size f cdv)) →
      ∃ W t, DSs (cxOf CX0 P w K mg base N qual scope f cdv A outer s H E).nox .fz W body t b) : FnOk P w K mg base CX0 (k + 1) f fd ps (spM K .fz (fnB N.length ps.length b)) :=
  fn_den Fd S _ (fun ds r h => ok_fz.if_someB h) (.inl rfl) hb
/-- the ground of a recursion: no promise -/
theorem ok_zero (Fd : FunD K x qual params body scope [] [] (He.ga K x) fd)
    (hb0 : ∀ (kV doc pm : Value) (an : Option Addr) (cdv ct : Value) (us : List Value), us.length = ps.length → bindArgs (PySem.W.fnOf x qual params body scope .none kV doc pm an cdv ct) ⟨us, []⟩ = pure (ps.zip us))
    (hg : mg x = some (.ref (He.ga K x))) : Ok P w K mg base k x ps m (fun _ => none) :=
  ⟨fd, ⟨fun vs H Q E h => (by obtain ⟨F, ds, r, _, _, h, _⟩ := h; cases h), fun A outer s H args us vs Q E _ _ _ _ h => (by obtain ⟨F, ds, r, _, _, h, _⟩ := h; cases h)⟩, Fd.kp, Fd.bindsN hb0, hg⟩
end
section
variable {X : Cx} {m m1 : Md} {k j : Nat} {ps : List Str} {Φ : List D → Option D} {x : Str} {p pos : Pos} {e : Expr} {es : List Expr} {t : TA} {fs : Rho → Option (List D)}
theorem de_fn (h : Ok X.prog X.w X.K X.mg X.base j x ps m Φ) (hr : Room k X.A) (hj : j ≤ k) (hg : Gl X x) (ha : DA X .fz (e :: es) t fs)
    (hdb : (x == ("__debug__" : Str)) = false := by decide) (he : starEach (e :: es) X.env = (false, eval e X.env) :: starEach es X.env := by rfl) (hpl : (backTo pos (starEach es X.env)).any (·.1) = false := by rfl) :
    DE X m (.Call (.Name x p) (e :: es) [] pos) (tCall (spM X.K m Φ) [] E0 t) (fB Φ fs) := by
  obtain ⟨fd, h1, h2, h3, h4⟩ := h
  exact de_call (h1.mono hj) hr hg h4 h2 h3 ha hdb he hpl
theorem de_fnK (K' : PySem.W.Frag) (h : Ok X.prog X.w K' X.mg X.base j x ps m Φ) (hr : Room k X.A) (hj : j ≤ k) (hg : Gl X x) (ha : DA X .fz (e :: es) t fs) (hdb : (x == ("__debug__" : Str)) = false := by decide) (he : starEach (e :: es) X.env = (false, eval e X.env) :: starEach es X.env := by rfl) (hpl : (backTo pos (starEach es X.env)).any (·.1) = false := by rfl) (hK : X.K = K' := by rfl) : DE X m (.Call (.Name x p) (e :: es) [] pos) (tCall (spM K' m Φ) [] E0 t) (fB Φ fs) := by
  subst hK
  exact de_fn (h := h) (hr := hr) (hj := hj) (hg := hg) (ha := ha) (hdb := hdb) (he := he) (hpl := hpl)
theorem de_fn0 (h : Ok X.prog X.w X.K X.mg X.base j x ps m Φ) (hr : Room k X.A) (hj : j ≤ k) (hg : Gl X x) (hdb : (x == ("__debug__" : Str)) = false := by decide) :
    DE X m (.Call (.Name x p) [] [] pos) (tCall (spM X.K m Φ) [] E0 tNil) (fB Φ aNil) := by
  obtain ⟨fd, h1, h2, h3, h4⟩ := h
  exact de_call0 (h1.mono hj) hr hg h4 h2 h3 hdb
theorem de_fn0K (K' : PySem.W.Frag) (h : Ok X.prog X.w K' X.mg X.base j x ps m Φ) (hr : Room k X.A) (hj : j ≤ k) (hg : Gl X x) (hdb : (x == ("__debug__" : Str)) = false := by decide) (hK : X.K = K' := by rfl) : DE X m (.Call (.Name x p) [] [] pos) (tCall (spM K' m Φ) [] E0 tNil) (fB Φ aNil) := by
  subst hK
  exact de_fn0 (h := h) (hr := hr) (hj := hj) (hg := hg) (hdb := hdb)
theorem de_fnP (hm0 : m = .fz ∨ m = .fr) (h : Ok X.prog X.w X.K X.mg X.base j x ps m Φ) (hr : Room k X.A) (hj : j ≤ k) (hg : Gl X x) (ha : DA X .pk (e :: es) t fs)
    (hdb : (x == ("__debug__" : Str)) = false := by decide) (he : starEach (e :: es) X.env = (false, eval e X.env) :: starEach es X.env := by rfl) (hpl : (backTo pos (starEach es X.env)).any (·.1) = false := by rfl) :
    DE X m (.Call (.Name x p) (e :: es) [] pos) (tCall (spM X.K m Φ) [] E0 t) (fBP m Φ fs) := by
  obtain ⟨fd, h1, h2, h3, h4⟩ := h
  exact de_callP hm0 (h1.mono hj) hr hg h4 h2 h3 ha hdb he hpl
theorem de_fnPK (K' : PySem.W.Frag) (hm0 : m = .fz ∨ m = .fr) (h : Ok X.prog X.w K' X.mg X.base j x ps m Φ) (hr : Room k X.A) (hj : j ≤ k) (hg : Gl X x) (ha : DA X .pk (e :: es) t fs) (hdb : (x == ("__debug__" : Str)) = false := by decide) (he : starEach (e :: es) X.env = (false, eval e X.env) :: starEach es X.env := by rfl) (hpl : (backTo pos (starEach es X.env)).any (·.1) = false := by rfl) (hK : X.K = K' := by rfl) : DE X m (.Call (.Name x p) (e :: es) [] pos) (tCall (spM K' m Φ) [] E0 t) (fBP m Φ fs) := by
  subst hK
  exact de_fnP (hm0 := hm0) (h := h) (hr := hr) (hj := hj) (hg := hg) (ha := ha) (hdb := hdb) (he := he) (hpl := hpl)
end
end Q
end

/-! part: Q13 -/
section
set_option Elab.async false
set_option linter.all false
set_option maxRecDepth 100000
set_option maxHeartbeats 4000000
set_option autoImplicit false
namespace Q
open PySem PySem.Spec PySem.Calls PyProof.Rows L2
/-! ### the denotations unfolded, for simp -/
section
variable {ρ : Rho} {i j l n : Nat} {f g fa fb fc : Rho → Option D} {ft fu fw : Rho → Option Bool} {fs : Rho → Option (List D)} {g2 h2 : D → D → Option D} {g1 : D → Option D} {gl : List D → Option D} {gi : List D → Option (List D)} {a b : Bd} {d e : D} {ds es : List D}
def imD : Option Sl → Option D
  | some (.im d) => some d
  | _ => none
def anD : Option Sl → Option D
  | some (.im d) => some d
  | some (.ow d) => some d
  | _ => none
def owL : Option Sl → Option (List D)
  | some (.ow (.list ds)) => some ds
  | _ => none
@[simp] theorem imD_im : imD (some (.im d)) = some d := rfl
@[simp] theorem anD_im : anD (some (.im d)) = some d := rfl
@[simp] theorem anD_ow : anD (some (.ow d)) = some d := rfl
@[simp] theorem owL_ow : owL (some (.ow (.list ds))) = some ds := rfl
@[simp] theorem vF_e : vF i ρ = imD ρ[i]? := by unfold vF; split <;> simp_all [imD]
@[simp] theorem vP_e : vP i ρ = anD ρ[i]? := by unfold vP; split <;> simp_all [anD]
def owD : Option Sl → Option D
  | some (.ow d) => some d
  | _ => none
@[simp] theorem owD_ow : owD (some (.ow d)) = some d := rfl
@[simp] theorem vO_e : vO i ρ = owD ρ[i]? := by unfold vO; split <;> simp_all [owD]
@[simp] theorem cD_e : cD d ρ = some d := rfl
@[simp] theorem f2_e : f2 g2 fa fb ρ = (fa ρ).bind fun x => (fb ρ).bind fun y => g2 x y := rfl
@[simp] theorem f1_e : f1 g1 fa ρ = (fa ρ).bind g1 := rfl
@[simp] theorem fB_e : fB gl fs ρ = (fs ρ).bind gl := rfl
@[simp] theorem fT_e : fT f ρ = (f ρ).bind boolD := rfl
@[simp] theorem boolD_e {k : Bool} : boolD (.bool k) = some k := rfl
@[simp] theorem fTr_e : fTr f ρ = (f ρ).bind truD := rfl
@[simp] theorem fNotT_e : fNotT ft ρ = (ft ρ).map not := rfl
@[simp] theorem fAndT_e : fAndT ft fu ρ = (ft ρ).bind fun b => if b = true then fu ρ else some false := rfl
@[simp] theorem fOrT_e : fOrT ft fu ρ = (ft ρ).bind fun b => if b = true then some true else fu ρ := rfl
@[simp] theorem fIfT_e : fIfT ft fu fw ρ = (ft ρ).bind fun b => if b = true then fu ρ else fw ρ := rfl
@[simp] theorem fNot_e : fNot f ρ = ((f ρ).bind truD).map fun b => .bool (!b) := rfl
@[simp] theorem fAnd_e : fAnd f g ρ = (f ρ).bind fun d => (truD d).bind fun b => if b = true then g ρ else some d := rfl
@[simp] theorem fOr_e : fOr f g ρ = (f ρ).bind fun d => (truD d).bind fun b => if b = true then some d else g ρ := rfl
@[simp] theorem fIf_e : fIf ft f g ρ = (ft ρ).bind fun b => if b = true then f ρ else g ρ := rfl
@[simp] theorem aNil_e : aNil ρ = some [] := rfl
@[simp] theorem aCons_e : aCons f fs ρ = (f ρ).bind fun d => (fs ρ).bind fun ds => some (d :: ds) := rfl
@[simp] theorem aStar_e : aStar f fs ρ = (f ρ).bind fun d => (itemsD d).bind fun ds => (fs ρ).bind fun es => some (ds ++ es) := rfl
@[simp] theorem fTup_e : fTup fs ρ = (fs ρ).map .tuple := rfl
@[simp] theorem fLst_e : fLst fs ρ = (fs ρ).map .list := rfl
@[simp] theorem fTupS_e : fTupS fs ρ = (fs ρ).bind fun ds => if ds.length ≤ sizeLine then some (.tuple ds) else none := rfl
@[simp] theorem fLstS_e : fLstS fs ρ = (fs ρ).bind fun ds => if ds.length ≤ sizeLine then some (.list ds) else none := rfl
@[simp] theorem fI_e : fI f ρ = (f ρ).bind walkD := rfl
@[simp] theorem fIs_e : fIs gi fs ρ = (fs ρ).bind gi := rfl
@[simp] theorem fRev_e : fRev f ρ = (f ρ).bind revD := rfl
@[simp] theorem fEnum_e : fEnum f ρ = (f ρ).bind enumD := rfl
def chB (z : D) (k : Option D) : Option D := match z with
  | .bool true => k
  | .bool false => some (.bool false)
  | _ => none
@[simp] theorem chB_b {c : Bool} {k : Option D} : chB (.bool c) k = if c = true then k else some (.bool false) := by cases c <;> rfl
@[simp] theorem f3_e : f3 g2 h2 fa fb fc ρ = (fa ρ).bind fun x => (fb ρ).bind fun y => (g2 x y).bind fun z => chB z ((fc ρ).bind fun w => h2 y w) := by
  unfold f3
  rfl
def isiD (b : String) (d : D) : Option D := match d with
  | .dict _ => none
  | d => some (.bool (isiN (tyName d) b))
def isiD2 (b c : String) (d : D) : Option D := match d with
  | .dict _ => none
  | d => some (.bool (isiN (tyName d) b || isiN (tyName d) c))
@[simp] theorem isiD_i {b : String} {k : Int} : isiD b (.int k) = some (.bool (isiN "int" b)) := rfl
@[simp] theorem isiD_b {b : String} {k : Bool} : isiD b (.bool k) = some (.bool (isiN "bool" b)) := rfl
@[simp] theorem isiD_n {b : String} : isiD b .none = some (.bool (isiN "NoneType" b)) := rfl
@[simp] theorem isiD_s {b : String} {z : Str} : isiD b (.str z) = some (.bool (isiN "str" b)) := rfl
@[simp] theorem isiD_l {b : String} : isiD b (.list ds) = some (.bool (isiN "list" b)) := rfl
@[simp] theorem isiD_t {b : String} : isiD b (.tuple ds) = some (.bool (isiN "tuple" b)) := rfl
@[simp] theorem isiD2_i {b c : String} {k : Int} : isiD2 b c (.int k) = some (.bool (isiN "int" b || isiN "int" c)) := rfl
@[simp] theorem isiD2_b {b c : String} {k : Bool} : isiD2 b c (.bool k) = some (.bool (isiN "bool" b || isiN "bool" c)) := rfl
@[simp] theorem isiD2_n {b c : String} : isiD2 b c .none = some (.bool (isiN "NoneType" b || isiN "NoneType" c)) := rfl
@[simp] theorem isiD2_s {b c : String} {z : Str} : isiD2 b c (.str z) = some (.bool (isiN "str" b || isiN "str" c)) := rfl
@[simp] theorem isiD2_l {b c : String} : isiD2 b c (.list ds) = some (.bool (isiN "list" b || isiN "list" c)) := rfl
@[simp] theorem isiD2_t {b c : String} : isiD2 b c (.tuple ds) = some (.bool (isiN "tuple" b || isiN "tuple" c)) := rfl
@[simp] theorem isiN_e {b c : String} : isiN b c = (b == c || (b == "bool" && c == "int")) := rfl
@[simp] theorem fIsi_e {b : String} : fIsi b f ρ = (f ρ).bind (isiD b) := rfl
@[simp] theorem fIsi2_e {b c : String} : fIsi2 b c f ρ = (f ρ).bind (isiD2 b c) := rfl
@[simp] theorem fYes_e : fYes ρ = some true := rfl
@[simp] theorem oNo_e : oNo ρ = some none := rfl
def intO : D → Option (Option Int)
  | .int i => some (some i)
  | _ => none
@[simp] theorem intO_i {k : Int} : intO (.int k) = some (some k) := rfl
@[simp] theorem oIs_e : oIs f ρ = (f ρ).bind intO := by unfold oIs; congr; try (funext d; cases d <;> rfl)
@[simp] theorem fSl_e {fl fh : Rho → Option (Option Int)} : fSl f fl fh ρ = (f ρ).bind fun d => (fl ρ).bind fun l => (fh ρ).bind fun h => cutD d l h := rfl
@[simp] theorem fLr1_e : fLr1 f ρ = (f ρ).bind fun d => match d with
  | .int n => if -(2 ^ 62) ≤ n ∧ n ≤ 16777216 then some (.list (rgD 0 n.toNat)) else none
  | _ => none := rfl
@[simp] theorem fLenSet_e : fLenSet f ρ = (f ρ).bind fun d => (itemsD d).bind fun ds => (intsOf ds).bind fun ns => if ns.length ≤ 4000 then some (.int ((dedupI ns).length : Nat)) else none := rfl
def outB : Out → Option D
  | .rt d => some d
  | .nx _ => some .none
  | _ => none
@[simp] theorem outB_r : outB (.rt d) = some d := rfl
@[simp] theorem outB_n : outB (.nx ρ) = some .none := rfl
def outR : Out → Option D
  | .rt d => some d
  | _ => none
@[simp] theorem outR_r : outR (.rt d) = some d := rfl
@[simp] theorem fnB_e {p : Nat} : fnB n p b ds = if ds.length = p then (b (ds.map .im ++ List.replicate (n - ds.length) .un)).bind outB else none := by
  unfold fnB runB
  rfl
@[simp] theorem fnR_e {p : Nat} : fnR n p b ds = if ds.length = p then (b (ds.map .im ++ List.replicate (n - ds.length) .un)).bind outR else none := by
  unfold fnR runR
  rfl
/-! statements -/
def seqO (b : Bd) : Out → Option Out
  | .nx ρ => b ρ
  | o => some o
@[simp] theorem seqO_n : seqO b (.nx ρ) = b ρ := rfl
@[simp] theorem seqO_b : seqO b (.bk ρ) = some (.bk ρ) := rfl
@[simp] theorem seqO_c : seqO b (.ct ρ) = some (.ct ρ) := rfl
@[simp] theorem seqO_r : seqO b (.rt d) = some (.rt d) := rfl
@[simp] theorem bSeq_e : bSeq a b ρ = (a ρ).bind (seqO b) := by
  unfold bSeq
  congr
  try (funext o; cases o <;> rfl)
@[simp] theorem bNext_e : bNext ρ = some (.nx ρ) := rfl
@[simp] theorem bBreak_e : bBreak ρ = some (.bk ρ) := rfl
@[simp] theorem bCont_e : bCont ρ = some (.ct ρ) := rfl
@[simp] theorem bNever_e : bNever ρ = none := rfl
@[simp] theorem bIf_e : bIf ft a b ρ = (ft ρ).bind fun k => if k = true then a ρ else b ρ := rfl
@[simp] theorem bAsg_e : bAsg i f ρ = (f ρ).bind fun d => some (.nx (ρ.set i (.im d))) := rfl
@[simp] theorem bOwn_e : bOwn i f ρ = (f ρ).bind fun d => some (.nx (ρ.set i (.ow d))) := rfl
@[simp] theorem bRet_e : bRet f ρ = (f ρ).map .rt := rfl
@[simp] theorem bDrop_e : bDrop f ρ = (f ρ).bind fun _ => some (.nx ρ) := rfl
@[simp] theorem bPar_e : bPar i j fs ρ = (fs ρ).bind fun ds => match ds with
  | [d, e] => some (.nx ((ρ.set i (.im d)).set j (.im e)))
  | _ => none := rfl
@[simp] theorem bAsgG_e {s : D → Rho → Option Rho} : bAsgG f s ρ = (f ρ).bind fun d => (s d ρ).bind fun ρ' => some (.nx ρ') := rfl
@[simp] theorem sN_e : sN i d ρ = some (ρ.set i (.im d)) := rfl
@[simp] theorem sNil_e : sNil [] ρ = some ρ := rfl
@[simp] theorem sCons_e {s : D → Rho → Option Rho} {ss : List D → Rho → Option Rho} : sCons s ss (d :: ds) ρ = (s d ρ).bind (ss ds) := rfl
@[simp] theorem sT_e {ss : List D → Rho → Option Rho} : sT n ss (.tuple ds) ρ = if ds.length = n then ss ds ρ else none := rfl
@[simp] theorem bFor_e {s : D → Rho → Option Rho} : bFor fs s b ρ = (fs ρ).bind fun ds => forL (turnD s b) ds ρ := rfl
@[simp] theorem turnD_e {s : D → Rho → Option Rho} : turnD s b d ρ = (s d ρ).bind b := rfl
@[simp] theorem bApp_e : bApp j f ρ = (owL ρ[j]?).bind fun ds => (f ρ).bind fun d => if ds.length < sizeLine then some (.nx (ρ.set j (.ow (.list (ds ++ [d]))))) else none := by
  unfold bApp
  cases ρ[j]? with
  | none => rfl
  | some s =>
    cases s with
    | ow d => cases d <;> rfl
    | _ => rfl
end
/-! ### operations on ints -/
section
variable {i j : Int} {k c : Bool} {ds es : List D} {z y : Str}
theorem shp_int : SeqAt.shaped (.int i) = true := by with_unfolding_all rfl
theorem shp_bool : SeqAt.shaped (.bool k) = true := by with_unfolding_all rfl
theorem shp_none : SeqAt.shaped (.none) = true := by with_unfolding_all rfl
@[simp] theorem add_ii : addD (.int i) (.int j) = some (.int (i + j)) := rfl
@[simp] theorem addS_ii : addS (.int i) (.int j) = some (.int (i + j)) := rfl
@[simp] theorem sub_ii : subD (.int i) (.int j) = some (.int (i - j)) := rfl
@[simp] theorem mul_ii : mulD (.int i) (.int j) = mulI i j := rfl
@[simp] theorem mulI_r (h1 : -18446744073709551616 < j) (h2 : j < 18446744073709551616) : mulI i j = some (.int (i * j)) := if_pos (.inr ⟨by omega, by omega⟩)
theorem fdiv_ii : fdivD (.int i) (.int j) = if j ≠ 0 ∧ j.natAbs < 1073741824 then some (.int (i.fdiv j)) else none := rfl
theorem mod_ii : modD (.int i) (.int j) = if j ≠ 0 then some (.int (i.fmod j)) else none := rfl
@[simp] theorem mod_pos (h : 0 < j) : modD (.int i) (.int j) = some (.int (i % j)) := by
  rw [mod_ii, if_pos (by omega), Int.fmod_eq_emod_of_nonneg i (by omega)]
@[simp] theorem fdiv_pos (h : 0 < j) (h2 : j < 1073741824) : fdivD (.int i) (.int j) = some (.int (i / j)) := by
  rw [fdiv_ii, if_pos (by omega), Int.fdiv_eq_ediv_of_nonneg i (by omega)]
@[simp] theorem pow_ii : powD (.int i) (.int j) = if 0 ≤ j ∧ j ≤ 1000000 ∧ i.natAbs < 2 ^ 64 then some (.int (i ^ j.toNat)) else none := rfl
@[simp] theorem neg_i : negD (.int i) = some (.int (-i)) := rfl
@[simp] theorem eq_ii : eqD (.int i) (.int j) = some (.bool (i == j)) := by
  unfold eqD
  rw [if_pos ⟨shp_int, shp_int⟩]
  rfl
@[simp] theorem ne_ii : neD (.int i) (.int j) = some (.bool (!(i == j))) := by
  unfold neD
  rw [if_pos ⟨shp_int, shp_int⟩]
  rfl
@[simp] theorem eq_bb : eqD (.bool k) (.bool c) = some (.bool (k == c)) := by
  unfold eqD
  rw [if_pos ⟨shp_bool, shp_bool⟩]
  rfl
theorem ord_ii : ordOk (.int i) (.int j) = true := by with_unfolding_all rfl
@[simp] theorem lt_ii : ltD (.int i) (.int j) = some (.bool (decide (i < j))) := by
  unfold ltD
  rw [if_pos ord_ii, PySem.W.dataLt_int]
@[simp] theorem gt_ii : gtD (.int i) (.int j) = some (.bool (decide (j < i))) := by
  unfold gtD
  rw [if_pos ord_ii, PySem.W.dataLt_int]
@[simp] theorem le_ii : leD (.int i) (.int j) = some (.bool (decide (i ≤ j))) := by
  unfold leD
  rw [if_pos ord_ii, PySem.W.dataLt_int]
  congr 2
  by_cases h : i ≤ j
  · simp [h, Int.not_lt.mpr h]
  · simp [h, Int.not_le.mp h]
@[simp] theorem ge_ii : geD (.int i) (.int j) = some (.bool (decide (j ≤ i))) := by
  unfold geD
  rw [if_pos ord_ii, PySem.W.dataLt_int]
  congr 2
  by_cases h : j ≤ i
  · simp [h, Int.not_lt.mpr h]
  · simp [h, Int.not_le.mp h]
@[simp] theorem isN_n : isND .none .none = some (.bool true) := rfl
@[simp] theorem isN_i : isND (.int i) .none = some (.bool false) := rfl
@[simp] theorem isN_b : isND (.bool k) .none = some (.bool false) := rfl
@[simp] theorem isN_t : isND (.tuple ds) .none = some (.bool false) := rfl
@[simp] theorem isN_l : isND (.list ds) .none = some (.bool false) := rfl
@[simp] theorem isN_s : isND (.str z) .none = some (.bool false) := rfl
@[simp] theorem notN_n : notND .none .none = some (.bool false) := rfl
@[simp] theorem notN_i : notND (.int i) .none = some (.bool true) := rfl
@[simp] theorem notN_t : notND (.tuple ds) .none = some (.bool true) := rfl
@[simp] theorem notN_l : notND (.list ds) .none = some (.bool true) := rfl
@[simp] theorem int_i : intD [.int i] = some (.int i) := rfl
@[simp] theorem len_l : lenD [.list ds] = some (.int ds.length) := rfl
@[simp] theorem len_t : lenD [.tuple ds] = some (.int ds.length) := rfl
@[simp] theorem tup_l : tupD [.list ds] = some (.tuple ds) := rfl
@[simp] theorem tup_t : tupD [.tuple ds] = some (.tuple ds) := rfl
@[simp] theorem lst_l : lstD [.list ds] = some (.list ds) := rfl
@[simp] theorem lst_t : lstD [.tuple ds] = some (.list ds) := rfl
@[simp] theorem items_l : itemsD (.list ds) = some ds := rfl
@[simp] theorem items_t : itemsD (.tuple ds) = some ds := rfl
@[simp] theorem walk_l : walkD (.list ds) = some ds := rfl
@[simp] theorem walk_t : walkD (.tuple ds) = some ds := rfl
@[simp] theorem ix_l : ixD (.list ds) (.int i) = atI ds i := rfl
@[simp] theorem ix_t : ixD (.tuple ds) (.int i) = atI ds i := rfl
@[simp] theorem tru_n : truD .none = some false := rfl
@[simp] theorem tru_b : truD (.bool k) = some k := rfl
@[simp] theorem tru_i : truD (.int i) = some (i != 0) := rfl
@[simp] theorem tru_l : truD (.list ds) = some (!ds.isEmpty) := rfl
@[simp] theorem tru_t : truD (.tuple ds) = some (!ds.isEmpty) := rfl
@[simp] theorem cut_l {o p : Option Int} : cutD (.list ds) o p = some (.list (cutL ds o p)) := rfl
@[simp] theorem cut_t {o p : Option Int} : cutD (.tuple ds) o p = some (.tuple (cutL ds o p)) := rfl
@[simp] theorem add_tt : addD (.tuple ds) (.tuple es) = if ds.length + es.length ≤ sizeLine then some (.tuple (ds ++ es)) else none := rfl
@[simp] theorem add_ll : addD (.list ds) (.list es) = if ds.length + es.length ≤ sizeLine then some (.list (ds ++ es)) else none := rfl
@[simp] theorem intsOf_m (ns : List Int) : intsOf (ns.map .int) = some ns := intsOf_ints ns
@[simp] theorem blsOf_f {α : Type} (p : α → Bool) (xs : List α) : blsOf (xs.map fun x => .bool (p x)) = some (xs.map p) := by
  rw [← blsOf_bls (xs.map p), List.map_map]
  rfl
@[simp] theorem intsOf_f {α : Type} (p : α → Int) (xs : List α) : intsOf (xs.map fun x => .int (p x)) = some (xs.map p) := by
  rw [← intsOf_ints (xs.map p), List.map_map]
  rfl
@[simp] theorem all_l : allD [.list ds] = (blsOf ds).map fun bs => .bool (bs.all id) := rfl
@[simp] theorem any_l : anyD [.list ds] = (blsOf ds).map fun bs => .bool (bs.any id) := rfl
@[simp] theorem sum_l (ns : List Int) : sumD [.list (ns.map .int)] = some (.int ns.sum) := by
  simp only [sumD, items_l, Option.bind_some, intsOf_ints, Option.map_some]
@[simp] theorem sum_t (ns : List Int) : sumD [.tuple (ns.map .int)] = some (.int ns.sum) := by
  simp only [sumD, items_t, Option.bind_some, intsOf_ints, Option.map_some]
@[simp] theorem blsOf_m (ns : List Bool) : blsOf (ns.map .bool) = some ns := blsOf_bls ns
theorem atI_nat {ds : List D} {n : Nat} (h : n < ds.length) : atI ds (n : Int) = some ds[n] := by
  unfold atI ixN
  rw [if_pos (by omega)]
  simp [h]
theorem atI_lit {ds : List D} {i : Int} (h0 : 0 ≤ i) (h : i < ds.length) : atI ds i = ds[i.toNat]? := by
  unfold atI ixN
  rw [if_pos h0]
  simp [h]
end
/-! ### places of int rows -/
theorem at_n (ns : List Int) {k : Nat} (h : k < ns.length) : atI (ns.map PyData.int) (k : Int) = some (.int (ns.getD k 0)) := by
  rw [atI_nat (by simpa using h)]
  simp [h]
theorem at_i (ns : List Int) {i : Int} (h0 : 0 ≤ i) (h : i < ns.length) : atI (ns.map PyData.int) i = some (.int (ns.getD i.toNat 0)) := by
  have := at_n ns (k := i.toNat) (by omega)
  rwa [Int.toNat_of_nonneg h0] at this
theorem at_last (ns : List Int) (h : ns ≠ []) : atI (ns.map PyData.int) (-1) = some (.int (ns.getLastD 0)) := by
  have hl : 0 < ns.length := List.length_pos_iff.mpr h
  unfold atI ixN
  rw [if_neg (by omega), List.length_map, if_pos (by omega), Option.bind_some]
  have e : (-1 + (ns.length : Int)).toNat = ns.length - 1 := by omega
  rw [e, List.getElem?_map, List.getElem?_eq_getElem (by omega), Option.map_some]
  congr 2
  rw [List.getLastD_eq_getLast?, List.getLast?_eq_getElem?, List.getElem?_eq_getElem (by omega)]
  rfl
theorem cut_to (ns : List Int) {i : Int} (h0 : 0 ≤ i) : cutL (ns.map PyData.int) none (some i) = (ns.take i.toNat).map .int := by
  unfold cutL HT.sIx
  simp only [List.length_map, if_neg (Int.not_lt.mpr h0), List.drop_zero, Nat.sub_zero, ← List.map_take]
  congr 1
  rw [List.take_eq_take_iff]
  omega
theorem cut_from (ns : List Int) {i : Int} (h0 : 0 ≤ i) : cutL (ns.map PyData.int) (some i) none = (ns.drop i.toNat).map .int := by
  unfold cutL HT.sIx
  simp only [List.length_map, if_neg (Int.not_lt.mpr h0), ← List.map_drop]
  by_cases h : i.toNat ≤ ns.length
  · rw [Nat.min_eq_left h, List.take_of_length_le (by simp)]
  · rw [Nat.min_eq_right (by omega)]
    simp [List.drop_eq_nil_of_le (by omega : ns.length ≤ i.toNat)]
theorem line_ge : 100000 ≤ sizeLine := by rw [sizeLine_eq]; decide
/-! ### pops -/
theorem erase_m {α β : Type} (f : α → β) : ∀ (l : List α) (k : Nat), (l.map f).eraseIdx k = (l.eraseIdx k).map f
  | [], _ => rfl
  | _ :: _, 0 => rfl
  | x :: l, k + 1 => congrArg (f x :: ·) (erase_m f l k)
theorem pop_at {ρ : Rho} {j : Nat} {f : Rho → Option D} {ns : List Int} {i : Int} (h1 : ρ[j]? = some (.ow (.list (ns.map .int)))) (h2 : f ρ = some (.int i)) (h0 : 0 ≤ i) (h : i < ns.length) (hb : ns.length ≤ 100000) :
    xPopAt j f ρ = some (.int (ns.getD i.toNat 0), ρ.set j (.ow (.list ((ns.eraseIdx i.toNat).map .int)))) := by
  unfold xPopAt
  rw [h1, h2]
  simp only [Option.bind_some]
  rw [if_pos (by omega)]
  have e : seqIndex? i (ns.map PyData.int).length = some i.toNat := by
    unfold seqIndex?
    simp only [if_neg (Int.not_lt.mpr h0), List.length_map]
    rw [if_pos (by simp; omega)]
  have hk : i.toNat < ns.length := by omega
  rw [e, Option.bind_some, List.getElem?_map, List.getElem?_eq_getElem hk]
  simp [hk, erase_m]
theorem appX_e {ρ ρ' : Rho} {j : Nat} {f : Rho → Option (D × Rho)} {ds0 ds : List D} {d : D} (h1 : f ρ = some (d, ρ')) (h2 : ρ[j]? = some (.ow (.list ds0))) (h3 : ρ'[j]? = some (.ow (.list ds))) (h : ds.length ≤ 90000) :
    bAppX j f ρ = some (.nx (ρ'.set j (.ow (.list (ds ++ [d]))))) := by
  unfold bAppX
  rw [h1]
  simp only [Option.bind_some]
  rw [h2, h3]
  simp only
  have := line_ge
  rw [if_pos (by omega)]
/-! ### while -/
def whO (c : Rho → Option Bool) (b : Bd) (n : Nat) : Out → Option Out
  | .nx ρ => whileL c b n ρ
  | .ct ρ => whileL c b n ρ
  | .bk ρ => some (.nx ρ)
  | .rt d => some (.rt d)
theorem whileL_s {c : Rho → Option Bool} {b : Bd} {n : Nat} {ρ : Rho} : whileL c b (n + 1) ρ = (c ρ).bind fun k => if k = true then (b ρ).bind (whO c b n) else some (.nx ρ) := by
  conv => lhs; unfold whileL
  congr
  try (funext k; split <;> rfl)
theorem whileL_go {c : Rho → Option Bool} {b : Bd} {n : Nat} {ρ ρ' : Rho} (h1 : c ρ = some true) (h2 : b ρ = some (.nx ρ')) : whileL c b (n + 1) ρ = whileL c b n ρ' := by
  rw [whileL_s, h1, Option.bind_some, if_pos rfl, h2]
  rfl
theorem whileL_end {c : Rho → Option Bool} {b : Bd} {n : Nat} {ρ : Rho} (h1 : c ρ = some false) : whileL c b (n + 1) ρ = some (.nx ρ) := by
  rw [whileL_s, h1, Option.bind_some, if_neg (by decide)]
/-! ### comprehensions, loops -/
def lcB (rs : List D) : Option D := if rs.length ≤ sizeLine then some (.list rs) else none
@[simp] theorem fLc_e {ρ : Rho} {f : Rho → Option (List D)} {s : D → Rho → Option Rho} {ft : Rho → Option Bool} {fe : Rho → Option D} {vs : List Nat} : fLc f s ft fe vs ρ = (f ρ).bind fun ds => (lcL (fun d => (s d (wipeR ρ vs)).bind ft) (fun d => (s d (wipeR ρ vs)).bind fe) ds).bind lcB := rfl
@[simp] theorem wipeR_n {ρ : Rho} : wipeR ρ [] = ρ := rfl
@[simp] theorem wipeR_c {ρ : Rho} {v : Nat} {vs : List Nat} : wipeR ρ (v :: vs) = (wipeR ρ vs).set v .un := rfl
theorem lcB_of {rs : List D} (h : rs.length ≤ sizeLine) : lcB rs = some (.list rs) := if_pos h
theorem lcB_small {rs : List D} (h : rs.length ≤ 100000) : lcB rs = some (.list rs) := if_pos (Nat.le_trans h line_ge)
theorem rg1_n {k : Nat} (h : k ≤ 100000) : rg1D [.int (k : Int)] = some ((List.range k).map fun i => .int (i : Nat)) := by
  rw [rg1D, if_pos (by omega), Int.toNat_natCast]
  unfold rgD
  simp
theorem rg1_i {i : Int} (h : 0 ≤ i ∧ i ≤ 100000) : rg1D [.int i] = some ((List.range i.toNat).map fun i => .int (i : Nat)) := by
  have := rg1_n (k := i.toNat) (by omega)
  rwa [Int.toNat_of_nonneg h.1] at this
theorem lr1_n {k : Nat} (h : k ≤ 100000) : rgD 0 k = (List.range k).map fun i => .int (i : Nat) := by
  unfold rgD
  simp
theorem same_filter {ns ms : List Int} (h : ns.length = ms.length) : ((List.range ns.length).filter fun k => !(ns.getD k 0 == ms.getD k 0)).isEmpty = decide (ns = ms) := by
  by_cases e : ns = ms
  · subst e
    simp
  · rw [decide_eq_false e]
    cases hb : ((List.range ns.length).filter fun k => !(ns.getD k 0 == ms.getD k 0)).isEmpty with
    | false => rfl
    | true =>
      exfalso
      apply e
      have hn := List.isEmpty_iff.mp hb
      rw [List.filter_eq_nil_iff] at hn
      apply List.ext_getElem h
      intro k h1 h2
      have := hn k (by simpa using h1)
      simp only [Bool.not_eq_true, Bool.not_eq_false'] at this
      have := eq_of_beq this
      simpa [List.getD_eq_getElem?_getD, h1, h2] using this
theorem forL_ex {α : Type} {step : D → Bd} {xs : List α} {mk : α → D} (inv : Nat → Rho → Prop) : ∀ (ρ : Rho), inv 0 ρ → (∀ (k : Nat) (ρ : Rho) (x : α), inv k ρ → xs[k]? = some x → ∃ ρ', (step (mk x) ρ = some (.nx ρ') ∨ step (mk x) ρ = some (.ct ρ')) ∧ inv (k + 1) ρ') →
    ∃ ρ', forL step (xs.map mk) ρ = some (.nx ρ') ∧ inv xs.length ρ' := by
  induction xs generalizing inv with
  | nil => intro ρ h _; exact ⟨ρ, rfl, h⟩
  | cons x xs ih =>
    intro ρ h0 h
    obtain ⟨ρ1, h1, h2⟩ := h 0 ρ x h0 rfl
    obtain ⟨ρ2, h3, h4⟩ := ih (fun k => inv (k + 1)) ρ1 h2 (fun k ρ' y hk hy => h (k + 1) ρ' y hk (by simpa using hy))
    refine ⟨ρ2, ?_, h4⟩
    rw [List.map_cons]
    unfold forL
    rcases h1 with h1 | h1 <;> rw [h1] <;> exact h3
theorem shpA_ints : ∀ (ns : List Int), PyData.canLayAll0 (ns.map .int) = true ∧ PyData.depthAll (ns.map .int) = 0
  | [] => ⟨rfl, rfl⟩
  | n :: ns => by
    obtain ⟨h1, h2⟩ := shpA_ints ns
    refine ⟨?_, ?_⟩
    · rw [List.map_cons]
      unfold PyData.canLayAll0
      rw [h1]
      rfl
    · rw [List.map_cons]
      unfold PyData.depthAll
      rw [h2]
      rfl
@[simp] theorem shp_l (ns : List Int) : SeqAt.shaped (.list (ns.map .int)) = true := by
  obtain ⟨h1, h2⟩ := shpA_ints ns
  unfold SeqAt.shaped PyData.canLay0 PyData.depth
  rw [h1, h2]
  rfl
@[simp] theorem shp_t (ns : List Int) : SeqAt.shaped (.tuple (ns.map .int)) = true := by
  obtain ⟨h1, h2⟩ := shpA_ints ns
  unfold SeqAt.shaped PyData.canLay0 PyData.depth
  rw [h1, h2]
  rfl
theorem eqvA_ints : ∀ (ns ms : List Int), PyData.eqvAll (ns.map .int) (ms.map .int) = decide (ns = ms)
  | [], [] => rfl
  | [], _ :: _ => rfl
  | _ :: _, [] => rfl
  | n :: ns, m :: ms => by
    rw [List.map_cons, List.map_cons]
    unfold PyData.eqvAll
    rw [eqvA_ints ns ms]
    have e : PyData.eqv (.int n) (.int m) = decide (n = m) := by
      unfold PyData.eqv
      by_cases h : n = m <;> simp [h]
    rw [e]
    by_cases h : n = m <;> by_cases h' : ns = ms <;> simp [h, h']
@[simp] theorem eq_ll (ns ms : List Int) : eqD (.list (ns.map .int)) (.list (ms.map .int)) = some (.bool (decide (ns = ms))) := by
  unfold eqD
  rw [if_pos ⟨shp_l ns, shp_l ms⟩, ← eqvA_ints]
  rfl
@[simp] theorem eq_tt (ns ms : List Int) : eqD (.tuple (ns.map .int)) (.tuple (ms.map .int)) = some (.bool (decide (ns = ms))) := by
  unfold eqD
  rw [if_pos ⟨shp_t ns, shp_t ms⟩, ← eqvA_ints]
  rfl
@[simp] theorem eq_l0 (ns : List Int) : eqD (.list (ns.map .int)) (.list []) = some (.bool (decide (ns = []))) := eq_ll ns []
@[simp] theorem eq_f0 {α : Type} (p : α → Int) (L : List α) : eqD (.list (L.map fun x => .int (p x))) (.list []) = some (.bool L.isEmpty) := by
  have e : (L.map fun x => PyData.int (p x)) = (L.map p).map .int := by rw [List.map_map]; rfl
  rw [e, eq_l0]
  cases L <;> simp
@[simp] theorem ne_l0 (ns : List Int) : neD (.list (ns.map .int)) (.list []) = some (.bool (!decide (ns = []))) := by
  unfold neD
  rw [if_pos ⟨shp_l ns, shp_l []⟩]
  have := eqvA_ints ns []
  show some (PyData.bool (!PyData.eqvAll (ns.map .int) ([].map .int))) = _
  rw [this]
theorem mem_ints (i : Int) (ns : List Int) : memD (.int i) (ns.map .int) = decide (i ∈ ns) := by
  unfold memD
  induction ns with
  | nil => rfl
  | cons n ns ih =>
    rw [List.map_cons, List.any_cons, ih]
    have e : PyData.eqv (.int n) (.int i) = decide (n = i) := by
      unfold PyData.eqv
      by_cases h : n = i <;> simp [h]
    rw [e]
    by_cases h : n = i
    · subst h; simp
    · have h2 : ¬ i = n := fun z => h z.symm
      simp [h, h2]
@[simp] theorem in_l (i : Int) (ns : List Int) : inD (.int i) (.list (ns.map .int)) = some (.bool (decide (i ∈ ns))) := by
  unfold inD
  rw [items_l, Option.bind_some, if_pos ⟨shp_int, shp_l ns⟩, mem_ints]
@[simp] theorem in_t (i : Int) (ns : List Int) : inD (.int i) (.tuple (ns.map .int)) = some (.bool (decide (i ∈ ns))) := by
  unfold inD
  rw [items_t, Option.bind_some, if_pos ⟨shp_int, shp_t ns⟩, mem_ints]
@[simp] theorem notIn_l (i : Int) (ns : List Int) : notInD (.int i) (.list (ns.map .int)) = some (.bool (!decide (i ∈ ns))) := by
  unfold notInD
  rw [items_l, Option.bind_some, if_pos ⟨shp_int, shp_l ns⟩, mem_ints]
@[simp] theorem notIn_t (i : Int) (ns : List Int) : notInD (.int i) (.tuple (ns.map .int)) = some (.bool (!decide (i ∈ ns))) := by
  unfold notInD
  rw [items_t, Option.bind_some, if_pos ⟨shp_int, shp_t ns⟩, mem_ints]
theorem lcL_map {tt : D → Option Bool} {te : D → Option D} {α : Type} {xs : List α} {mk : α → D} {p : α → Bool} {g : α → D} (ht : ∀ x ∈ xs, tt (mk x) = some (p x)) (he : ∀ x ∈ xs, p x = true → te (mk x) = some (g x)) :
    lcL tt te (xs.map mk) = some ((xs.filter p).map g) := by
  induction xs with
  | nil => rfl
  | cons x xs ih =>
    have ih' := ih (fun y hy => ht y (List.mem_cons_of_mem _ hy)) (fun y hy => he y (List.mem_cons_of_mem _ hy))
    rw [List.map_cons]
    unfold lcL
    rw [ht x List.mem_cons_self]
    cases hp : p x with
    | true => simp [he x List.mem_cons_self hp, ih', hp]
    | false => simp [ih', hp]
/-- a comprehension without if -/
theorem lcL_all {tt : D → Option Bool} {te : D → Option D} {α : Type} {xs : List α} {mk : α → D} {g : α → D} (ht : ∀ x ∈ xs, tt (mk x) = some true) (he : ∀ x ∈ xs, te (mk x) = some (g x)) :
    lcL tt te (xs.map mk) = some (xs.map g) := by
  have := lcL_map (p := fun _ => true) ht (fun x hx _ => he x hx)
  rw [List.filter_eq_self.mpr (fun _ _ => rfl)] at this
  exact this
/-- a for loop whose every turn goes on -/
theorem forL_fold {σ α : Type} {step : D → Bd} {xs : List α} {mk : α → D} {enc : σ → Rho} {st : σ → α → σ} (inv : Nat → σ → Prop) : ∀ (s : σ), inv 0 s → (∀ (k : Nat) (s : σ) (x : α), inv k s → xs[k]? = some x → inv (k + 1) (st s x) ∧ (step (mk x) (enc s) = some (.nx (enc (st s x))) ∨ step (mk x) (enc s) = some (.ct (enc (st s x))))) →
    forL step (xs.map mk) (enc s) = some (.nx (enc (xs.foldl st s))) ∧ inv xs.length (xs.foldl st s) := by
  induction xs generalizing inv with
  | nil => intro s h _; exact ⟨rfl, h⟩
  | cons x xs ih =>
    intro s h0 h
    obtain ⟨h1, h2⟩ := h 0 s x h0 rfl
    have := ih (fun k => inv (k + 1)) (st s x) h1 (fun k s' y hk hy => h (k + 1) s' y hk (by simpa using hy))
    refine ⟨?_, this.2⟩
    rw [List.map_cons]
    unfold forL
    rcases h2 with h2 | h2 <;> rw [h2] <;> exact this.1
end Q
end

/-! part: Q14 -/
section
set_option Elab.async false
set_option linter.all false
set_option maxRecDepth 100000
set_option maxHeartbeats 4000000
set_option autoImplicit false
namespace Q
open PySem PySem.Spec PySem.Calls PyProof.Rows L2
/-! ### the same operations, quick for the kernel -/
def ltF : D → D → Option D
  | .int a, .int b => some (.bool (decide (a < b)))
  | d, e => ltD d e
def gtF : D → D → Option D
  | .int a, .int b => some (.bool (decide (b < a)))
  | d, e => gtD d e
def leF : D → D → Option D
  | .int a, .int b => some (.bool (decide (a ≤ b)))
  | d, e => leD d e
def geF : D → D → Option D
  | .int a, .int b => some (.bool (decide (b ≤ a)))
  | d, e => geD d e
def eqF : D → D → Option D
  | .int a, .int b => some (.bool (a == b))
  | .list ds, .list [] => match intsOf ds with
    | some ns => some (.bool (decide (ns = [])))
    | none => eqD (.list ds) (.list [])
  | d, e => eqD d e
def neF : D → D → Option D
  | .int a, .int b => some (.bool (!(a == b)))
  | .list ds, .list [] => match intsOf ds with
    | some ns => some (.bool (!decide (ns = [])))
    | none => neD (.list ds) (.list [])
  | d, e => neD d e
def inF : D → D → Option D
  | .int a, .list ds => match intsOf ds with
    | some ns => some (.bool (decide (a ∈ ns)))
    | none => inD (.int a) (.list ds)
  | .int a, .tuple ds => match intsOf ds with
    | some ns => some (.bool (decide (a ∈ ns)))
    | none => inD (.int a) (.tuple ds)
  | d, e => inD d e
def notInF : D → D → Option D
  | .int a, .list ds => match intsOf ds with
    | some ns => some (.bool (!decide (a ∈ ns)))
    | none => notInD (.int a) (.list ds)
  | .int a, .tuple ds => match intsOf ds with
    | some ns => some (.bool (!decide (a ∈ ns)))
    | none => notInD (.int a) (.tuple ds)
  | d, e => notInD d e
theorem ltF_eq : ltD = ltF := by
  funext d e
  unfold ltF
  split <;> simp
theorem gtF_eq : gtD = gtF := by
  funext d e
  unfold gtF
  split <;> simp
theorem leF_eq : leD = leF := by
  funext d e
  unfold leF
  split <;> simp
theorem geF_eq : geD = geF := by
  funext d e
  unfold geF
  split <;> simp
theorem eqF_eq : eqD = eqF := by
  funext d e
  unfold eqF
  split
  · simp
  · split
    · rename_i h
      rw [intsOf_map h, eq_l0]
    · rfl
  · rfl
theorem neF_eq : neD = neF := by
  funext d e
  unfold neF
  split
  · simp
  · split
    · rename_i h
      rw [intsOf_map h, ne_l0]
    · rfl
  · rfl
theorem inF_eq : inD = inF := by
  funext d e
  unfold inF
  split
  · split
    · rename_i h
      rw [intsOf_map h, in_l]
    · rfl
  · split
    · rename_i h
      rw [intsOf_map h, in_t]
    · rfl
  · rfl
theorem notInF_eq : notInD = notInF := by
  funext d e
  unfold notInF
  split
  · split
    · rename_i h
      rw [intsOf_map h, notIn_l]
    · rfl
  · split
    · rename_i h
      rw [intsOf_map h, notIn_t]
    · rfl
  · rfl
/-! min, max of a list of ints -/
theorem bestOk_ints (xs : List Int) : bestOk (xs.map .int) = true := by
  unfold bestOk
  rw [(shpA_ints xs).2]
  simp only [Bool.and_eq_true, List.all_eq_true, List.mem_map, forall_exists_index, and_imp, forall_apply_eq_imp_iff₂]
  refine ⟨⟨fun a _ b _ => ?_, fun a _ => trivial⟩, by decide⟩
  with_unfolding_all rfl
theorem minOf_i (n : Int) (ns : List Int) : minOf ((n :: ns).map .int) = some (.int (ns.foldl min n)) := by
  have h := bestOk_ints (n :: ns)
  rw [List.map_cons] at h ⊢
  rw [minOf, if_pos h, PySem.W.minD_ints]
theorem maxOf_i (n : Int) (ns : List Int) : maxOf ((n :: ns).map .int) = some (.int (ns.foldl max n)) := by
  have h := bestOk_ints (n :: ns)
  rw [List.map_cons] at h ⊢
  rw [maxOf, if_pos h, PySem.W.maxD_ints]
def minF : List D → Option D
  | [.list ds] => match intsOf ds with
    | some (n :: ns) => some (.int (ns.foldl min n))
    | _ => minA [.list ds]
  | ds => minA ds
def maxF : List D → Option D
  | [.list ds] => match intsOf ds with
    | some (n :: ns) => some (.int (ns.foldl max n))
    | _ => maxA [.list ds]
  | ds => maxA ds
theorem minF_eq : minA = minF := by
  funext ds
  unfold minF
  split
  · split
    · rename_i h
      rw [intsOf_map h, minA, items_l, Option.bind_some, minOf_i]
    · rfl
  · rfl
theorem maxF_eq : maxA = maxF := by
  funext ds
  unfold maxF
  split
  · split
    · rename_i h
      rw [intsOf_map h, maxA, items_l, Option.bind_some, maxOf_i]
    · rfl
  · rfl
end Q
end

/-! part: Q15 -/
section
set_option Elab.async false
set_option linter.all false
set_option maxRecDepth 100000
set_option maxHeartbeats 4000000
set_option autoImplicit false
namespace Q
open PySem PySem.Spec PySem.Calls PyProof.Rows L2
/-! ### x.index(y), x.count(y): lists and tuples of data -/
section
variable {X : Cx} {pins : List (Addr × Obj)} {σ : L2.St} {H : Hp} {s : Shared}
theorem tupAt_is (I : Inv X pins σ H s) {a : Addr} {xs : List V} (h : TupAt X.K H a xs) : s.TypeIs (.ref a) "tuple" ∧ ∀ b, Value.ref a = .ref b → ∃ ob, s.heap.get? b = some ob ∧ ob.dict = none := by
  rcases h with ⟨o, h, hc, hd⟩ | ⟨o, its, n, h, hc, hd, _⟩
  · have e := (I.hok a _ h).1
    exact ⟨⟨o, e, hc⟩, fun b z => by cases z; exact ⟨o, e, hd⟩⟩
  · have e := I.kIn a o h
    exact ⟨⟨o, e, hc⟩, fun b z => by cases z; exact ⟨o, e, hd⟩⟩
theorem listAt_is (I : Inv X pins σ H s) {a : Addr} {xs : List V} (h : SqL X.K H a xs) : s.TypeIs (.ref a) "list" ∧ ∀ b, Value.ref a = .ref b → ∃ ob, s.heap.get? b = some ob ∧ ob.dict = none := by
  obtain ⟨its, _, pl, _⟩ := I.list h
  refine ⟨pl.isList.typeIs, fun b z => ?_⟩
  cases z
  obtain ⟨o, n, e, c, hd, _⟩ := pl
  exact ⟨o, e, hd⟩
/-- a method of lists or of tuples -/
def tSM (K : PySem.W.Frag) (rl rt : V → List V → Hp → VK → Prop) (to : TE) (t : TA) : TE := fun σ H Q => to σ H fun x H1 =>
  ((∃ p xs, x = V.ref p ∧ SqL K H1 p xs) ∧ t σ H1 fun ys H2 => rl x ys H2 Q) ∨ ((∃ p xs, x = V.ref p ∧ TupAt K H1 p xs) ∧ t σ H1 fun ys H2 => rt x ys H2 Q)
variable {o e : Expr} {es : List Expr} {to : TE} {t : TA} {name : Str} {apos cpos : Pos} {idl idt : String} {rl rt : V → List V → Hp → VK → Prop}
theorem pe_sm (sl : Slot "list" name idl) (hl : typeOf (.builtin idl) = pure (.type "method_descriptor")) (ml : MtR X idl rl) (st : Slot "tuple" name idt) (ht : typeOf (.builtin idt) = pure (.type "method_descriptor")) (mt : MtR X idt rt)
    (ho : PE X o to) (ha : PA X (e :: es) t) (hbase : attributeBase o name X.env (eval o X.env) = eval o X.env := by rfl)
    (hfew : ((backTo cpos (starEach (e :: es) X.env)).all (fun x => !x.1) && (backToKw cpos (keywordEach [] X.env)).all (fun x => x.1.isSome)
        && decide ((e :: es).length + ([] : List Keyword).length + (if ([] : List Keyword).isEmpty then 0 else 1) < 30)) = true := by rfl)
    (hline : (apos.endLine == cpos.line) = true := by rfl) (hs : starEach (e :: es) X.env = (false, eval e X.env) :: starEach es X.env := by rfl) (hplain : (backTo cpos (starEach es X.env)).any (·.1) = false := by rfl) :
    PE X (.Call (.Attribute o name apos) (e :: es) [] cpos) (tSM X.K rl rt to t) := by
  constructor
  intro pins s σ H Q I h
  refine wpAny_Call_method_late hbase hfew hline rfl (thn (ho.run pins s σ H _ I h) fun v s1 ⟨x, H1, I1, r1, q1⟩ => ?_)
  rcases q1 with ⟨⟨p, xs, rfl, hx⟩, q1⟩ | ⟨⟨p, xs, rfl, hx⟩, q1⟩
  · cases r1
    obtain ⟨h1, h2⟩ := listAt_is I1 hx
    refine ⟨"list", idl, PySem.F.plainAttrs_list, sl, hl, h1, h2, ?_⟩
    have hA := ha.run cpos pins s1 σ H1 _ I1 q1
    rw [hs] at hA ⊢
    exact Calls.callWith_builtin (by show (false || (backTo cpos (starEach es X.env)).any (·.1)) = false; rw [hplain] <;> rfl) (Calls.evalArgs_plain (thn hA fun us s2 ⟨vs, H2, I2, r2, q2⟩ => ml pins s2 σ H2 (V.ref p) vs _ us Q I2 rfl r2 q2))
  · cases r1
    obtain ⟨h1, h2⟩ := tupAt_is I1 hx
    refine ⟨"tuple", idt, PySem.F.plainAttrs_tuple, st, ht, h1, h2, ?_⟩
    have hA := ha.run cpos pins s1 σ H1 _ I1 q1
    rw [hs] at hA ⊢
    exact Calls.callWith_builtin (by show (false || (backTo cpos (starEach es X.env)).any (·.1)) = false; rw [hplain] <;> rfl) (Calls.evalArgs_plain (thn hA fun us s2 ⟨vs, H2, I2, r2, q2⟩ => mt pins s2 σ H2 (V.ref p) vs _ us Q I2 rfl r2 q2))
end
mutual
theorem nd_plain : ∀ d : D, d.plain = true → nd d = true
  | .none, _ => rfl
  | .bool _, _ => rfl
  | .int _, _ => rfl
  | .str _, _ => rfl
  | .list xs, h => by rw [nd]; exact nd_plainA xs (by simpa [PyData.plain] using h)
  | .tuple xs, h => by rw [nd]; exact nd_plainA xs (by simpa [PyData.plain] using h)
  | .dict _, h => by simp [PyData.plain] at h
theorem nd_plainA : ∀ ds : List D, PyData.plainAll ds = true → ndA ds = true
  | [], _ => by rw [ndA]
  | x :: xs, h => by
    rw [ndA]
    rw [PyData.plainAll, Bool.and_eq_true] at h
    rw [nd_plain x h.1, nd_plainA xs h.2]
    rfl
end
/-- what the two methods ask of the data -/
def smOk (d : D) (ds : List D) : Bool := PyData.plainAll ds && d.plain && decide (d.depth ≤ 64)
def rCntL (K : PySem.W.Frag) : V → List V → Hp → VK → Prop := fun x ys H Q => ∃ a y d ds, x = V.ref a ∧ ys = [y] ∧ Dp K H (.ref a) (.list ds) ∧ Dp K H y d ∧ smOk d ds = true ∧ Q (.int ((ds.countP fun z => PyData.eqv z d : Nat) : Int)) H
def rCntT (K : PySem.W.Frag) : V → List V → Hp → VK → Prop := fun x ys H Q => ∃ a y d ds, x = V.ref a ∧ ys = [y] ∧ Dp K H (.ref a) (.tuple ds) ∧ Dp K H y d ∧ smOk d ds = true ∧ Q (.int ((ds.countP fun z => PyData.eqv z d : Nat) : Int)) H
def rIdxL (K : PySem.W.Frag) : V → List V → Hp → VK → Prop := fun x ys H Q => ∃ a y d ds j, x = V.ref a ∧ ys = [y] ∧ Dp K H (.ref a) (.list ds) ∧ Dp K H y d ∧ smOk d ds = true ∧ SeqAt.dataPlace ds d = some j ∧ Q (.int (j : Nat)) H
def rIdxT (K : PySem.W.Frag) : V → List V → Hp → VK → Prop := fun x ys H Q => ∃ a y d ds j, x = V.ref a ∧ ys = [y] ∧ Dp K H (.ref a) (.tuple ds) ∧ Dp K H y d ∧ smOk d ds = true ∧ SeqAt.dataPlace ds d = some j ∧ Q (.int (j : Nat)) H
theorem smOk_of {d : D} {ds : List D} (h : smOk d ds = true) : PyData.plainAll ds = true ∧ d.plain = true ∧ d.depth ≤ 64 := by
  unfold smOk at h
  simp only [Bool.and_eq_true, decide_eq_true_eq] at h
  exact ⟨h.1.1, h.1.2, h.2⟩
section
variable {X : Cx}
theorem room_sm {A : Around} {d : D} {ds : List D} (h : d.depth ≤ 64) (hu : A.units + 65 < cLine) : A.units + 1 + min (PyData.depthAll ds) d.depth < cLine := by
  have : min (PyData.depthAll ds) d.depth ≤ d.depth := Nat.min_le_right _ _
  omega
theorem vals_one {y : V} {us : List Value} (h : Vals [y] us) : ∃ u, us = [u] ∧ RelV y u := by
  cases h with
  | cons r t => cases t; exact ⟨_, rfl, r⟩
theorem mt_cntL (hu : X.A.units + 65 < cLine) : MtR X "list.count" (rCntL X.K) := by
  intro pins s σ H x xs v us Q I rx rxs ⟨a, y, d, ds, e1, e2, hl, hy, ok, q⟩
  subst e1 e2
  cases rx
  obtain ⟨u, rfl, ry⟩ := vals_one rxs
  obtain ⟨h1, h2, h3⟩ := smOk_of ok
  obtain ⟨bs, rd⟩ := Dp.reads I d y u hy ry
  cases hl with
  | lst hs ha =>
    obtain ⟨its, rv, pl, hz⟩ := I.list hs
    obtain ⟨as, ra⟩ := Dp.readsAll I ds _ its ha rv
    exact SeqAt.count_list_data pl.isList (show ReadsAll s.heap its.toArray.toList ds as from ra) rd h1 h2 (room_sm h3 hu) ⟨.int ((ds.countP fun z => PyData.eqv z d : Nat) : Int), H, I.tok _, ⟨_, rfl⟩, q⟩
theorem mt_cntT (hu : X.A.units + 65 < cLine) : MtR X "tuple.count" (rCntT X.K) := by
  intro pins s σ H x xs v us Q I rx rxs ⟨a, y, d, ds, e1, e2, hl, hy, ok, q⟩
  subst e1 e2
  cases rx
  obtain ⟨u, rfl, ry⟩ := vals_one rxs
  obtain ⟨h1, h2, h3⟩ := smOk_of ok
  obtain ⟨bs, rd⟩ := Dp.reads I d y u hy ry
  cases hl with
  | tup hs ha =>
    obtain ⟨its, rv, pl, hz⟩ := I.tuple hs
    obtain ⟨as, ra⟩ := Dp.readsAll I ds _ its ha rv
    exact SeqAt.count_tuple_data pl (show ReadsAll s.heap its.toArray.toList ds as from ra) rd h1 h2 (room_sm h3 hu) ⟨.int ((ds.countP fun z => PyData.eqv z d : Nat) : Int), H, I.tok _, ⟨_, rfl⟩, q⟩
theorem mt_idxL (hu : X.A.units + 65 < cLine) : MtR X "list.index" (rIdxL X.K) := by
  intro pins s σ H x xs v us Q I rx rxs ⟨a, y, d, ds, j, e1, e2, hl, hy, ok, hj, q⟩
  subst e1 e2
  cases rx
  obtain ⟨u, rfl, ry⟩ := vals_one rxs
  obtain ⟨h1, h2, h3⟩ := smOk_of ok
  obtain ⟨bs, rd⟩ := Dp.reads I d y u hy ry
  cases hl with
  | lst hs ha =>
    obtain ⟨its, rv, ⟨⟨cls, dd, data, sl⟩, n, ho, hc, hdn, hdt⟩, hz⟩ := I.list hs
    simp only at hc hdt
    subst hc hdt
    obtain ⟨as, ra⟩ := Dp.readsAll I ds _ its ha rv
    have ra' : ReadsAll s.heap its.toArray.toList ds as := ra
    obtain ⟨k1, k2, k3⟩ := SeqAt.hit_at ra' h1 hj
    have hsz : its.toArray.size ≤ sizeLine := by rw [List.size_toArray, ← rv.length]; exact hz
    have hsl := sizeLine_eq
    exact call_meets PySem.F.slot_list_index ⟨_, ho, rfl⟩ PySem.F.entry_list_index (PySem.F.args_list_index_2 _ _) (SeqAt.list_indexAt a its.toArray n dd sl u (fun z => PyData.eqv (SeqAt.readOf s.heap z) d) j k1 (by omega) k2 k3)
      ⟨ho, SeqAt.items_plain ra' rd h1 h2 (room_sm h3 hu), ⟨.int (j : Nat), H, I.tok _, ⟨_, rfl⟩, q⟩⟩
theorem mt_idxT (hu : X.A.units + 65 < cLine) : MtR X "tuple.index" (rIdxT X.K) := by
  intro pins s σ H x xs v us Q I rx rxs ⟨a, y, d, ds, j, e1, e2, hl, hy, ok, hj, q⟩
  subst e1 e2
  cases rx
  obtain ⟨u, rfl, ry⟩ := vals_one rxs
  obtain ⟨h1, h2, h3⟩ := smOk_of ok
  obtain ⟨bs, rd⟩ := Dp.reads I d y u hy ry
  cases hl with
  | tup hs ha =>
    obtain ⟨its, rv, ⟨⟨cls, dd, data, sl⟩, ho, hc, n, hdt⟩, hz⟩ := I.tuple hs
    simp only at hc hdt
    subst hc hdt
    obtain ⟨as, ra⟩ := Dp.readsAll I ds _ its ha rv
    have ra' : ReadsAll s.heap its.toArray.toList ds as := ra
    obtain ⟨k1, k2, k3⟩ := SeqAt.hit_at ra' h1 hj
    exact call_meets PySem.F.slot_tuple_index ⟨_, ho, rfl⟩ PySem.F.entry_tuple_index (PySem.F.args_tuple_index_2 _ _) (TI.tuple_indexAt a its.toArray n dd sl u (fun z => PyData.eqv (SeqAt.readOf s.heap z) d) j k1 k2 k3)
      ⟨ho, SeqAt.items_plain ra' rd h1 h2 (room_sm h3 hu), ⟨.int (j : Nat), H, I.tok _, ⟨_, rfl⟩, q⟩⟩
end
def cntD (d e : D) : Option D := (itemsD d).bind fun ds => if smOk e ds = true then some (.int ((ds.countP fun z => PyData.eqv z e : Nat) : Int)) else none
def idxD (d e : D) : Option D := (itemsD d).bind fun ds => if smOk e ds = true then (SeqAt.dataPlace ds e).map fun j => .int (j : Nat) else none
section
variable {X : Cx} {m m1 m2 : Md} {o e : Expr} {to te : TE} {f g : Rho → Option D} {apos cpos : Pos}
theorem if_opt {α : Type} {p : Prop} [Decidable p] {x : Option α} {z : α} (h : (if p then x else none) = some z) : p ∧ x = some z := by
  by_cases hp : p
  · rw [if_pos hp] at h; exact ⟨hp, h⟩
  · rw [if_neg hp] at h; cases h
theorem sem_sm {K : PySem.W.Frag} {rl rt : V → List V → Hp → VK → Prop} {h : D → D → Option D}
    (hl : ∀ (F H : Hp) (x y : V) (ds : List D) (d z : D) (Q : VK), (∃ a, x = V.ref a ∧ Dp K H x (.list ds)) → Dp K H y d → Same F H → h (.list ds) d = some z → (∀ v F' H', Ext F H F' H' → Res K .fz H F' H' v z → Q v H') → rl x [y] H Q)
    (ht : ∀ (F H : Hp) (x y : V) (ds : List D) (d z : D) (Q : VK), (∃ a, x = V.ref a ∧ Dp K H x (.tuple ds)) → Dp K H y d → Same F H → h (.tuple ds) d = some z → (∀ v F' H', Ext F H F' H' → Res K .fz H F' H' v z → Q v H') → rt x [y] H Q)
    (hn : ∀ d e z, h d e = some z → ∃ ds, itemsD d = some ds ∧ smOk e ds = true) (ho : SemE K m1 to f) (ha : SemE K m2 te g) : SemE K .fz (tSM K rl rt to (tCons te tNil)) (f2 h f g) := by
  intro B F H σ ρ z Q r hf q
  obtain ⟨d, h1, h2⟩ := bind_some hf
  obtain ⟨e, h3, h4⟩ := bind_some h2
  obtain ⟨ds, hd, hsm⟩ := hn d e z h4
  obtain ⟨n1, n2, _⟩ := smOk_of hsm
  have n1 := nd_plainA _ n1
  have n2 := nd_plain _ n2
  refine ho B F H σ ρ d _ r h1 fun v F1 H1 x1 r1 => ?_
  cases d with
  | list ds' =>
    obtain ⟨a, xs, rfl, s1, p1⟩ := r1.list x1.s
    refine .inl ⟨⟨a, xs, rfl, s1⟩, ?_⟩
    refine ha B F1 H1 σ ρ e _ (r.ext x1) h3 fun u F2 H2 x2 r2 => ?_
    have x3 := x1.trans x2
    exact hl F2 H2 _ u ds' e z Q ⟨a, rfl, (r1.mono x2).dp x2.s (by cases hd; rw [nd]; exact n1)⟩ (r2.dp x2.s n2) x2.s h4 fun v' F' H' x' r' => q v' F' H' (x3.trans x') (r'.back (F1 := F2) (x1.h.trans x2.h))
  | tuple ds' =>
    obtain ⟨a, xs, rfl, s1, p1⟩ := r1.tup x1.s
    refine .inr ⟨⟨a, xs, rfl, s1⟩, ?_⟩
    refine ha B F1 H1 σ ρ e _ (r.ext x1) h3 fun u F2 H2 x2 r2 => ?_
    have x3 := x1.trans x2
    exact ht F2 H2 _ u ds' e z Q ⟨a, rfl, (r1.mono x2).dp x2.s (by cases hd; rw [nd]; exact n1)⟩ (r2.dp x2.s n2) x2.s h4 fun v' F' H' x' r' => q v' F' H' (x3.trans x') (r'.back (F1 := F2) (x1.h.trans x2.h))
  | _ => cases hd
theorem de_index (K' : PySem.W.Frag) (hu : X.A.units + 65 < cLine) (ho : DE X m1 o to f) (he : DE X m2 e te g) (hK : X.K = K' := by rfl) (hbase : attributeBase o "index" X.env (eval o X.env) = eval o X.env := by rfl)
    (hfew : ((backTo cpos (starEach [e] X.env)).all (fun x => !x.1) && (backToKw cpos (keywordEach [] X.env)).all (fun x => x.1.isSome)
        && decide ([e].length + ([] : List Keyword).length + (if ([] : List Keyword).isEmpty then 0 else 1) < 30)) = true := by rfl)
    (hline : (apos.endLine == cpos.line) = true := by rfl) (hs : starEach [e] X.env = (false, eval e X.env) :: starEach [] X.env := by rfl) (hplain : (backTo cpos (starEach [] X.env)).any (·.1) = false := by rfl) :
    DE X .fz (.Call (.Attribute o "index" apos) [e] [] cpos) (tSM K' (rIdxL K') (rIdxT K') to (tCons te tNil)) (f2 idxD f g) := by
  subst hK
  refine ⟨pe_sm PySem.F.slot_list_index PySem.F.type_list_index (mt_idxL hu) PySem.F.slot_tuple_index PySem.F.type_tuple_index (mt_idxT hu) ho.p (pa_cons he.p pa_nil hs) hbase hfew hline hs hplain, sem_sm (fun F H x y ds d z Q ⟨a, ex, hx⟩ hy fh hz q => ?_) (fun F H x y ds d z Q ⟨a, ex, hx⟩ hy fh hz q => ?_) (fun d e z h => ?_) ho.s he.s⟩
  · subst ex
    obtain ⟨h1, h2⟩ := if_opt (show (if smOk d ds = true then ((SeqAt.dataPlace ds d).map fun j => PyData.int (j : Nat)) else none) = some z from hz)
    obtain ⟨j, h3, rfl⟩ := Option.map_eq_some_iff.mp h2
    exact ⟨a, y, d, ds, j, rfl, rfl, hx, hy, h1, h3, q _ F H (.refl fh) (Rep.int _)⟩
  · subst ex
    obtain ⟨h1, h2⟩ := if_opt (show (if smOk d ds = true then ((SeqAt.dataPlace ds d).map fun j => PyData.int (j : Nat)) else none) = some z from hz)
    obtain ⟨j, h3, rfl⟩ := Option.map_eq_some_iff.mp h2
    exact ⟨a, y, d, ds, j, rfl, rfl, hx, hy, h1, h3, q _ F H (.refl fh) (Rep.int _)⟩
  · obtain ⟨ds, h1, h2⟩ := bind_some h
    exact ⟨ds, h1, (if_opt h2).1⟩
theorem de_count (K' : PySem.W.Frag) (hu : X.A.units + 65 < cLine) (ho : DE X m1 o to f) (he : DE X m2 e te g) (hK : X.K = K' := by rfl) (hbase : attributeBase o "count" X.env (eval o X.env) = eval o X.env := by rfl)
    (hfew : ((backTo cpos (starEach [e] X.env)).all (fun x => !x.1) && (backToKw cpos (keywordEach [] X.env)).all (fun x => x.1.isSome)
        && decide ([e].length + ([] : List Keyword).length + (if ([] : List Keyword).isEmpty then 0 else 1) < 30)) = true := by rfl)
    (hline : (apos.endLine == cpos.line) = true := by rfl) (hs : starEach [e] X.env = (false, eval e X.env) :: starEach [] X.env := by rfl) (hplain : (backTo cpos (starEach [] X.env)).any (·.1) = false := by rfl) :
    DE X .fz (.Call (.Attribute o "count" apos) [e] [] cpos) (tSM K' (rCntL K') (rCntT K') to (tCons te tNil)) (f2 cntD f g) := by
  subst hK
  refine ⟨pe_sm PySem.F.slot_list_count PySem.F.type_list_count (mt_cntL hu) PySem.F.slot_tuple_count PySem.F.type_tuple_count (mt_cntT hu) ho.p (pa_cons he.p pa_nil hs) hbase hfew hline hs hplain, sem_sm (fun F H x y ds d z Q ⟨a, ex, hx⟩ hy fh hz q => ?_) (fun F H x y ds d z Q ⟨a, ex, hx⟩ hy fh hz q => ?_) (fun d e z h => ?_) ho.s he.s⟩
  · subst ex
    obtain ⟨h1, rfl⟩ := if_some (show (if smOk d ds = true then some (PyData.int ((ds.countP fun z => PyData.eqv z d : Nat) : Int)) else none) = some z from hz)
    exact ⟨a, y, d, ds, rfl, rfl, hx, hy, h1, q _ F H (.refl fh) (Rep.int _)⟩
  · subst ex
    obtain ⟨h1, rfl⟩ := if_some (show (if smOk d ds = true then some (PyData.int ((ds.countP fun z => PyData.eqv z d : Nat) : Int)) else none) = some z from hz)
    exact ⟨a, y, d, ds, rfl, rfl, hx, hy, h1, q _ F H (.refl fh) (Rep.int _)⟩
  · obtain ⟨ds, h1, h2⟩ := bind_some h
    exact ⟨ds, h1, (if_some h2).1⟩
end
end Q
end

/-! part: Q16 -/
section
set_option Elab.async false
set_option linter.all false
set_option maxRecDepth 100000
set_option maxHeartbeats 4000000
set_option autoImplicit false
namespace Q
open PySem PySem.Spec PySem.Calls PyProof.Rows L2
/-! ### more for the plain part -/
/-- a for loop that may return: the first x at which it stops -/
theorem forL_some {α : Type} {step : D → Bd} {mk : α → D} (stop : α → Option D) : ∀ (xs : List α) (inv : Nat → Rho → Prop) (ρ : Rho), inv 0 ρ →
    (∀ (k : Nat) (ρ : Rho) (x : α), inv k ρ → xs[k]? = some x → (∀ d, stop x = some d → step (mk x) ρ = some (.rt d)) ∧ (stop x = none → ∃ ρ', step (mk x) ρ = some (.nx ρ') ∧ inv (k + 1) ρ')) →
    (∀ d, xs.findSome? stop = some d → forL step (xs.map mk) ρ = some (.rt d)) ∧ (xs.findSome? stop = none → ∃ ρ', forL step (xs.map mk) ρ = some (.nx ρ') ∧ inv xs.length ρ')
  | [], inv, ρ, h0, _ => ⟨fun d h => by simp at h, fun _ => ⟨ρ, rfl, h0⟩⟩
  | x :: xs, inv, ρ, h0, h => by
    obtain ⟨a1, a2⟩ := h 0 ρ x h0 rfl
    cases hs : stop x with
    | some d =>
      refine ⟨fun d' h' => ?_, fun h' => ?_⟩
      · rw [List.findSome?_cons, hs] at h'
        cases h'
        rw [List.map_cons]
        unfold forL
        rw [a1 d hs]
        rfl
      · rw [List.findSome?_cons, hs] at h'
        cases h'
    | none =>
      obtain ⟨ρ1, b1, b2⟩ := a2 hs
      obtain ⟨c1, c2⟩ := forL_some stop xs (fun k => inv (k + 1)) ρ1 b2 (fun k ρ' y hk hy => h (k + 1) ρ' y hk (by simpa using hy))
      refine ⟨fun d' h' => ?_, fun h' => ?_⟩
      · rw [List.findSome?_cons, hs] at h'
        rw [List.map_cons]
        unfold forL
        rw [b1]
        exact c1 d' h'
      · rw [List.findSome?_cons, hs] at h'
        rw [List.map_cons]
        unfold forL
        rw [b1]
        exact c2 h'
theorem rg2_n {lo hi : Int} (h1 : -100000 ≤ lo ∧ lo ≤ 100000) (h2 : -100000 ≤ hi ∧ hi ≤ 100000) : rg2D [.int lo, .int hi] = some ((List.range (hi - lo).toNat).map fun i => .int (lo + (i : Nat))) := by
  rw [rg2D, if_pos (by omega)]
  rfl
theorem numL_ints : ∀ (ns : List Int) (k : Nat), numL k (ns.map .int) = (List.range ns.length).map fun i => .tuple [.int ((k + i : Nat) : Int), .int (ns.getD i 0)]
  | [], _ => rfl
  | n :: ns, k => by
    rw [List.map_cons, numL, numL_ints ns (k + 1), List.length_cons, List.range_succ_eq_map, List.map_cons, List.map_map]
    congr 1
    apply List.map_congr_left
    intro i _
    simp [Nat.add_assoc, Nat.add_comm 1 i]
theorem ints_ex : ∀ (l : List D), (∀ d ∈ l, ∃ n : Int, d = .int n) → ∃ ms : List Int, l = ms.map .int
  | [], _ => ⟨[], rfl⟩
  | d :: l, h => by
    obtain ⟨n, rfl⟩ := h d List.mem_cons_self
    obtain ⟨ms, rfl⟩ := ints_ex l fun e he => h e (List.mem_cons_of_mem _ he)
    exact ⟨n :: ms, rfl⟩
theorem srtOk_ints (ns : List Int) : srtOk (ns.map .int) = true := by
  unfold srtOk
  simp only [Bool.and_eq_true, Bool.or_eq_true, List.all_eq_true, List.mem_map, forall_exists_index, and_imp, forall_apply_eq_imp_iff₂]
  refine ⟨⟨fun a _ b _ => ?_, .inr fun a _ => trivial⟩, fun a _ => ?_⟩
  · with_unfolding_all rfl
  · with_unfolding_all rfl
theorem srt_ex (ns : List Int) : ∃ ms : List Int, srt (ns.map .int) = ms.map .int ∧ ms.length = ns.length := by
  have hp : (srt (ns.map .int)).Perm (ns.map .int) := List.mergeSort_perm _ _
  obtain ⟨ms, e⟩ := ints_ex (srt (ns.map .int)) fun d hd => by
    obtain ⟨n, _, rfl⟩ := List.mem_map.mp (hp.mem_iff.mp hd)
    exact ⟨n, rfl⟩
  refine ⟨ms, e, ?_⟩
  have := hp.length_eq
  rw [e] at this
  simpa using this
theorem sorted_t (ns : List Int) : sortedD [.tuple (ns.map .int)] = some (.list (srt (ns.map .int))) := by
  rw [sortedD, items_t, Option.bind_some, if_pos (srtOk_ints ns)]
theorem sorted_l (ns : List Int) : sortedD [.list (ns.map .int)] = some (.list (srt (ns.map .int))) := by
  rw [sortedD, items_l, Option.bind_some, if_pos (srtOk_ints ns)]
/-- (2, v) < (2, w) -/
theorem lt_key (v w : Int) : ltD (.tuple [.int 2, .int v]) (.tuple [.int 2, .int w]) = some (.bool (decide (v < w))) := by
  have ok : ordOk (.tuple [.int 2, .int v]) (.tuple [.int 2, .int w]) = true := by with_unfolding_all rfl
  unfold ltD
  rw [if_pos ok, PySem.W.dataLt_tuple]
  have a1 : PySem.W.alike (.int 2) (.int 2) = true := by with_unfolding_all rfl
  have a2 : PySem.W.alike (.int v) (.int w) = true := by with_unfolding_all rfl
  rw [PySem.W.dataLt_all_yes a1 (by with_unfolding_all rfl)]
  cases he : PyData.eqv (.int v) (.int w) with
  | false => rw [PySem.W.dataLt_all_no a2 he, PySem.W.dataLt_int]
  | true =>
    rw [PySem.W.dataLt_all_yes a2 he]
    have e : v = w := by
      unfold PyData.eqv at he
      exact eq_of_beq he
    subst e
    simp only [Int.lt_irrefl, decide_false]
    with_unfolding_all rfl
theorem head_filter {α : Type} (p : α → Bool) (xs : List α) : (xs.filter p).head? = xs.find? p := List.head?_filter ..
/-- the ints sorted -/
def sI (ns : List Int) : List Int := (intsOf (srt (ns.map .int))).getD []
theorem srt_sI (ns : List Int) : srt (ns.map .int) = (sI ns).map .int := by
  obtain ⟨ms, e, _⟩ := srt_ex ns
  unfold sI
  rw [e, intsOf_ints]
  rfl
theorem sI_len (ns : List Int) : (sI ns).length = ns.length := by
  obtain ⟨ms, e, h⟩ := srt_ex ns
  unfold sI
  rw [e, intsOf_ints]
  exact h
@[simp] theorem sorted_ti (ns : List Int) : sortedD [.tuple (ns.map .int)] = some (.list ((sI ns).map .int)) := by rw [sorted_t, srt_sI]
@[simp] theorem sorted_li (ns : List Int) : sortedD [.list (ns.map .int)] = some (.list ((sI ns).map .int)) := by rw [sorted_l, srt_sI]
theorem lcL_no {tt : D → Option Bool} {te : D → Option D} : ∀ {ds : List D}, (∀ d ∈ ds, tt d = some false) → lcL tt te ds = some []
  | [], _ => rfl
  | d :: ds, h => by
    unfold lcL
    rw [h d List.mem_cons_self]
    exact lcL_no fun e he => h e (List.mem_cons_of_mem _ he)
theorem range_cut (b : Nat → Bool) (m : Nat) : ∀ n : Nat, ((List.range (m + n)).filter fun i => decide (i < m) && b i) = (List.range m).filter b
  | 0 => by
    apply List.filter_congr
    intro i hi
    have : i < m := List.mem_range.mp hi
    simp [this]
  | n + 1 => by
    rw [← Nat.add_assoc, List.range_succ, List.filter_append, range_cut b m n]
    have : ¬ (m + n < m) := by omega
    simp [this]
theorem find_guard {α β : Type} (b : α → Bool) (f : α → β) : ∀ xs : List α, (xs.findSome? fun i => if b i = true then some (f i) else none) = (xs.find? b).map f
  | [] => rfl
  | x :: xs => by
    rw [List.findSome?_cons, List.find?_cons]
    cases h : b x with
    | true => simp
    | false => simpa using find_guard b f xs
theorem find_range (b : Nat → Bool) (m n : Nat) (i : Nat) (h : (List.range m).find? b = some i) : (List.range (m + n)).find? b = some i := by
  have e : List.range (m + n) = List.range m ++ (List.range n).map (m + ·) := List.range_add ..
  rw [e, List.find?_append, h]
  rfl
@[simp] theorem isB_bb {a b : Bool} : isBD (.bool a) (.bool b) = some (.bool (a == b)) := by cases a <;> cases b <;> rfl
@[simp] theorem notB_bb {a b : Bool} : notBD (.bool a) (.bool b) = some (.bool (!(a == b))) := by cases a <;> cases b <;> rfl
@[simp] theorem ne_f0 {α : Type} (p : α → Int) (L : List α) : neD (.list (L.map fun x => .int (p x))) (.list []) = some (.bool (!L.isEmpty)) := by
  have e : (L.map fun x => PyData.int (p x)) = (L.map p).map .int := by rw [List.map_map]; rfl
  rw [e, ne_l0]
  cases L <;> simp
end Q
end

/-! part: Q17 -/
section
set_option Elab.async false
set_option linter.all false
set_option maxRecDepth 100000
set_option maxHeartbeats 4000000
set_option autoImplicit false
namespace Q
open PySem PySem.Spec PySem.Calls PyProof.Rows L2
/-! ### data that the module's names hold -/
def datA (f : Value → D → Bool) : List Value → List D → Bool
  | [], [] => true
  | u :: us, d :: ds => f u d && datA f us ds
  | _, _ => false
def datB (K : PySem.W.Frag) : Nat → Value → D → Bool
  | 0, _, _ => false
  | _ + 1, .none, .none => true
  | _ + 1, .bool b, .bool c => b == c
  | _ + 1, .int i _, .int j => decide (i = j)
  | _ + 1, .str x _, .str y => decide (x = y)
  | n + 1, .ref a, .list ds => (match K.lookup a with
    | some ⟨.type c, none, .seq its _, _⟩ => decide (c = "list") && (decide (its.size ≤ sizeLine) && datA (datB K n) its.toList ds)
    | _ => false)
  | n + 1, .ref a, .tuple ds => (match K.lookup a with
    | some ⟨.type c, none, .seq its _, _⟩ => decide (c = "tuple") && (decide (its.size ≤ sizeLine) && datA (datB K n) its.toList ds)
    | _ => false)
  | _, _, _ => false
theorem and_b {a b : Bool} (h : (a && b) = true) : a = true ∧ b = true := Bool.and_eq_true_iff.mp h
theorem datA_ok {K : PySem.W.Frag} {f : Value → D → Bool} (hf : ∀ u d, f u d = true → ∃ v, RelV v u ∧ ∀ F, Rep K F v d) : ∀ {us : List Value} {ds : List D}, datA f us ds = true → ∃ vs, Vals vs us ∧ ∀ F, RepA K F vs ds
  | [], [], _ => ⟨[], .nil, fun _ => .nil⟩
  | u :: us, d :: ds, h => by
    obtain ⟨h1, h2⟩ := and_b h
    obtain ⟨v, r, p⟩ := hf u d h1
    obtain ⟨vs, rs, ps⟩ := datA_ok hf h2
    exact ⟨v :: vs, .cons r rs, fun F => .cons (p F) (ps F)⟩
theorem datB_ok {K : PySem.W.Frag} : ∀ (n : Nat) (u : Value) (d : D), datB K n u d = true → ∃ v, RelV v u ∧ ∀ F, Rep K F v d := by
  intro n
  induction n with
  | zero => intro u d h; cases h
  | succ n ih =>
    intro u d h
    unfold datB at h
    split at h
    · rename_i e; cases e
    · exact ⟨.non, rfl, fun F => .non⟩
    · rename_i b c e; cases eq_of_beq h; exact ⟨.bl _, rfl, fun F => .bl _⟩
    · rename_i i t j e; cases of_decide_eq_true h; exact ⟨.int _, ⟨_, rfl⟩, fun F => .int _⟩
    · rename_i x t y e; cases of_decide_eq_true h; exact ⟨.str _, ⟨_, rfl⟩, fun F => .str _⟩
    · rename_i m a ds e
      cases e
      split at h
      · rename_i c its k sl q
        obtain ⟨h1, h2⟩ := and_b h
        obtain ⟨h3, h4⟩ := and_b h2
        obtain ⟨vs, rs, ps⟩ := datA_ok ih h4
        exact ⟨.ref a, rfl, fun F => .lst (.inr ⟨_, its, k, q, congrArg Value.type (of_decide_eq_true h1), rfl, rfl, of_decide_eq_true h3, rs⟩) (ps F)⟩
      · cases h
    · rename_i m a ds e
      cases e
      split at h
      · rename_i c its k sl q
        obtain ⟨h1, h2⟩ := and_b h
        obtain ⟨h3, h4⟩ := and_b h2
        obtain ⟨vs, rs, ps⟩ := datA_ok ih h4
        exact ⟨.ref a, rfl, fun F => .tup (.inr ⟨_, its, k, q, congrArg Value.type (of_decide_eq_true h1), rfl, rfl, of_decide_eq_true h3, rs⟩) (ps F)⟩
      · cases h
    · cases h
/-- what the head looks at besides the given facts -/
inductive Ck where
  | fun_ (x : Str) (id : String)
  | typ (x : Str) (id : String)
  | dat (x : Str) (d : D)
def Ck.ok (K : PySem.W.Frag) : Ck → Bool
  | .fun_ x id => decide (PySem.W.nsIn K mainGlobals x = some (some (.builtin id)))
  | .typ x id => decide (PySem.W.nsIn K mainGlobals x = some (some (.type id)))
  | .dat x d => (match PySem.W.nsIn K mainGlobals x with
    | some (some u) => datB K 9 u d
    | _ => false)
def obsQ (n : Nat) (fa : List He.Fa) (fn : List He.DefD) (ck : List Ck) (g : Addr → Option Obj) : He.AlD × Bool := (He.obsDG n fa fn g, ck.all fun c => c.ok (He.frG g (He.asD g n)))
def hookQ (n : Nat) (fa : List He.Fa) (fn : List He.DefD) (ck : List Ck) : PySem.W.Hook where
  α := He.AlD × Bool
  obs := fun s => obsQ n fa fn ck s.heap.get?
  val := fun _ => (He.valD fn, true)
  says := fun _ h => ∃ K : PySem.W.Frag, K.In h ∧ He.SaysD fa fn K ∧ (ck.all fun c => c.ok K) = true
  of := fun _ _ e => ⟨_, He.frG_in, congrArg (fun z : He.AlD × Bool => z.1) e, congrArg (fun z : He.AlD × Bool => z.2) e⟩
  keeps := fun _ _ _ ⟨K, hK, c⟩ k => ⟨K, PySem.W.Frag.In.keeps hK k, c⟩
theorem obsQ_eq {n : Nat} {fa : List He.Fa} {fn : List He.DefD} {ck : List Ck} {g : Addr → Option Obj} {s : Shared} (h : ∀ a, g a = s.heap.get? a) : obsQ n fa fn ck g = (hookQ n fa fn ck).obs s := by
  have e : g = s.heap.get? := funext h
  rw [e] <;> rfl
section
variable {K : PySem.W.Frag} {h : Heap} {mg : Str → Option Value} {ck : List Ck}
theorem ck_at (c : (ck.all fun c => c.ok K) = true) (i : Nat) {f : Ck} (e : ck[i]? = some f := by rfl) : f.ok K = true := List.all_eq_true.mp c f (List.mem_of_getElem? e)
theorem ck_fun (X : K.In h) (G : h.Ns mainGlobals mg) {x : Str} {id : String} (c : (Ck.fun_ x id).ok K = true) : mg x = some (.builtin id) := PySem.W.mg_of X G (of_decide_eq_true c)
theorem ck_typ (X : K.In h) (G : h.Ns mainGlobals mg) {x : Str} {id : String} (c : (Ck.typ x id).ok K = true) : mg x = some (.type id) := PySem.W.mg_of X G (of_decide_eq_true c)
theorem ck_dat (X : K.In h) (G : h.Ns mainGlobals mg) {x : Str} {d : D} (c : (Ck.dat x d).ok K = true) : ∃ u v, mg x = some u ∧ RelV v u ∧ ∀ F, Rep K F v d := by
  have c2 : (match PySem.W.nsIn K mainGlobals x with
    | some (some u) => datB K 9 u d
    | _ => false) = true := c
  split at c2
  · rename_i u q
    obtain ⟨v, r, p⟩ := datB_ok 9 u d c2
    exact ⟨u, v, PySem.W.mg_of X G q, r, p⟩
  · cases c2
end
section
variable {X : Cx} {m1 : Md} {e : Expr} {es : List Expr} {t : TA} {fs : Rho → Option (List D)} {x : Str} {p pos : Pos}
theorem de_globD (K' : PySem.W.Frag) {v : V} {u : Value} {d : D} (hg : Gl X x) (hm : X.mg x = some u) (hr : RelV v u) (hd : ∀ F, Rep K' F v d) (hK : X.K = K' := by rfl) (hdb : (x == ("__debug__" : Str)) = false := by decide) : DE X .fz (.Name x pos) (tC v) (cD d) := by
  subst hK
  exact ⟨pe_glob hg hm hr hdb, sem_c hd⟩
def gcdD : List D → Option D
  | [.int a, .int b] => some (.int ((Nat.gcd a.natAbs b.natAbs : Nat) : Int))
  | _ => none
theorem cs_gcd {K : PySem.W.Frag} : CallS K .fz rGcd gcdD := by
  intro F H Ha vs ds z Q fh r hz q
  match ds, r, hz with
  | [.int a, .int b], r, hz =>
    cases hz
    obtain ⟨v, w, rfl, r1, r2⟩ := resA2 r
    rw [r1.int, r2.int]
    exact ⟨a, b, rfl, q _ F H (.refl fh) (Rep.int _)⟩
theorem de_bf {id : String} {m : Md} {rc : List V → Hp → VK → Prop} {gc : List D → Option D} (hc : CallR X (.builtin id) rc) (hs : CallS X.K m rc gc) (hg : Gl X x) (hm : X.mg x = some (.builtin id)) (ha : DA X m1 (e :: es) t fs) (hdb : (x == ("__debug__" : Str)) = false := by decide)
    (he : starEach (e :: es) X.env = (false, eval e X.env) :: starEach es X.env := by rfl) (hpl : (backTo pos (starEach es X.env)).any (·.1) = false := by rfl) : DE X m (.Call (.Name x p) (e :: es) [] pos) (tCB rc t) (fB gc fs) :=
  ⟨pe_callBfun hc hg hm ha.p hdb he hpl, sem_cb hs ha.s⟩
end
end Q
end

/-! part: Q18 -/
section
set_option Elab.async false
set_option linter.all false
set_option maxRecDepth 100000
set_option maxHeartbeats 4000000
set_option autoImplicit false
namespace Q
open PySem PySem.Spec PySem.Calls PyProof.Rows L2
/-! ### codes: a type told as data -/
structure Nice {α : Type} [DecidableEq α] (n : Nat) (mk : α → D) : Prop where
  lay : ∀ a, (mk a).canLay0 = true
  dep : ∀ a, (mk a).depth ≤ n
  eqv : ∀ a b, PyData.eqv (mk a) (mk b) = decide (a = b)
/-- and their order -/
structure Ordd {α : Type} (mk : α → D) (lt : α → α → Bool) : Prop where
  alike : ∀ a b, PySem.W.alike (mk a) (mk b) = true
  lt : ∀ a b, PySem.W.dataLt (mk a) (mk b) = lt a b
  nn : ∀ a, mk a ≠ .none
section
variable {α β γ : Type} [DecidableEq α] [DecidableEq β] [DecidableEq γ] {n m k : Nat} {mk : α → D} {mk2 : β → D} {mk3 : γ → D}
theorem Nice.up (h : Nice n mk) (hm : n ≤ m) : Nice m mk := ⟨h.lay, fun a => Nat.le_trans (h.dep a) hm, h.eqv⟩
theorem nice_int : Nice 0 PyData.int := ⟨fun _ => rfl, fun _ => Nat.le_refl _, fun a b => by by_cases e : a = b <;> simp [PyData.eqv, e]⟩
theorem nice_bool : Nice 0 PyData.bool := ⟨fun _ => rfl, fun _ => Nat.le_refl _, fun a b => by cases a <;> cases b <;> rfl⟩
theorem Nice.layA (h : Nice n mk) : ∀ xs : List α, PyData.canLayAll0 (xs.map mk) = true
  | [] => rfl
  | x :: xs => by rw [List.map_cons, PyData.canLayAll0, h.lay, h.layA xs]; rfl
theorem Nice.depA (h : Nice n mk) : ∀ xs : List α, PyData.depthAll (xs.map mk) ≤ n
  | [] => Nat.zero_le _
  | x :: xs => by rw [List.map_cons, PyData.depthAll]; exact Nat.max_le.mpr ⟨h.dep x, h.depA xs⟩
theorem Nice.eqvA (h : Nice n mk) : ∀ xs ys : List α, PyData.eqvAll (xs.map mk) (ys.map mk) = decide (xs = ys)
  | [], [] => rfl
  | [], _ :: _ => rfl
  | _ :: _, [] => rfl
  | x :: xs, y :: ys => by
    rw [List.map_cons, List.map_cons, PyData.eqvAll, h.eqv, h.eqvA xs ys]
    by_cases h1 : x = y <;> by_cases h2 : xs = ys <;> simp [h1, h2]
theorem nice_tup (h : Nice n mk) : Nice (n + 1) (fun xs : List α => PyData.tuple (xs.map mk)) :=
  ⟨fun xs => by rw [PyData.canLay0]; exact h.layA xs, fun xs => by rw [PyData.depth]; have := h.depA xs; omega, fun xs ys => by rw [PyData.eqv]; exact h.eqvA xs ys⟩
theorem nice_lst (h : Nice n mk) : Nice (n + 1) (fun xs : List α => PyData.list (xs.map mk)) :=
  ⟨fun xs => by rw [PyData.canLay0]; exact h.layA xs, fun xs => by rw [PyData.depth]; have := h.depA xs; omega, fun xs ys => by rw [PyData.eqv]; exact h.eqvA xs ys⟩
theorem nice_pair (h : Nice n mk) (h2 : Nice n mk2) : Nice (n + 1) (fun p : α × β => PyData.tuple [mk p.1, mk2 p.2]) :=
  ⟨fun p => by simp [PyData.canLay0, PyData.canLayAll0, h.lay, h2.lay], fun p => by have := h.dep p.1; have := h2.dep p.2; simp only [PyData.depth, PyData.depthAll]; omega, fun p q => by
    simp only [PyData.eqv, PyData.eqvAll, h.eqv, h2.eqv, Prod.ext_iff, Bool.and_true, Bool.decide_and]⟩
theorem nice_lpair (h : Nice n mk) (h2 : Nice n mk2) : Nice (n + 1) (fun p : α × β => PyData.list [mk p.1, mk2 p.2]) :=
  ⟨fun p => by simp [PyData.canLay0, PyData.canLayAll0, h.lay, h2.lay], fun p => by have := h.dep p.1; have := h2.dep p.2; simp only [PyData.depth, PyData.depthAll]; omega, fun p q => by
    simp only [PyData.eqv, PyData.eqvAll, h.eqv, h2.eqv, Prod.ext_iff, Bool.and_true, Bool.decide_and]⟩
theorem nice_trip (h : Nice n mk) (h2 : Nice n mk2) (h3 : Nice n mk3) : Nice (n + 1) (fun p : α × β × γ => PyData.tuple [mk p.1, mk2 p.2.1, mk3 p.2.2]) :=
  ⟨fun p => by simp [PyData.canLay0, PyData.canLayAll0, h.lay, h2.lay, h3.lay], fun p => by have := h.dep p.1; have := h2.dep p.2.1; have := h3.dep p.2.2; simp only [PyData.depth, PyData.depthAll]; omega, fun p q => by
    simp only [PyData.eqv, PyData.eqvAll, h.eqv, h2.eqv, h3.eqv, Prod.ext_iff, Bool.and_true, Bool.decide_and]⟩
theorem Nice.shp (h : Nice n mk) (hn : n ≤ 64) (a : α) : SeqAt.shaped (mk a) = true := by
  have := h.dep a
  simp only [SeqAt.shaped, h.lay, Bool.true_and, decide_eq_true_eq]
  omega
theorem Nice.plain (h : Nice n mk) (a : α) : (mk a).plain = true := PyData.plain_of_canLay0 _ (h.lay a)
theorem Nice.plainA (h : Nice n mk) : ∀ xs : List α, PyData.plainAll (xs.map mk) = true
  | [] => rfl
  | x :: xs => by rw [List.map_cons, PyData.plainAll, h.plain, h.plainA xs]; rfl
theorem Nice.eq (h : Nice n mk) (hn : n ≤ 64) (a b : α) : eqD (mk a) (mk b) = some (.bool (decide (a = b))) := by
  rw [eqD, if_pos ⟨h.shp hn a, h.shp hn b⟩, h.eqv]
theorem Nice.ne (h : Nice n mk) (hn : n ≤ 64) (a b : α) : neD (mk a) (mk b) = some (.bool (!decide (a = b))) := by
  rw [neD, if_pos ⟨h.shp hn a, h.shp hn b⟩, h.eqv]
theorem Nice.mem (h : Nice n mk) (a : α) (xs : List α) : memD (mk a) (xs.map mk) = decide (a ∈ xs) := by
  unfold memD
  induction xs with
  | nil => rfl
  | cons x xs ih =>
    rw [List.map_cons, List.any_cons, ih, h.eqv]
    by_cases e : x = a
    · subst e; simp
    · have e2 : ¬ a = x := fun z => e z.symm
      simp [e, e2]
theorem Nice.in_l (h : Nice n mk) (hn : n < 64) (a : α) (xs : List α) : inD (mk a) (.list (xs.map mk)) = some (.bool (decide (a ∈ xs))) := by
  rw [inD, items_l, Option.bind_some, if_pos ⟨h.shp (by omega) a, (nice_lst h).shp (by omega) xs⟩, h.mem]
theorem Nice.in_t (h : Nice n mk) (hn : n < 64) (a : α) (xs : List α) : inD (mk a) (.tuple (xs.map mk)) = some (.bool (decide (a ∈ xs))) := by
  rw [inD, items_t, Option.bind_some, if_pos ⟨h.shp (by omega) a, (nice_tup h).shp (by omega) xs⟩, h.mem]
theorem Nice.notIn_l (h : Nice n mk) (hn : n < 64) (a : α) (xs : List α) : notInD (mk a) (.list (xs.map mk)) = some (.bool (!decide (a ∈ xs))) := by
  rw [notInD, items_l, Option.bind_some, if_pos ⟨h.shp (by omega) a, (nice_lst h).shp (by omega) xs⟩, h.mem]
theorem Nice.notIn_t (h : Nice n mk) (hn : n < 64) (a : α) (xs : List α) : notInD (mk a) (.tuple (xs.map mk)) = some (.bool (!decide (a ∈ xs))) := by
  rw [notInD, items_t, Option.bind_some, if_pos ⟨h.shp (by omega) a, (nice_tup h).shp (by omega) xs⟩, h.mem]
theorem Nice.place (h : Nice n mk) (a : α) (xs : List α) (hx : a ∈ xs) : SeqAt.dataPlace (xs.map mk) (mk a) = some (xs.idxOf a) := by
  unfold SeqAt.dataPlace
  rw [List.findIdx?_map]
  have e : ((fun y => PyData.eqv y (mk a)) ∘ mk) = fun x => x == a := by
    funext x
    show PyData.eqv (mk x) (mk a) = _
    rw [h.eqv]
    rfl
  rw [e, List.findIdx?_eq_some_iff_findIdx_eq]
  exact ⟨List.idxOf_lt_length_iff.mpr hx, rfl⟩
theorem Nice.smOk (h : Nice n mk) (hn : n ≤ 64) (a : α) (xs : List α) : Q.smOk (mk a) (xs.map mk) = true := by
  have := h.dep a
  simp only [Q.smOk, h.plainA, h.plain, Bool.and_self, Bool.true_and, decide_eq_true_eq]
  omega
theorem Nice.idx_l (h : Nice n mk) (hn : n ≤ 64) (a : α) (xs : List α) (hx : a ∈ xs) : idxD (.list (xs.map mk)) (mk a) = some (.int (xs.idxOf a : Nat)) := by
  rw [idxD, items_l, Option.bind_some, if_pos (h.smOk hn a xs), h.place a xs hx]; rfl
theorem Nice.idx_t (h : Nice n mk) (hn : n ≤ 64) (a : α) (xs : List α) (hx : a ∈ xs) : idxD (.tuple (xs.map mk)) (mk a) = some (.int (xs.idxOf a : Nat)) := by
  rw [idxD, items_t, Option.bind_some, if_pos (h.smOk hn a xs), h.place a xs hx]; rfl
theorem Nice.cntP (h : Nice n mk) (a : α) (xs : List α) : (xs.map mk).countP (fun z => PyData.eqv z (mk a)) = xs.count a := by
  rw [List.countP_map, List.count]
  congr 1
  funext x
  show PyData.eqv (mk x) (mk a) = _
  rw [h.eqv]
  rfl
theorem Nice.cnt_l (h : Nice n mk) (hn : n ≤ 64) (a : α) (xs : List α) : cntD (.list (xs.map mk)) (mk a) = some (.int (xs.count a : Nat)) := by
  rw [cntD, items_l, Option.bind_some, if_pos (h.smOk hn a xs), h.cntP]
theorem Nice.cnt_t (h : Nice n mk) (hn : n ≤ 64) (a : α) (xs : List α) : cntD (.tuple (xs.map mk)) (mk a) = some (.int (xs.count a : Nat)) := by
  rw [cntD, items_t, Option.bind_some, if_pos (h.smOk hn a xs), h.cntP]
/-! order -/
theorem ordd_int : Ordd PyData.int fun a b => decide (a < b) := ⟨fun _ _ => by simp [PySem.W.alike], PySem.W.dataLt_int, fun _ z => nomatch z⟩
variable {lt : α → α → Bool} {lt2 : β → β → Bool} {lt3 : γ → γ → Bool}
theorem ordd_pair (h : Nice n mk) (h2 : Nice m mk2) (o : Ordd mk lt) (o2 : Ordd mk2 lt2) (irr : ∀ a, lt2 a a = false) : Ordd (fun p : α × β => PyData.tuple [mk p.1, mk2 p.2]) (fun p q => if p.1 = q.1 then lt2 p.2 q.2 else lt p.1 q.1) :=
  ⟨fun p q => by simp [PySem.W.alike, PySem.W.alikeAll, o.alike, o2.alike], fun p q => by
    rw [PySem.W.dataLt_pair (o.alike _ _) (o2.alike _ _), h.eqv, h2.eqv, o.lt, o2.lt]
    by_cases e : p.1 = q.1
    · by_cases e2 : p.2 = q.2
      · simp [e, e2, irr]
      · simp [e, e2]
    · simp [e], fun _ z => nomatch z⟩
theorem ordd_rows : Ordd (fun xs : List Int => PyData.tuple (xs.map .int)) (fun a b => decide (a < b)) := ⟨fun xs ys => by
    have : ∀ (xs ys : List Int), PySem.W.alikeAll (xs.map .int) (ys.map .int) = true := by
      intro xs
      induction xs with
      | nil => intro ys; simp [PySem.W.alikeAll]
      | cons x xs ih =>
        intro ys
        cases ys with
        | nil => simp [PySem.W.alikeAll]
        | cons y ys => simp [PySem.W.alikeAll, PySem.W.alike, ih]
    rw [PySem.W.alike]
    exact this xs ys, fun xs ys => by rw [PySem.W.dataLt_tuple]; exact PySem.W.dataLt_ints xs ys, fun _ z => nomatch z⟩
theorem bestOk_nice (h : Nice n mk) (hn : n ≤ 64) (o : Ordd mk lt) (xs : List α) : bestOk (xs.map mk) = true := by
  have := h.depA xs
  simp only [bestOk, Bool.and_eq_true, List.all_eq_true, List.mem_map, decide_eq_true_eq]
  refine ⟨⟨?_, ?_⟩, by omega⟩
  · rintro _ ⟨a, _, rfl⟩ _ ⟨b, _, rfl⟩
    exact o.alike a b
  · rintro _ ⟨a, _, rfl⟩
    have := o.nn a
    split
    · rename_i e; exact absurd e this
    · rfl
/-- the first of the least -/
def leastBy (lt : α → α → Bool) (x : α) (xs : List α) : α := xs.foldl (fun a y => if lt y a then y else a) x
/-- the first of the greatest -/
def mostBy (lt : α → α → Bool) (x : α) (xs : List α) : α := xs.foldl (fun a y => if lt a y then y else a) x
theorem minD_nice (o : Ordd mk lt) : ∀ (xs : List α) (x : α), PySem.W.minD (mk x) (xs.map mk) = mk (leastBy lt x xs)
  | [], _ => rfl
  | y :: xs, x => by
    have ih := minD_nice o xs (if lt y x then y else x)
    unfold PySem.W.minD leastBy at ih ⊢
    rw [List.map_cons, List.foldl_cons, List.foldl_cons, o.lt]
    rw [← ih]
    cases lt y x <;> rfl
theorem maxD_nice (o : Ordd mk lt) : ∀ (xs : List α) (x : α), PySem.W.maxD (mk x) (xs.map mk) = mk (mostBy lt x xs)
  | [], _ => rfl
  | y :: xs, x => by
    have ih := maxD_nice o xs (if lt x y then y else x)
    unfold PySem.W.maxD mostBy at ih ⊢
    rw [List.map_cons, List.foldl_cons, List.foldl_cons, o.lt]
    rw [← ih]
    cases lt x y <;> rfl
theorem minOf_nice (h : Nice n mk) (hn : n ≤ 64) (o : Ordd mk lt) (x : α) (xs : List α) : minOf ((x :: xs).map mk) = some (mk (leastBy lt x xs)) := by
  have := bestOk_nice h hn o (x :: xs)
  rw [List.map_cons] at this ⊢
  rw [minOf, if_pos this, minD_nice o]
theorem maxOf_nice (h : Nice n mk) (hn : n ≤ 64) (o : Ordd mk lt) (x : α) (xs : List α) : maxOf ((x :: xs).map mk) = some (mk (mostBy lt x xs)) := by
  have := bestOk_nice h hn o (x :: xs)
  rw [List.map_cons] at this ⊢
  rw [maxOf, if_pos this, maxD_nice o]
theorem leastBy_mem : ∀ (xs : List α) (x : α), leastBy lt x xs ∈ x :: xs
  | [], x => List.mem_cons_self
  | y :: xs, x => by
    unfold leastBy
    rw [List.foldl_cons]
    have := leastBy_mem xs (if lt y x then y else x)
    unfold leastBy at this
    rcases List.mem_cons.mp this with e | e
    · rw [e]
      split <;> simp
    · exact List.mem_cons_of_mem _ (List.mem_cons_of_mem _ e)
theorem mostBy_mem : ∀ (xs : List α) (x : α), mostBy lt x xs ∈ x :: xs
  | [], x => List.mem_cons_self
  | y :: xs, x => by
    unfold mostBy
    rw [List.foldl_cons]
    have := mostBy_mem xs (if lt x y then y else x)
    unfold mostBy at this
    rcases List.mem_cons.mp this with e | e
    · rw [e]
      split <;> simp
    · exact List.mem_cons_of_mem _ (List.mem_cons_of_mem _ e)
/-- the one least -/
theorem leastBy_eq {z : α} : ∀ (xs : List α) (x : α), z ∈ x :: xs → (∀ y ∈ x :: xs, y ≠ z → lt z y = true) → (∀ y ∈ x :: xs, lt y z = false) → leastBy lt x xs = z
  | [], x, h, _, _ => by
    rcases List.mem_cons.mp h with rfl | h
    · rfl
    · cases h
  | y :: xs, x, h, h1, h2 => by
    unfold leastBy
    rw [List.foldl_cons]
    refine leastBy_eq xs _ ?_ ?_ ?_
    · by_cases e : x = z
      · subst e
        rw [h2 y (by simp)]
        simp
      · by_cases e2 : y = z
        · subst e2
          rw [h1 x (by simp) e]
          simp
        · rcases List.mem_cons.mp h with rfl | h
          · exact absurd rfl e
          · rcases List.mem_cons.mp h with rfl | h
            · exact absurd rfl e2
            · exact List.mem_cons_of_mem _ h
    · intro w hw hn
      rcases List.mem_cons.mp hw with rfl | hw
      · cases c : lt y x
        · simp only [c, Bool.false_eq_true, if_false] at hn ⊢
          exact h1 _ (by simp) hn
        · simp only [c, if_true] at hn ⊢
          exact h1 _ (by simp) hn
      · exact h1 w (by simp [hw]) hn
    · intro w hw
      rcases List.mem_cons.mp hw with rfl | hw
      · split
        · exact h2 _ (by simp)
        · exact h2 _ (by simp)
      · exact h2 w (by simp [hw])
theorem mostBy_least (x : α) (xs : List α) : mostBy lt x xs = leastBy (fun a b => lt b a) x xs := rfl
theorem mostBy_eq {z : α} (xs : List α) (x : α) (h : z ∈ x :: xs) (h1 : ∀ y ∈ x :: xs, y ≠ z → lt y z = true) (h2 : ∀ y ∈ x :: xs, lt z y = false) : mostBy lt x xs = z := by
  rw [mostBy_least]
  exact leastBy_eq xs x h h1 h2
/-! sorted -/
end
end Q
namespace Q
open PySem PySem.Spec PySem.Calls PyProof.Rows L2
section
variable {α : Type} {mk : α → D}
theorem at_mk (xs : List α) {k : Nat} (d : α) (h : k < xs.length) : atI (xs.map mk) (k : Int) = some (mk (xs.getD k d)) := by
  rw [atI_nat (by simpa using h)]
  simp [h]
theorem numL_mk (d : α) : ∀ (xs : List α) (k : Nat), numL k (xs.map mk) = (List.range xs.length).map fun i => .tuple [.int ((k + i : Nat) : Int), mk (xs.getD i d)]
  | [], _ => rfl
  | x :: xs, k => by
    rw [List.map_cons, numL, numL_mk d xs (k + 1), List.length_cons, List.range_succ_eq_map, List.map_cons, List.map_map]
    congr 1
    apply List.map_congr_left
    intro i _
    simp [Nat.add_assoc, Nat.add_comm 1 i]
theorem enum_mk (d : α) (xs : List α) (x : D) (h : x = .list (xs.map mk) ∨ x = .tuple (xs.map mk)) : enumD x = some ((List.range xs.length).map fun (i : Nat) => .tuple [.int (i : Int), mk (xs.getD i d)]) := by
  rcases h with rfl | rfl
  · rw [enumD, items_l, Option.map_some, numL_mk d]
    simp
  · rw [enumD, items_t, Option.map_some, numL_mk d]
    simp
end
/-! trees of tuples -/
def tame : Nat → D → Bool
  | n + 1, .tuple ds => decide (ds.length ≤ 1000) && ds.all (tame n)
  | _ + 1, .int _ => true
  | _ + 1, .bool _ => true
  | _ + 1, .str x => PyData.canLay0 (.str x)
  | _ + 1, .none => true
  | _, _ => false
/-- tuples turned into lists -/
def lstd : Nat → D → D
  | n + 1, .tuple ds => .list (ds.map (lstd n))
  | _, d => d
theorem tame_t {n : Nat} {ds : List D} (h : tame (n + 1) (.tuple ds) = true) : ds.length ≤ 1000 ∧ ∀ d ∈ ds, tame n d = true := by
  simpa [tame] using h
theorem eq_str {x : Str} (h : PyData.canLay0 (.str x) = true) : eqD (.str x) (.str x) = some (.bool true) := by
  have e : SeqAt.shaped (.str x) = true := by simp [SeqAt.shaped, h, PyData.depth]
  rw [eqD, if_pos ⟨e, e⟩]
  simp [PyData.eqv]
/-! a loop, by what is done so far -/
theorem forL_pre {α : Type} {step : D → Bd} {mk : α → D} {all : List α} (inv : List α → Rho → Prop) : ∀ (xs pre : List α) (ρ : Rho), all = pre ++ xs → inv pre ρ →
    (∀ (pre post : List α) (ρ : Rho) (x : α), inv pre ρ → all = pre ++ x :: post → ∃ ρ', (step (mk x) ρ = some (.nx ρ') ∨ step (mk x) ρ = some (.ct ρ')) ∧ inv (pre ++ [x]) ρ') →
    ∃ ρ', forL step (xs.map mk) ρ = some (.nx ρ') ∧ inv all ρ'
  | [], pre, ρ, e, h0, h => ⟨ρ, rfl, by rw [e, List.append_nil]; exact h0⟩
  | x :: xs, pre, ρ, e, h0, h => by
    obtain ⟨ρ1, h1, h2⟩ := h pre xs ρ x h0 e
    obtain ⟨ρ2, h3, h4⟩ := forL_pre inv xs (pre ++ [x]) ρ1 (by rw [e]; simp) h2 h
    refine ⟨ρ2, ?_, h4⟩
    rw [List.map_cons]
    unfold forL
    rcases h1 with h1 | h1 <;> rw [h1] <;> exact h3
theorem forL_all {α : Type} {step : D → Bd} {mk : α → D} {xs : List α} (inv : List α → Rho → Prop) (ρ : Rho) (h0 : inv [] ρ)
    (h : ∀ (pre post : List α) (ρ : Rho) (x : α), inv pre ρ → xs = pre ++ x :: post → ∃ ρ', (step (mk x) ρ = some (.nx ρ') ∨ step (mk x) ρ = some (.ct ρ')) ∧ inv (pre ++ [x]) ρ') :
    ∃ ρ', forL step (xs.map mk) ρ = some (.nx ρ') ∧ inv xs ρ' := forL_pre inv xs [] ρ rfl h0 h
theorem range_split {c x : Nat} {pre post : List Nat} (h : List.range c = pre ++ x :: post) : x = pre.length ∧ x < c ∧ pre = List.range x := by
  have h1 : (List.range c)[pre.length]? = some x := by rw [h]; simp
  have h2 := (List.getElem?_eq_some_iff.mp h1).1
  rw [List.length_range] at h2
  rw [List.getElem?_range h2] at h1
  have e := Option.some.inj h1
  refine ⟨e.symm, by omega, ?_⟩
  have h3 := congrArg (List.take pre.length) h
  rw [List.take_left, List.take_range] at h3
  rw [← h3]
  congr 1
  omega
theorem split_mem {α : Type} {xs pre post : List α} {x : α} (h : xs = pre ++ x :: post) : x ∈ xs := by rw [h]; simp
theorem split_len {α : Type} {xs pre post : List α} {x : α} (h : xs = pre ++ x :: post) : pre.length < xs.length := by rw [h]; simp
@[simp] theorem augD_e {op : D → D → Option D} {i : Nat} {f : Rho → Option D} {ρ : Rho} : augD op i f ρ = (imD ρ[i]?).bind fun d => (f ρ).bind fun e => (op d e).bind fun z => some (.nx (ρ.set i (.im z))) := by
  unfold augD
  split
  · rename_i h; rw [h]; rfl
  · rename_i h
    cases e : ρ[i]? with
    | none => rfl
    | some s =>
      cases s with
      | im d => exact absurd e (h d)
      | _ => rfl
@[simp] theorem max2_i (i j : Int) : max2D [.int i, .int j] = some (.int (max i j)) := by
  have e : (if j > i then j else i) = max i j := by split <;> omega
  rw [max2D, e]
@[simp] theorem min2_i (i j : Int) : min2D [.int i, .int j] = some (.int (min i j)) := by
  have e : (if j < i then j else i) = min i j := by split <;> omega
  rw [min2D, e]
/-! sorted -/
section
variable {α : Type} [DecidableEq α] {n : Nat} {mk : α → D} {lt : α → α → Bool}
theorem srtOk_tup (h : Nice n mk) (hn : n ≤ 64) (o : Ordd mk lt) (ht : ∀ a, ∃ x xs, mk a = .tuple (x :: xs)) (xs : List α) : srtOk (xs.map mk) = true := by
  simp only [srtOk, Bool.and_eq_true, Bool.or_eq_true, List.all_eq_true, List.mem_map, forall_exists_index, and_imp, forall_apply_eq_imp_iff₂, decide_eq_true_eq]
  refine ⟨⟨fun a _ b _ => o.alike a b, .inl fun a _ => ?_⟩, fun a _ => Nat.le_trans (h.dep a) hn⟩
  obtain ⟨x, xs, e⟩ := ht a
  rw [e]
theorem srt_nice (o : Ordd mk lt) (xs : List α) : srt (xs.map mk) = (xs.mergeSort fun a b => !lt b a).map mk := by
  unfold srt
  rw [List.map_mergeSort]
  intro a _ b _
  show (!lt b a) = !PySem.W.dataLt (mk b) (mk a)
  rw [o.lt]
theorem sorted_tup (h : Nice n mk) (hn : n ≤ 64) (o : Ordd mk lt) (ht : ∀ a, ∃ x xs, mk a = .tuple (x :: xs)) (xs : List α) (d : D) (hd : d = .list (xs.map mk) ∨ d = .tuple (xs.map mk)) :
    sortedD [d] = some (.list ((xs.mergeSort fun a b => !lt b a).map mk)) := by
  have e : itemsD d = some (xs.map mk) := by rcases hd with rfl | rfl <;> rfl
  rw [sortedD, e, Option.bind_some, if_pos (srtOk_tup h hn o ht xs), srt_nice o]
end
@[simp] theorem bSet_e {j : Nat} {fi f : Rho → Option D} {ρ : Rho} : bSet j fi f ρ = (f ρ).bind fun d => (owL ρ[j]?).bind fun ds => (fi ρ).bind fun i => (intO i).bind fun o => match o with
  | some i => (ixN ds.length i).bind fun k => some (.nx (ρ.set j (.ow (.list (ds.set k d)))))
  | none => none := by
  unfold bSet
  congr 1
  funext d
  split
  · rename_i h
    rw [h]
    simp only [owL_ow, Option.bind_some]
    congr 1
    funext i
    cases i <;> rfl
  · rename_i h
    cases e : ρ[j]? with
    | none => rfl
    | some s =>
      cases s with
      | ow d =>
        cases d with
        | list ds => exact absurd e (h ds)
        | _ => rfl
      | _ => rfl
theorem ixN_n {n k : Nat} (h : k < n) : ixN n (k : Int) = some k := by
  unfold ixN
  rw [if_pos (by omega)]
  simp [h]
theorem ixN_i {n : Nat} {i : Int} (h0 : 0 ≤ i) (h : i < n) : ixN n i = some i.toNat := by
  have := ixN_n (n := n) (k := i.toNat) (by omega)
  rwa [Int.toNat_of_nonneg h0] at this
theorem rep_1 (d : D) (k : Nat) (h : k ≤ 100000) : repLD (.list [d]) (.int (k : Int)) = some (.list (List.replicate k d)) := by
  have hl := line_ge
  rw [repLD, if_pos (by simp only [List.length_singleton]; omega)]
  congr 2
  rw [Int.toNat_natCast]
  clear h
  induction k with
  | zero => rfl
  | succ k ih => rw [List.replicate_succ, List.flatten_cons, ih, List.replicate_succ]; rfl
theorem zipL_mk {α β : Type} {f : α → D} {g : β → D} (dx : α) (dy : β) : ∀ (xs : List α) (ys : List β), xs.length = ys.length → zipL (xs.map f) (ys.map g) = (List.range xs.length).map fun k => .tuple [f (xs.getD k dx), g (ys.getD k dy)]
  | [], [], _ => rfl
  | [], _ :: _, h => by simp at h
  | _ :: _, [], h => by simp at h
  | x :: xs, y :: ys, h => by
    rw [List.map_cons, List.map_cons, zipL, zipL_mk dx dy xs ys (by simpa using h), List.length_cons, List.range_succ_eq_map, List.map_cons, List.map_map]
    rfl
@[simp] theorem zip_ll {ds es : List D} : zipD [.list ds, .list es] = some (zipL ds es) := rfl
@[simp] theorem zip_tt {ds es : List D} : zipD [.tuple ds, .tuple es] = some (zipL ds es) := rfl
end Q
end

/-! part: Q19 -/
section
set_option Elab.async false
set_option linter.all false
set_option maxRecDepth 100000
set_option maxHeartbeats 4000000
set_option autoImplicit false
namespace Q
open PySem PySem.Spec PySem.Calls PyProof.Rows L2
/-! ### zip of two sequences, each a list or a tuple -/
/-- true: a list; false: a tuple -/
def SqB (K : PySem.W.Frag) (b : Bool) (H : Hp) (a : Addr) (xs : List V) : Prop := if b = true then SqL K H a xs else SqT K H a xs
def isS (b : Bool) (h : Heap) (a : Addr) (its : Array Value) : Prop := if b = true then h.IsList a its else h.IsTuple a its
def itS (b : Bool) (h : Heap) (it a : Addr) (i : Nat) : Prop := if b = true then h.IsListIter it a i else h.IsTupleIter it a i
def itO (b : Bool) (a : Addr) : Obj := if b = true then { cls := .type "list_iterator", data := .fields #[.ref a, .int 0 0] } else { cls := .type "tuple_iterator", data := .fields #[.ref a, .int 0 0] }
theorem itS_obj {b : Bool} {h : Heap} {it a : Addr} {i : Nat} (s : itS b h it a i) : ∃ o fs, h.get? it = some o ∧ o.data = .fields fs := by
  cases b with
  | true => obtain ⟨o, e, _, d⟩ := (show h.IsListIter it a i from s); exact ⟨o, _, e, d⟩
  | false => obtain ⟨o, e, _, d⟩ := (show h.IsTupleIter it a i from s); exact ⟨o, _, e, d⟩
theorem itS_at {b : Bool} {h h' : Heap} {it a : Addr} {i : Nat} (s : itS b h it a i) (k : ∀ o, h.get? it = some o → h'.get? it = some o) : itS b h' it a i := by
  cases b with
  | true => exact (show h.IsListIter it a i from s).at k
  | false => exact (show h.IsTupleIter it a i from s).at k
theorem itS_new {b : Bool} {h : Heap} {it a : Addr} (e : h.get? it = some (itO b a)) : itS b h it a 0 := by
  cases b with
  | true => exact ⟨_, e, rfl, rfl⟩
  | false => exact ⟨_, e, rfl, rfl⟩
theorem isS_lt {b : Bool} {h : Heap} {a : Addr} {its : Array Value} (s : isS b h a its) : a < h.objs.size := by
  cases b with
  | true => obtain ⟨o, e, _⟩ := (show h.IsList a its from s); exact Heap.lt_size e
  | false => obtain ⟨o, e, _⟩ := (show h.IsTuple a its from s); exact Heap.lt_size e
theorem isS_at {b : Bool} {h h' : Heap} {a : Addr} {its : Array Value} (s : isS b h a its) (k : ∀ o, h.get? a = some o → h'.get? a = some o) : isS b h' a its := by
  cases b with
  | true => exact (show h.IsList a its from s).at k
  | false => exact (show h.IsTuple a its from s).at k
theorem sqB_get {X : Cx} {pins : List (Addr × Obj)} {σ : L2.St} {H : Hp} {s : Shared} (I : Inv X pins σ H s) {b : Bool} {a : Addr} {xs : List V} (h : SqB X.K b H a xs) : ∃ its, Vals xs its ∧ isS b s.heap a its.toArray := by
  cases b with
  | true => obtain ⟨its, rv, p, _⟩ := I.list (show SqL X.K H a xs from h); exact ⟨its, rv, p.isList⟩
  | false => obtain ⟨its, rv, p, _⟩ := I.tuple (show SqT X.K H a xs from h); exact ⟨its, rv, show s.heap.IsTuple a its.toArray from p⟩
theorem sqB_inj {X : Cx} {pins : List (Addr × Obj)} {σ : L2.St} {H : Hp} {s : Shared} (I : Inv X pins σ H s) {b : Bool} {a : Addr} {xs ys : List V} (h : SqB X.K b H a xs) (h' : SqB X.K b H a ys) : xs = ys := by
  cases b with
  | true => exact I.list_inj (show SqL X.K H a xs from h) h'
  | false => exact I.tuple_inj (show SqT X.K H a xs from h) h'
section
variable {prog : Program} {w : World} {A : Around}
theorem draw_b (hh : A.handled = none) (b : Bool) (it a : Addr) (hne : a ≠ it) (its : Array Value) :
    Draws prog w A it [it, a] its.size (fun i v => its[i]? = some v) (fun i h => itS b h it a i ∧ isS b h a its) := by
  cases b with
  | true => exact Draws.list hh it a hne its
  | false => exact Draws.tuple hh it a hne its
/-- nothing more is drawn -/
theorem draw_end (hh : A.handled = none) (b : Bool) (it a : Addr) (its : Array Value) (n : Nat) (hn : its.size ≤ n) :
    Draws prog w A it [it, a] n (fun _ _ => False) (fun i h => i = n ∧ itS b h it a i ∧ isS b h a its) where
  live := fun i h st => let ⟨o, _, e, _⟩ := itS_obj st.2.1; ⟨o, e⟩
  frame := fun i h h' st k => ⟨st.1, itS_at st.2.1 fun o e => k it (by simp) o e, isS_at st.2.2 fun o e => k a (by simp) o e⟩
  item := fun i s Q E hi st _ => absurd st.1 (Nat.ne_of_lt hi)
  done := fun s Q E st hE => by
    have hx : its[n]? = none := Array.getElem?_eq_none hn
    cases b with
    | true => exact wpAny_nextOf_list_end hh st.2.1 st.2.2 hx hE
    | false => exact wpAny_nextOf_tuple_end hh st.2.1 st.2.2 hx hE
theorem begin_b (b : Bool) (a : Addr) (its : Array Value) : Begins (.ref a) (itO b a) (fun h => isS b h a its) := by
  cases b with
  | true => exact begins_list a its
  | false => exact begins_tuple a its
end
/-- what the two hold as they stand at each turn, in new pairs -/
def ItzM (K : PySem.W.Frag) (b c : Bool) (l m : Addr) : It where
  go := fun i H => ∃ (xs ys : List V) (x y : V), SqB K b H l xs ∧ SqB K c H m ys ∧ xs[i]? = some x ∧ ys[i]? = some y
  yld := fun i H v H' => ∃ T x y, v = .ref T ∧ H T = none ∧ H' = upd H T (.tup [x, y]) ∧ (∀ xs, SqB K b H l xs → xs[i]? = some x) ∧ ∀ ys, SqB K c H m ys → ys[i]? = some y
  stop := fun i H => ∃ xs ys : List V, SqB K b H l xs ∧ SqB K c H m ys ∧ (xs.length ≤ i ∨ ys.length ≤ i)
theorem turn_zipM {P : Program} {w : World} {K : PySem.W.Frag} {elts : List Expr} {kk : Nat} {tpos : Pos} {b c : Bool} {l m z TI TO i1 i2 : Addr} (Z : ZipSep2 z TI TO i1 i2 [i1, l] [i2, m]) (hl : l ≠ i1) (hm : m ≠ i2) :
    Turn P w K (.Tuple elts kk tpos) (ItzM K b c l m) [z, TI, TO, i1, i2] z (fun i h => IsZip h z TI TO .none ∧ IsTupOf2 h TI (.ref i1) (.ref i2) ∧ (∃ x y, IsTupOf2 h TO x y) ∧ itS b h i1 l i ∧ itS c h i2 m i) := by
  have z1 := Z.zi1
  have z2 := Z.zi2
  have t1 := Z.Ti1
  have t2 := Z.Ti2
  have l1 : l ≠ z := fun e => Z.zf1 (by simp [e])
  have m2 : m ≠ z := fun e => Z.zf2 (by simp [e])
  have five : ∀ q : Addr, q ∈ [z, TI, TO, i1, i2] → q = z ∨ q = TI ∨ q = TO ∨ q = i1 ∨ q = i2 := fun q hq => by simpa using hq
  refine ⟨by simp, fun i h st q hq => ?_, fun i h h' st k => ?_, ?_, ?_, fun A i s Q E st h => wpAny_pyIter_zip st.1 h⟩
  · obtain ⟨s1, s2, ⟨x, y, s3⟩, s4, s5⟩ := st
    obtain ⟨o4, f4, e4, d4⟩ := itS_obj s4
    obtain ⟨o5, f5, e5, d5⟩ := itS_obj s5
    rcases five q hq with r | r | r | r | r <;> subst r
    · exact ⟨_, s1, fun v e => nomatch e⟩
    · exact ⟨_, s2, fun v e => nomatch e⟩
    · exact ⟨_, s3, fun v e => nomatch e⟩
    · exact ⟨o4, e4, fun v e => nomatch d4.symm.trans e⟩
    · exact ⟨o5, e5, fun v e => nomatch d5.symm.trans e⟩
  · obtain ⟨s1, s2, ⟨x, y, s3⟩, s4, s5⟩ := st
    exact ⟨k z (by simp) _ s1, k TI (by simp) _ s2, ⟨x, y, k TO (by simp) _ s3⟩, itS_at s4 (k i1 (by simp)), itS_at s5 (k i2 (by simp))⟩
  · rintro X rfl rfl rfl calm i pins s σ H E I own st ⟨xs, ys, x, y, qx, qy, hx, hy⟩
    obtain ⟨s1, s2, ⟨x0, y0, s3⟩, s4, s5⟩ := st
    obtain ⟨us, ru, hu⟩ := sqB_get I qx
    obtain ⟨vs, rv, hv⟩ := sqB_get I qy
    obtain ⟨u, u1, u2⟩ := ru.get hx
    obtain ⟨v, v1, v2⟩ := rv.get hy
    have hd : X.A.in1.handled = none := I.ok.hd calm
    have lu : us.toArray.size = xs.length := by rw [ru.length]; simp
    have lv : vs.toArray.size = ys.length := by rw [rv.length]; simp
    have old : ∀ q, q ∈ [z, TI, TO, i1, i2] → q < s.heap.objs.size := fun q hq => by
      obtain ⟨o4, _, e4, _⟩ := itS_obj s4
      obtain ⟨o5, _, e5, _⟩ := itS_obj s5
      rcases five q hq with r | r | r | r | r <;> subst r
      · exact Heap.lt_size s1
      · exact Heap.lt_size s2
      · exact Heap.lt_size s3
      · exact Heap.lt_size e4
      · exact Heap.lt_size e5
    refine wpAny_pyNext_zipD2_item Z (draw_b hd b i1 l hl us.toArray) (draw_b hd c i2 m hm vs.toArray) s1 s2 s3 ⟨s4, hu⟩ ⟨s5, hv⟩ (by have := (List.getElem?_eq_some_iff.mp hx).1; omega) (by have := (List.getElem?_eq_some_iff.mp hy).1; omega) fun a1 a2 h' tk p1 p2 f1 f3 f4 f5 fT fsz fk => ?_
    have ea1 : a1 = u := by simpa [u1] using p1.symm
    have ea2 : a2 = v := by simpa [v1] using p2.symm
    subst ea1 ea2
    refine ⟨_, rfl, wpAny_letOwnedTupleGo_zip (s := { s with heap := h', toks := tk }) f1 fun h'' g1 sb => ?_⟩
    have pass : ∀ q o, q ≠ z → h'.get? q = some o → h''.get? q = some o := fun q o hq e => (sb.2 q hq).trans e
    have zlt := old z (by simp)
    have new : ObjOk X.prog X.w (upd H s.heap.objs.size (.tup [x, y])) h'' s.heap.objs.size (.tup [x, y]) :=
      ⟨by show 2 ≤ sizeLine; decide, [a1, a2], .cons u2 (.cons v2 .nil), ⟨_, pass _ _ (Nat.ne_of_gt zlt) fT, rfl, _, rfl⟩⟩
    have I1 : Inv X pins σ (upd H s.heap.objs.size (.tup [x, y])) { s with heap := h'', toks := tk } :=
      I.turnedNew (t' := tk) (ch := [z, TI, TO, i1, i2]) (fun q o hq e => by
        simp only [List.mem_cons, List.not_mem_nil, or_false, not_or] at hq
        exact pass q o hq.1 (fk q o hq.1 hq.2.2.1 hq.2.2.2.1 hq.2.2.2.2 e)) own (Nat.le_refl _) new
    refine ⟨.ref s.heap.objs.size, _, I1, rfl, ⟨_, x, y, rfl, I.hok.fresh (Nat.le_refl _), rfl, fun q hq => by rw [sqB_inj I hq qx]; exact hx, fun q hq => by rw [sqB_inj I hq qy]; exact hy⟩, ⟨g1, pass _ _ Z.TIz (fk _ _ Z.TIz Z.TITO Z.TIi1 Z.TIi2 s2), ⟨_, _, pass _ _ Z.TOz f3⟩, itS_at f4.1 fun o => pass _ o z1.symm, itS_at f5.1 fun o => pass _ o z2.symm⟩, fun q hq => ?_⟩
    rw [upd_ne (Nat.ne_of_lt (old q hq))]
    exact (own q hq).1
  · rintro X rfl rfl rfl calm i pins s σ H E I own st ⟨xs, ys, qx, qy, hend⟩
    obtain ⟨s1, s2, ⟨x0, y0, s3⟩, s4, s5⟩ := st
    obtain ⟨us, ru, hu⟩ := sqB_get I qx
    obtain ⟨vs, rv, hv⟩ := sqB_get I qy
    have hd : X.A.in1.handled = none := I.ok.hd calm
    have lu : us.toArray.size = xs.length := by rw [ru.length]; simp
    have lv : vs.toArray.size = ys.length := by rw [rv.length]; simp
    have fin : ∀ (h' : Heap) (tk : Nat), (∀ q o, q ≠ z → q ≠ TO → q ≠ i1 → q ≠ i2 → s.heap.get? q = some o → h'.get? q = some o) → (none : Option Value) = none ∧ Inv X pins σ H { s with heap := h', toks := tk } := fun h' tk fk =>
      ⟨rfl, I.turnedL (t' := tk) (ch := [z, TI, TO, i1, i2]) (fun q o hq e => by
        simp only [List.mem_cons, List.not_mem_nil, or_false, not_or] at hq
        exact fk q o hq.1 hq.2.2.1 hq.2.2.2.1 hq.2.2.2.2 e) own⟩
    by_cases c1 : xs.length ≤ i <;> by_cases c2 : ys.length ≤ i
    · exact wpAny_pyNext_zipD2_end Z (draw_end hd b i1 l us.toArray i (by omega)) (draw_end hd c i2 m vs.toArray i (by omega)) s1 s2 s3 ⟨rfl, s4, hu⟩ ⟨rfl, s5, hv⟩ (Nat.le_refl _) (Nat.le_refl _) (.inl rfl) fin
    · exact wpAny_pyNext_zipD2_end Z (draw_end hd b i1 l us.toArray i (by omega)) (draw_b hd c i2 m hm vs.toArray) s1 s2 s3 ⟨rfl, s4, hu⟩ ⟨s5, hv⟩ (Nat.le_refl _) (by omega) (.inl rfl) fin
    · exact wpAny_pyNext_zipD2_end Z (draw_b hd b i1 l hl us.toArray) (draw_end hd c i2 m vs.toArray i (by omega)) s1 s2 s3 ⟨s4, hu⟩ ⟨rfl, s5, hv⟩ (by omega) (Nat.le_refl _) (.inr rfl) fin
    · rcases hend with e | e
      · exact absurd e c1
      · exact absurd e c2
def iZipM (K : PySem.W.Frag) (ta : TA) : TI := fun σ H R => ta σ H fun vs H1 => ∃ b c l m xs ys, vs = [.ref l, .ref m] ∧ SqB K b H1 l xs ∧ SqB K c H1 m ys ∧ R (ItzM K b c l m) H1
theorem pi_zipM {X : Cx} {e e2 : Expr} {ta : TA} {p pos tpos : Pos} {elts : List Expr} {kk : Nat} (hg : Gl X "zip") (hm : X.mg "zip" = none) (ha : PA X [e, e2] ta)
    (hs : starEach [e, e2] X.env = (false, eval e X.env) :: starEach [e2] X.env := by rfl) (hpl : (backTo pos (starEach [e2] X.env)).any (·.1) = false := by rfl) :
    PI X (.Tuple elts kk tpos) (.Call (.Name "zip" p) [e, e2] [] pos) (iZipM X.K ta) := by
  constructor
  intro pins s σ H R I h
  refine Call_ (ld_blt I hg hm PyProof.Rows.boot_zip (PyProof.Rows.callWith_type1 (thn (ha.run pos pins s σ H _ I h) fun us s1 ⟨vs, H1, I1, r1, ⟨b, c, l, m, xs, ys, ex, qx, qy, q⟩⟩ => ?_) hs hpl))
  subst ex
  obtain ⟨u, us', rfl, ru, r2⟩ : ∃ u us', us = u :: us' ∧ RelV (V.ref l) u ∧ Vals [V.ref m] us' := by cases r1 with | cons r rr => exact ⟨_, _, rfl, r, rr⟩
  obtain ⟨v, rfl, rv⟩ := vals_one r2
  cases ru
  cases rv
  obtain ⟨is, w1, hu⟩ := sqB_get I1 qx
  obtain ⟨js, w2, hv⟩ := sqB_get I1 qy
  have ll := isS_lt hu
  have lm := isS_lt hv
  refine zip_begins2 (begin_b b l is.toArray) (begin_b c m js.toArray) hu hv fun h' hz hTI hTO g1 g2 hsz hk => wpAny_pyIter_zip hz ?_
  refine ⟨_, [s1.heap.objs.size + 4, s1.heap.objs.size + 2, s1.heap.objs.size + 3, s1.heap.objs.size, s1.heap.objs.size + 1], _, _, H1, rfl, I1.kept (t' := s1.toks) hk, turn_zipM (zip_sep2 (fun q hq => ?_) (fun q hq => ?_)) (Nat.ne_of_lt ll) (Nat.ne_of_lt (Nat.lt_succ_of_lt lm)), ⟨hz, hTI, ⟨_, _, hTO⟩, itS_new g1, itS_new g2⟩, fun q hq => ?_, q⟩
  · rw [List.mem_singleton.mp hq]; exact ll
  · rw [List.mem_singleton.mp hq]; exact lm
  · have up : s1.heap.objs.size ≤ q := by
      simp only [List.mem_cons, List.not_mem_nil, or_false] at hq
      rcases hq with r | r | r | r | r <;> rw [r]
      · exact Nat.le_add_right _ _
      · exact Nat.le_add_right _ _
      · exact Nat.le_add_right _ _
      · exact Nat.le_refl _
      · exact Nat.le_add_right _ _
    exact I1.fpOk up (I1.hok.fresh up)
theorem itzM_ok {K : PySem.W.Frag} {F : Hp} {b c : Bool} {l m : Addr} {xs ys : List V} {ds es : List D} {st : Hp → Prop} (hs : ∀ H, Same F H → st H → SqB K b H l xs) (hs2 : ∀ H, Same F H → st H → SqB K c H m ys) (r : RepA K F xs ds) (r2 : RepA K F ys es) : ItO true K (ItzM K b c l m) F st (zipL ds es) := by
  refine ⟨fun i F' H' hi e1 e2 e3 => ?_, fun i d F' H' v H3 hd e1 e2 e3 yy => ?_, fun i F' H' hi e1 e2 e3 => ?_⟩
  · obtain ⟨d, e, h1, h2, _⟩ := zipL_at (List.getElem?_eq_getElem hi)
    obtain ⟨x, h3, _⟩ := r.get h1
    obtain ⟨y, h4, _⟩ := r2.get h2
    exact ⟨xs, ys, x, y, hs H' (e1.trans e2) e3, hs2 H' (e1.trans e2) e3, h3, h4⟩
  · obtain ⟨T, x, y, rfl, hT, rfl, y1, y2⟩ := yy
    obtain ⟨dx, dy, h1, h2, rfl⟩ := zipL_at hd
    obtain ⟨x', h3, h5⟩ := r.get h1
    obtain ⟨y', h4, h6⟩ := r2.get h2
    have q1 := y1 xs (hs H' (e1.trans e2) e3)
    have q2 := y2 ys (hs2 H' (e1.trans e2) e3)
    cases h3.symm.trans q1
    cases h4.symm.trans q2
    exact pair_ok e2 hT (h5.mono e1) (h6.mono e1)
  · rw [zipL_length] at hi
    exact ⟨xs, ys, hs H' (e1.trans e2) e3, hs2 H' (e1.trans e2) e3, by rw [r.length, r2.length]; omega⟩
/-- zip(d, e) of a list or a tuple each -/
def zipMD : List D → Option (List D)
  | [d, e] => (itemsD d).bind fun ds => (itemsD e).bind fun es => some (zipL ds es)
  | _ => none
theorem rep_sqB {K : PySem.W.Frag} {F H : Hp} {v : V} {d : D} {ds : List D} (r : Rep K F v d) (hd : itemsD d = some ds) (fh : Same F H) : ∃ b a xs, v = .ref a ∧ (∀ H', Same F H' → SqB K b H' a xs) ∧ RepA K F xs ds := by
  cases d with
  | list es =>
    cases hd
    cases r with
    | lst hs hr => exact ⟨true, _, _, rfl, fun H' s => s.seq hs, hr⟩
  | tuple es =>
    cases hd
    cases r with
    | tup hs hr => exact ⟨false, _, _, rfl, fun H' s => (hs.mono s).sq, hr⟩
  | _ => cases hd
theorem sem_zipM {K : PySem.W.Frag} {ta : TA} {fs : Rho → Option (List D)} (h : SemA K .fz ta fs) : SemI true K .fz (iZipM K ta) (fIs zipMD fs) := by
  intro B F H σ ρ ds R rel hf q
  obtain ⟨as, h1, h2⟩ := bind_some hf
  refine h B F H σ ρ as _ rel h1 fun vs F1 H1 x1 r1 => ?_
  match as, h2, r1 with
  | [d, e], h2, r1 =>
    obtain ⟨v, w, rfl, rv, rw'⟩ := resA2 r1
    obtain ⟨ds1, k1, h3⟩ := bind_some (show (itemsD d).bind (fun ds => (itemsD e).bind fun es => some (zipL ds es)) = some ds from h2)
    obtain ⟨es1, k2, h4⟩ := bind_some h3
    cases h4
    obtain ⟨b, l, xs, rfl, a1, a2⟩ := rep_sqB rv k1 x1.s
    obtain ⟨c, m, ys, rfl, c1, c2⟩ := rep_sqB rw' k2 x1.s
    exact ⟨b, c, l, m, xs, ys, rfl, a1 _ x1.s, c1 _ x1.s, q _ F1 H1 x1 (itzM_ok (fun H s _ => a1 H s) (fun H s _ => c1 H s) a2 c2)⟩
theorem di_zipMK (K' : PySem.W.Frag) {X : Cx} {ta : TA} {fs : Rho → Option (List D)} {p pos : Pos} {a b : Expr} {elts : List Expr} {kk : Nat} {tpos : Pos} (hg : Gl X "zip") (hm : X.mg "zip" = none) (ha : DA X .fz [a, b] ta fs) (hs : starEach [a, b] X.env = (false, eval a X.env) :: starEach [b] X.env := by rfl) (hpl : (backTo pos (starEach [b] X.env)).any (·.1) = false := by rfl) (hK : X.K = K' := by rfl) :
    DI true X .fz (.Tuple elts kk tpos) (.Call (.Name "zip" p) [a, b] [] pos) (iZipM K' ta) (fIs zipMD fs) := by
  subst hK
  exact ⟨pi_zipM hg hm ha.p hs hpl, sem_zipM ha.s⟩
@[simp] theorem zipMD_e {d e : D} : zipMD [d, e] = (itemsD d).bind fun ds => (itemsD e).bind fun es => some (zipL ds es) := rfl
end Q
end

/-! part: Q20 -/
section
set_option Elab.async false
set_option linter.all false
set_option maxRecDepth 100000
set_option maxHeartbeats 4000000
set_option autoImplicit false
namespace Q
open PySem PySem.Spec PySem.Calls PyProof.Rows L2
theorem tame_mk {α : Type} {mk : α → D} {n : Nat} (h : ∀ a, tame n (mk a) = true) (xs : List α) (hl : xs.length ≤ 1000) : tame (n + 1) (.tuple (xs.map mk)) = true := by
  simp [tame, hl, h]
theorem tame_two {a b : D} {n : Nat} (h1 : tame n a = true) (h2 : tame n b = true) : tame (n + 1) (.tuple [a, b]) = true := by
  simp [tame, h1, h2]
theorem tame_int (n : Nat) (i : Int) : tame (n + 1) (.int i) = true := rfl
theorem tame_ints (n : Nat) (xs : List Int) (hl : xs.length ≤ 1000) : tame (n + 2) (.tuple (xs.map .int)) = true := tame_mk (fun i => tame_int n i) xs hl
theorem lstd_mk {α : Type} {mk mk' : α → D} {n : Nat} (h : ∀ a, lstd n (mk a) = mk' a) (xs : List α) : lstd (n + 1) (.tuple (xs.map mk)) = .list (xs.map mk') := by
  rw [lstd, List.map_map]
  congr 2
  funext a
  exact h a
theorem lstd_ints (n : Nat) (xs : List Int) : lstd (n + 2) (.tuple (xs.map .int)) = .list (xs.map .int) := lstd_mk (fun _ => rfl) xs
/-- a whole number from 0 on -/
theorem nat_of {i : Int} (h : 0 ≤ i) : ∃ k : Nat, i = k := ⟨i.toNat, by omega⟩
theorem mod_nat (i : Int) {m : Int} (h : 0 < m) : ∃ k : Nat, i % m = k ∧ (k : Int) < m := by
  have h1 := Int.emod_nonneg i (Int.ne_of_gt h)
  have h2 := Int.emod_lt_of_pos i h
  exact ⟨(i % m).toNat, by omega, by omega⟩
/-- a loop that may go on, break or return: what is done so far -/
theorem forL_gen {α : Type} {step : D → Bd} {mk : α → D} {all : List α} (inv : List α → Rho → Prop) (fin : Rho → Prop) (R : D → Prop) : ∀ (xs pre : List α) (ρ : Rho), all = pre ++ xs → inv pre ρ →
    (∀ (pre post : List α) (ρ : Rho) (x : α), inv pre ρ → all = pre ++ x :: post → (∃ ρ', (step (mk x) ρ = some (.nx ρ') ∨ step (mk x) ρ = some (.ct ρ')) ∧ inv (pre ++ [x]) ρ') ∨ (∃ ρ', step (mk x) ρ = some (.bk ρ') ∧ fin ρ') ∨ ∃ d, step (mk x) ρ = some (.rt d) ∧ R d) →
    (∃ ρ', forL step (xs.map mk) ρ = some (.nx ρ') ∧ (inv all ρ' ∨ fin ρ')) ∨ ∃ d, forL step (xs.map mk) ρ = some (.rt d) ∧ R d
  | [], pre, ρ, e, h0, h => .inl ⟨ρ, rfl, .inl (by rw [e, List.append_nil]; exact h0)⟩
  | x :: xs, pre, ρ, e, h0, h => by
    rcases h pre xs ρ x h0 e with ⟨ρ1, h1, h2⟩ | ⟨ρ1, h1, h2⟩ | ⟨d, h1, h2⟩
    · have q := forL_gen inv fin R xs (pre ++ [x]) ρ1 (by rw [e]; simp) h2 h
      rw [List.map_cons]
      unfold forL
      rcases h1 with h1 | h1 <;> rw [h1] <;> exact q
    · refine .inl ⟨ρ1, ?_, .inr h2⟩
      rw [List.map_cons]
      unfold forL
      rw [h1]
      rfl
    · refine .inr ⟨d, ?_, h2⟩
      rw [List.map_cons]
      unfold forL
      rw [h1]
      rfl
theorem forL_any {α : Type} {step : D → Bd} {mk : α → D} {xs : List α} (inv : List α → Rho → Prop) (fin : Rho → Prop) (R : D → Prop) (ρ : Rho) (h0 : inv [] ρ)
    (h : ∀ (pre post : List α) (ρ : Rho) (x : α), inv pre ρ → xs = pre ++ x :: post → (∃ ρ', (step (mk x) ρ = some (.nx ρ') ∨ step (mk x) ρ = some (.ct ρ')) ∧ inv (pre ++ [x]) ρ') ∨ (∃ ρ', step (mk x) ρ = some (.bk ρ') ∧ fin ρ') ∨ ∃ d, step (mk x) ρ = some (.rt d) ∧ R d) :
    (∃ ρ', forL step (xs.map mk) ρ = some (.nx ρ') ∧ (inv xs ρ' ∨ fin ρ')) ∨ ∃ d, forL step (xs.map mk) ρ = some (.rt d) ∧ R d := forL_gen inv fin R xs [] ρ rfl h0 h
/-! Euclid -/
theorem euclid_step {a b k P : Nat} (hb : 0 < b) (h : a * b * 2 ^ k ≤ 2 * P) (hab : b ≤ a ∨ k = 0 ∧ a * b ≤ P) : b * (a % b) * 2 ^ (k + 1) ≤ 2 * P ∧ a % b ≤ b ∧ Nat.gcd b (a % b) = Nat.gcd a b := by
  have hr : a % b < b := Nat.mod_lt _ hb
  refine ⟨?_, Nat.le_of_lt hr, by rw [Nat.gcd_comm b, ← Nat.gcd_rec, Nat.gcd_comm]⟩
  rcases hab with hab | ⟨rfl, hab⟩
  · have h1 : a % b * 2 ≤ a := by
      have h2 := Nat.div_add_mod a b
      have h3 : 1 ≤ a / b := (Nat.le_div_iff_mul_le hb).mpr (by omega)
      have h4 : b * 1 ≤ b * (a / b) := Nat.mul_le_mul_left b h3
      omega
    calc b * (a % b) * 2 ^ (k + 1) = b * (a % b * 2) * 2 ^ k := by rw [Nat.pow_succ, Nat.mul_assoc, Nat.mul_assoc, Nat.mul_assoc]; congr 2; rw [Nat.mul_comm (2 ^ k)]
      _ ≤ b * a * 2 ^ k := Nat.mul_le_mul_right _ (Nat.mul_le_mul_left _ h1)
      _ ≤ 2 * P := by rw [Nat.mul_comm b a]; exact h
  · by_cases c : b ≤ a
    · have h1 : a % b * 2 ≤ a := by
        have h2 := Nat.div_add_mod a b
        have h3 : 1 ≤ a / b := (Nat.le_div_iff_mul_le hb).mpr (by omega)
        have h4 : b * 1 ≤ b * (a / b) := Nat.mul_le_mul_left b h3
        omega
      have h2 : b * (a % b * 2) ≤ b * a := Nat.mul_le_mul_left _ h1
      rw [Nat.mul_comm b a, ← Nat.mul_assoc] at h2
      simp only [Nat.zero_add, Nat.pow_one]
      omega
    · rw [Nat.mod_eq_of_lt (by omega), Nat.mul_comm b a]
      simp only [Nat.zero_add, Nat.pow_one]
      omega
def isT : Option D → Bool
  | some (.bool true) => true
  | _ => false
theorem isT_eq {x : Option D} (h : isT x = true) : x = some (.bool true) := by
  unfold isT at h
  split at h
  · rfl
  · cases h
/-! one sign in a text -/
def rSgn (k : Bool → Bool) : R2 := fun x y H Q => ∃ (c : Nat) (z : Str), x = .str ⟨#[c]⟩ ∧ y = .str z ∧ Q (.bl (k (decide (c ∈ z.cps.toList)))) H
def sgnD (k : Bool → Bool) : D → D → Option D
  | .str x, .str z => (match x.cps.toList with
    | [c] => some (.bool (k (decide (c ∈ z.cps.toList))))
    | _ => none)
  | _, _ => none
theorem op_sgn {X : Cx} : OpR X (compareOp .In) (rSgn id) := op_in_sign
theorem op_notSgn {X : Cx} : OpR X (compareOp .NotIn) (rSgn not) := op_notIn_sign
theorem ops_sgn {K : PySem.W.Frag} {k : Bool → Bool} : OpS K .fz (rSgn k) (sgnD k) := by
  intro F H Ha Hb x y d e z Q fh r1 r2 hz q
  match d, e, hz, r1, r2 with
  | .str u, .str w, hz, r1, r2 =>
    have hz' : (match u.cps.toList with
      | [c] => some (PyData.bool (k (decide (c ∈ w.cps.toList))))
      | _ => none) = some z := hz
    split at hz'
    · rename_i c hc
      cases hz'
      have e : u = ⟨#[c]⟩ := by
        obtain ⟨a⟩ := u
        have : a = #[c] := Array.toList_inj.mp hc
        rw [this]
      subst e
      exact ⟨c, w, r1.str, r2.str, q _ F H (.refl fh) (Rep.bl _)⟩
    · cases hz'
end Q
end

/-! part: Q21 -/
section
set_option Elab.async false
set_option linter.all false
set_option maxRecDepth 100000
set_option maxHeartbeats 4000000
set_option autoImplicit false
namespace Q
open PySem PySem.Spec PySem.Calls PyProof.Rows L2
@[simp] theorem fBP_e {m : Md} {Φ : List D → Option D} {fs : Rho → Option (List D)} {ρ : Rho} : fBP m Φ fs ρ = (fs ρ).bind fun ds => (Φ ds).bind fun r => if okR m r = true then some r else none := rfl
theorem nmA_mk {α : Type} {mk : α → D} (h : ∀ a, nm (mk a) = true) : ∀ xs : List α, nmA (xs.map mk) = true
  | [] => by simp [nmA]
  | x :: xs => by rw [List.map_cons, nmA, h x, nmA_mk h xs]; rfl
theorem okR_fr {α : Type} {mk : α → D} (h : ∀ a, nm (mk a) = true) (xs : List α) : okR .fr (.list (xs.map mk)) = true := nmA_mk h xs
theorem filter_nil {α : Type} (p : α → Bool) (xs : List α) : decide (xs.filter (fun x => !p x) = []) = xs.all p := by
  rw [Bool.eq_iff_iff]
  simp
/-! math.lcm, math.isqrt -/
def rLcm : List V → Hp → VK → Prop := fun vs H Q => ∃ a b : Int, vs = [.int a, .int b] ∧ (a.natAbs < 2 ^ 64 ∧ b.natAbs < 2 ^ 64) ∧ Q (.int ((Nat.lcm a.natAbs b.natAbs : Nat) : Int)) H
theorem cr_lcm {X : Cx} : CallR X (.builtin "math.lcm") rLcm := by
  intro pins s σ H vs us Q I r h
  obtain ⟨a, b, rfl, ⟨ha, hb⟩, q⟩ := h
  obtain ⟨t, u, rfl⟩ := Vals.int2 r
  exact PySem.W.mc_lcm ha hb fun _ => ⟨.int _, H, I.tok _, ⟨_, rfl⟩, q⟩
def lcmD : List D → Option D
  | [.int a, .int b] => if a.natAbs < 2 ^ 64 ∧ b.natAbs < 2 ^ 64 then some (.int ((Nat.lcm a.natAbs b.natAbs : Nat) : Int)) else none
  | _ => none
theorem cs_lcm {K : PySem.W.Frag} : CallS K .fz rLcm lcmD := by
  intro F H Ha vs ds z Q fh r hz q
  match ds, r, hz with
  | [.int a, .int b], r, hz =>
    obtain ⟨h1, h2⟩ := if_some (show (if a.natAbs < 2 ^ 64 ∧ b.natAbs < 2 ^ 64 then some (PyData.int ((Nat.lcm a.natAbs b.natAbs : Nat) : Int)) else none) = some z from hz)
    subst h2
    obtain ⟨v, w, rfl, r1, r2⟩ := resA2 r
    rw [r1.int, r2.int]
    exact ⟨a, b, rfl, h1, q _ F H (.refl fh) (Rep.int _)⟩
/-! list(range(i, j)) -/
def lr2D : D → D → Option D
  | .int i, .int j => if (-100000 ≤ i ∧ i ≤ 100000) ∧ -100000 ≤ j ∧ j ≤ 100000 then some (.list (rgD i (j - i).toNat)) else none
  | _, _ => none
theorem de_lr2 {X : Cx} {m1 m2 : Md} {a b : Expr} {ta tb : TE} {f g : Rho → Option D} {p p2 q pos : Pos} (hg : Gl X "list") (hm : X.mg "list" = none) (hg2 : Gl X "range") (hm2 : X.mg "range" = none) (ha : DE X m1 a ta f) (hb : DE X m2 b tb g) (hc : X.calm = true := by rfl)
    (na : starEach [.Call (.Name "range" p2) [a, b] [] q] X.env = (false, eval (.Call (.Name "range" p2) [a, b] [] q) X.env) :: starEach [] X.env := by rfl)
    (na2 : starEach [a, b] X.env = (false, eval a X.env) :: starEach [b] X.env := by rfl) (nb : starEach [b] X.env = (false, eval b X.env) :: starEach [] X.env := by rfl) (hp : (backTo q (starEach [b] X.env)).any (·.1) = false := by rfl) :
    DE X .fr (.Call (.Name "list" p) [.Call (.Name "range" p2) [a, b] [] q] [] pos) (tLstRg (tRg2 ta tb)) (f2 lr2D f g) := ⟨pe_listRg hc hg hm (prg_2 hg2 hm2 ha.p hb.p na2 nb hp) na, fun B F H σ ρ z Q r hf q => by
  obtain ⟨d, h1, h2⟩ := bind_some hf
  obtain ⟨e, h3, h4⟩ := bind_some h2
  refine ha.s B F H σ ρ d _ r h1 fun v F1 H1 x1 r1 => ?_
  refine hb.s B F1 H1 σ ρ e _ (r.ext x1) h3 fun w F2 H2 x2 r2 => ?_
  match d, e, h4, r1, r2 with
  | .int i, .int j, h4, r1, r2 =>
    obtain ⟨hn, rfl⟩ := if_some (show (if (-100000 ≤ i ∧ i ≤ 100000) ∧ -100000 ≤ j ∧ j ≤ 100000 then some (PyData.list (rgD i (j - i).toNat)) else none) = some z from h4)
    refine ⟨i, j, r1.int, r2.int, ⟨by omega, by omega, by omega, by omega, by omega⟩, ?_⟩
    exact newL_res (x1.trans x2) (repA_rg i j) q⟩
end Q
end

/-! part: Q22 -/
section
set_option Elab.async false
set_option linter.all false
set_option maxRecDepth 100000
set_option maxHeartbeats 4000000
set_option autoImplicit false
namespace Q
open PySem PySem.Spec PySem.Calls PyProof.Rows L2
/-! ### comprehensions of two fors -/
/-- a target makes nothing owned -/
def OwOk (W : List Nat) (s : D → Rho → Option Rho) : Prop := ∀ (d : D) (ρ ρ' : Rho) (j : Nat) (e : D), s d ρ = some ρ' → ρ'[j]? = some (.ow e) → j ∉ W ∧ ρ[j]? = some (.ow e)
def OwOks (W : List Nat) (s : List D → Rho → Option Rho) : Prop := ∀ (ds : List D) (ρ ρ' : Rho) (j : Nat) (e : D), s ds ρ = some ρ' → ρ'[j]? = some (.ow e) → j ∉ W ∧ ρ[j]? = some (.ow e)
theorem ow_n (i : Nat) : OwOk [i] (sN i) := fun d ρ ρ' j e h h2 => by
  have h' : ρ.set i (.im d) = ρ' := Option.some.inj h
  subst h'
  by_cases c : j = i
  · subst c
    rw [List.getElem?_set] at h2
    split at h2
    · split at h2
      · cases h2
      · cases h2
    · rename_i x; exact absurd rfl x
  · rw [List.getElem?_set_ne (Ne.symm c)] at h2
    exact ⟨by simpa using c, h2⟩
theorem ow_nil : OwOks [] sNil := fun ds ρ ρ' j e h h2 => by
  cases ds with
  | nil => cases h; exact ⟨by simp, h2⟩
  | cons d ds => cases h
theorem ow_cons {W W' : List Nat} {s : D → Rho → Option Rho} {ss : List D → Rho → Option Rho} (h : OwOk W s) (hs : OwOks W' ss) : OwOks (W ++ W') (sCons s ss) := fun ds ρ ρ' j e h1 h2 => by
  cases ds with
  | nil => cases h1
  | cons d ds =>
    obtain ⟨ρ2, a, b⟩ := bind_some (show (s d ρ).bind (ss ds) = some ρ' from h1)
    obtain ⟨c1, c2⟩ := hs ds ρ2 ρ' j e b h2
    obtain ⟨c3, c4⟩ := h d ρ ρ2 j e a c2
    exact ⟨by simp [c1, c3], c4⟩
theorem ow_t {W : List Nat} {n : Nat} {ss : List D → Rho → Option Rho} (hs : OwOks W ss) : OwOk W (sT n ss) := fun d ρ ρ' j e h1 h2 => by
  cases d with
  | tuple ds =>
    rw [sT_e] at h1
    split at h1
    · exact hs ds ρ ρ' j e h1 h2
    · cases h1
  | _ => cases h1
def lcM (row : D → Option (List D)) : List D → Option (List D)
  | [] => some []
  | d :: ds => (row d).bind fun rs => (lcM row ds).map (rs ++ ·)
def rowL (ρ : Rho) (vs vs1 : List Nat) (s : D → Rho → Option Rho) (ft : Rho → Option Bool) (f1 : Rho → Option (List D)) (s1 : D → Rho → Option Rho) (ft1 : Rho → Option Bool) (fe : Rho → Option D) (d : D) : Option (List D) :=
  (s d (wipeR ρ vs)).bind fun ρ2 => (ft ρ2).bind fun b => if b = true then (f1 ρ2).bind fun es => lcL (fun e => (s1 e (wipeR ρ2 vs1)).bind ft1) (fun e => (s1 e (wipeR ρ2 vs1)).bind fe) es else some []
def fLc2 (f : Rho → Option (List D)) (s : D → Rho → Option Rho) (ft : Rho → Option Bool) (f1 : Rho → Option (List D)) (s1 : D → Rho → Option Rho) (ft1 : Rho → Option Bool) (fe : Rho → Option D) (vs vs1 : List Nat) : Rho → Option D := fun ρ => (f ρ).bind fun ds =>
  (lcM (rowL ρ vs vs1 s ft f1 s1 ft1 fe) ds).bind fun rs => if rs.length ≤ sizeLine then some (.list rs) else none
theorem sem_lc2 {w w1 : Bool} {K : PySem.W.Frag} {W1 W2 vs vs1 : List Nat} {wi wi1 : TI} {g g1 : TG} {tt tt1 : TT} {te : TE} {f f1 : Rho → Option (List D)} {s s1 : D → Rho → Option Rho} {ft ft1 : Rho → Option Bool} {fe : Rho → Option D}
    (hi : SemI w K .pk wi f) (hg : SemG w K W1 g s) (ht : SemT K tt ft) (hi1 : SemI w1 K .fz wi1 f1) (hg1 : SemG w1 K W2 g1 s1) (ht1 : SemT K tt1 ft1) (he : SemE K .fz te fe) (hW : ∀ j ∈ W1, j ∈ vs) (hW2 : ∀ j ∈ W2, j ∈ vs1) (ho : OwOk W1 s) :
    SemE K .fr (tLc2 wi g tt wi1 g1 tt1 te vs vs1) (fLc2 f s ft f1 s1 ft1 fe vs vs1) := by
  intro B F H σ ρ z Q rel hf q
  obtain ⟨ds, h1, h2⟩ := bind_some hf
  obtain ⟨rs, h3, h4⟩ := bind_some h2
  obtain ⟨h5, rfl⟩ := if_some h4
  refine hi B F H σ ρ ds _ rel h1 fun J F1 H1 x1 it => ?_
  intro L hL
  have r1 := (rel.ext x1).wiped vs
  have gL : B.G L = none := (rel.ext x1).g.free hL
  have nL : ∀ (j : Nat) (e : D), (wipeR ρ vs)[j]? = some (.ow e) → (wipe σ vs)[j]? ≠ some (some (.ref L)) := own_ne r1 hL
  -- what stands between two items: the list's items so far
  let St : Hp → List D → Hp → Prop := fun F' rr H' => ∃ acc, Rel K B F' H' (wipe σ vs) (wipeR ρ vs) ∧ Same F1 F' ∧ Same H1 H' ∧ New F1 F' H1 ∧ F' L = none ∧ H' L = some (.lst acc) ∧ RepA K F' acc rr
  have ext : ∀ {F2 F5 H2 H5 : Hp} {rr : List D}, St F2 rr H2 → Ext F2 H2 F5 H5 → St F5 rr H5 := fun {F2 F5 H2 H5 rr} st x => by
    obtain ⟨acc, rel2, f2, s2, n2, fL, hH, ra⟩ := st
    exact ⟨acc, rel2.ext x, f2.trans x.f, s2.trans x.h, fun a h => (x.n a h).elim (n2 a) fun z => .inr (s2.free z), x.keepNone fL (by rw [hH]; exact fun z => nomatch z), x.h _ _ hH, ra.mono x.f⟩
  refine ⟨fun i m H' => m = ds.length - i ∧ i ≤ ds.length ∧ ∃ F' rr r2, St F' rr H' ∧ lcM (rowL ρ vs vs1 s ft f1 s1 ft1 fe) (ds.drop i) = some r2 ∧ rs = rr ++ r2,
    ⟨ds.length, by simp, Nat.zero_le _, F1, [], rs, ⟨[], r1.other (x1.s.free hL) gL nL, .refl _, same_upd hL, .refl, x1.s.free hL, upd_same, .nil⟩, by simpa using h3, rfl⟩, ?_⟩
  rintro i m H2 ⟨rfl, hil, F2, rr, r2, st2, hl, hrs⟩
  have st2' := st2
  obtain ⟨acc, rel2, f2, s2, n2, fL, hH, ra⟩ := st2'
  by_cases hlt : i < ds.length
  · rw [List.drop_eq_getElem_cons hlt] at hl
    obtain ⟨row, e1, e2⟩ := bind_some (show (rowL ρ vs vs1 s ft f1 s1 ft1 fe ds[i]).bind _ = some r2 from hl)
    obtain ⟨r3, e3, rfl⟩ := Option.map_eq_some_iff.mp e2
    obtain ⟨ρ2, e4, e5⟩ := bind_some (show (s ds[i] (wipeR ρ vs)).bind _ = some row from e1)
    obtain ⟨b, e6, e7⟩ := bind_some e5
    refine .inr ⟨it.go i F2 H2 hlt f2 rel2.fh s2, fun H' => i + 1 ≤ ds.length ∧ ∃ F' rr r2, St F' rr H' ∧ lcM (rowL ρ vs vs1 s ft f1 s1 ft1 fe) (ds.drop (i + 1)) = some r2 ∧ rs = rr ++ r2, fun H' hn => ⟨ds.length - (i + 1), by omega, rfl, hn⟩, fun x H3 y => ?_⟩
    obtain ⟨F3, x3, rb⟩ := it.yld i ds[i] F2 H2 x H3 (List.getElem?_eq_getElem hlt) f2 rel2.fh s2 y
    refine hg B F3 H3 (wipe σ vs) (wipeR ρ vs) ρ2 x ds[i] _ (rel2.ext x3) rb e4 fun σ2 rr2 k2 l2 => ?_
    have nL2 : ∀ (j : Nat) (e : D), ρ2[j]? = some (.ow e) → σ2[j]? ≠ some (some (.ref L)) := fun j e hj => by
      obtain ⟨a1, a2⟩ := ho _ _ _ j e e4 hj
      rw [k2 j a1]
      exact nL j e a2
    refine ⟨wipe_back (l2.trans (wipe_length σ vs)) fun j hj => k2 j fun z => hj (hW j z), ?_⟩
    refine ht B F3 H3 σ2 ρ2 b _ rr2 e6 fun F4 H4 x4 => ?_
    have st4 := ext (ext st2 x3) x4
    have rl4 := rr2.ext x4
    cases b with
    | false =>
      have e8 : row = [] := (Option.some.inj (show some [] = some row from e7)).symm
      subst e8
      show _ ∧ _
      exact ⟨hlt, F4, rr, r3, st4, e3, by rw [hrs]; rfl⟩
    | true =>
      obtain ⟨es, e8, e9⟩ := bind_some (show (f1 ρ2).bind _ = some row from e7)
      show wi1 σ2 H4 _
      refine hi1 B F4 H4 σ2 ρ2 es _ rl4 e8 fun J1 F5 H5 x5 it1 => ?_
      have st5 := ext st4 x5
      have rl5 := rl4.ext x5
      refine ⟨fun j k H' => k = es.length - j ∧ j ≤ es.length ∧ ∃ F' done r4, St F' (rr ++ done) H' ∧ Rel K B F' H' σ2 ρ2 ∧ Same F5 F' ∧ lcL (fun e => (s1 e (wipeR ρ2 vs1)).bind ft1) (fun e => (s1 e (wipeR ρ2 vs1)).bind fe) (es.drop j) = some r4 ∧ row = done ++ r4,
        ⟨es.length, by simp, Nat.zero_le _, F5, [], row, by rw [List.append_nil]; exact st5, rl5, .refl _, by simpa using e9, rfl⟩, ?_⟩
      rintro j k H6 ⟨rfl, hjl, F6, done, r4, st6, rl6, f6, hl6, hrow⟩
      have st6' := st6
      obtain ⟨acc6, rel6, g6, s6, n6, fL6, hH6, ra6⟩ := st6'
      by_cases hjt : j < es.length
      · rw [List.drop_eq_getElem_cons hjt] at hl6
        obtain ⟨b1, u1, u2⟩ := bind_some (show ((s1 es[j] (wipeR ρ2 vs1)).bind ft1).bind _ = some r4 from hl6)
        obtain ⟨ρ3, u3, u4⟩ := bind_some u1
        refine .inr ⟨it1.go j F6 H6 hjt f6 rel6.fh trivial, fun H' => j + 1 ≤ es.length ∧ ∃ F' done r4, St F' (rr ++ done) H' ∧ Rel K B F' H' σ2 ρ2 ∧ Same F5 F' ∧ lcL (fun e => (s1 e (wipeR ρ2 vs1)).bind ft1) (fun e => (s1 e (wipeR ρ2 vs1)).bind fe) (es.drop (j + 1)) = some r4 ∧ row = done ++ r4, fun H' hn => ⟨es.length - (j + 1), by omega, rfl, hn⟩, fun x' H7 y' => ?_⟩
        obtain ⟨F7, x7, rb7⟩ := it1.yld j es[j] F6 H6 x' H7 (List.getElem?_eq_getElem hjt) f6 rel6.fh trivial y'
        refine hg1 B F7 H7 (wipe σ2 vs1) (wipeR ρ2 vs1) ρ3 x' es[j] _ ((rl6.ext x7).wiped vs1) rb7 u3 fun σ3 rl7 k3 l3 => ?_
        refine ⟨wipe_back (l3.trans (wipe_length σ2 vs1)) fun j' hj' => k3 j' fun z => hj' (hW2 j' z), ?_⟩
        refine ht1 B F7 H7 σ3 ρ3 b1 _ rl7 u4 fun F8 H8 x8 => ?_
        have x78 := x7.trans x8
        have st8 := ext st6 x78
        cases b1 with
        | false => exact ⟨hjt, F8, done, r4, st8, rl6.ext x78, f6.trans x78.f, u2, hrow⟩
        | true =>
          obtain ⟨y0, u5, u6⟩ := bind_some (show ((s1 es[j] (wipeR ρ2 vs1)).bind fe).bind _ = some r4 from u2)
          obtain ⟨ρ4, u7, u8⟩ := bind_some u5
          rw [u3] at u7
          cases u7
          obtain ⟨r5, u9, rfl⟩ := Option.map_eq_some_iff.mp u6
          show te σ3 H8 _
          refine he B F8 H8 σ3 ρ3 y0 _ (rl7.ext x8) u8 fun v F9 H9 x9 rv => ?_
          have x69 := x78.trans x9
          obtain ⟨acc9, b1', b2, b3, b4, b5, b6, b7⟩ := ext st6 x69
          have hlen : acc9.length < sizeLine := by
            have h6 : rs.length = rr.length + (row.length + r3.length) := by rw [hrs]; simp
            have h7 := b7.length
            rw [hrow] at h6
            simp at h6 h7
            omega
          refine ⟨acc9, b6, hlen, hjt, F9, done ++ [y0], r5, ⟨acc9 ++ [v], b1'.other b5 gL nL, b2, fun c u hc => ?_, b4, b5, upd_same, ?_⟩, (rl6.ext x69).other b5 gL nL2, f6.trans x69.f, u9, by rw [hrow]; simp⟩
          · rw [upd_ne (ne_of_none hc hL)]
            exact b3 _ _ hc
          · rw [← List.append_assoc]
            exact b7.append (.cons rv .nil)
      · have ej : j = es.length := by omega
        subst ej
        rw [List.drop_length] at hl6
        cases hl6
        rw [List.append_nil] at hrow
        subst hrow
        exact .inl ⟨it1.stop _ F6 H6 (Nat.le_refl _) f6 rel6.fh trivial, hlt, F6, rr ++ row, r3, st6, e3, by rw [hrs]; simp⟩
  · have ei : i = ds.length := by omega
    subst ei
    rw [List.drop_length] at hl
    cases hl
    rw [List.append_nil] at hrs
    subst hrs
    refine .inl ⟨it.stop _ F2 H2 (Nat.le_refl _) f2 rel2.fh s2, q _ F2 H2 ⟨x1.f.trans f2, x1.h.trans s2, fun a h => ?_, rel2.fh⟩ ⟨L, rfl, x1.h.free hL, fL, acc, hH, ra⟩⟩
    exact (n2 a h).elim (x1.n a) fun z => .inr (x1.h.free z)
end Q
end

/-! part: Q23 -/
section
set_option Elab.async false
set_option linter.all false
set_option maxRecDepth 100000
set_option maxHeartbeats 4000000
set_option autoImplicit false
namespace Q
open PySem PySem.Spec PySem.Calls PyProof.Rows L2
section
variable {X : Cx} {m : Md} {W1 W2 : List Nat} {pos : Pos} {w w1 : Bool} {elt tg iter tg1 iter1 : Expr} {ifs ifs1 : List Expr} {scope : Scope} {wi wi1 : TI} {g g1 : TG} {tt tt1 : TT} {te : TE} {f f1 : Rho → Option (List D)} {s s1 : D → Rho → Option Rho} {ft ft1 : Rho → Option Bool} {fe : Rho → Option D}
theorem de_lc2 {vs : List Nat} (own : List (Str × Nat)) (vs1 : List Nat) (hN : X.N.Nodup) (hi : DI w X m tg iter wi f) (ok : blkC X.N X.env.scope scope own = true)
    (hg : ∀ (s' : Shared) (H : Hp) (C : Addr) (cl : List (Str × Addr)) (fp : List Addr), DG w (X.blk s' H scope (compEnvC scope cl C X.env) fp) W1 tg g s) (ht : ∀ (s : Shared) (H : Hp) (C : Addr) (cl : List (Str × Addr)) (fp : List Addr), DTs (X.blk s H scope (compEnvC scope cl C X.env) fp) ifs tt ft)
    (hi1 : ∀ (s : Shared) (H : Hp) (C : Addr) (cl : List (Str × Addr)) (fp : List Addr), DI w1 (X.blk s H scope (compEnvC scope cl C X.env) fp) .fz tg1 iter1 wi1 f1)
    (hg1 : ∀ (s' : Shared) (H : Hp) (C : Addr) (cl : List (Str × Addr)) (fp : List Addr), DG w1 (X.blk s' H scope (compEnvC scope cl C X.env) fp) W2 tg1 g1 s1) (ht1 : ∀ (s : Shared) (H : Hp) (C : Addr) (cl : List (Str × Addr)) (fp : List Addr), DTs (X.blk s H scope (compEnvC scope cl C X.env) fp) ifs1 tt1 ft1)
    (he : ∀ (s : Shared) (H : Hp) (C : Addr) (cl : List (Str × Addr)) (fp : List Addr), DE (X.blk s H scope (compEnvC scope cl C X.env) fp) .fz elt te fe) (hW : ∀ j ∈ W1, j ∈ vs) (hW2 : ∀ j ∈ W2, j ∈ vs1) (ho : OwOk W1 s) (hv : ∀ i ∈ vs1, i ∈ own.map (·.2)) (hc : X.calm = true := by rfl) (hs : ∀ x, foldedSetIterable iter X.env x = pure x := by intro _; rfl) (hs1 : ∀ env x, foldedSetIterable iter1 env x = pure x := by intro _ _; rfl) (hvs : own.map (·.2) = vs := by rfl) :
    DE X .fr (.ListComp elt [⟨tg, iter, ifs, 0⟩, ⟨tg1, iter1, ifs1, 0⟩] scope pos) (tLc2 wi g tt wi1 g1 tt1 te vs vs1) (fLc2 f s ft f1 s1 ft1 fe vs vs1) := by
  subst hvs
  exact
  ⟨pe_lc2 hc hN hi.p (blkOk_by ok) hv (fun s H C cl fp => (hg s H C cl fp).p) (fun s H C cl fp => (ht s H C cl fp).p) (fun s H C cl fp => (hi1 s H C cl fp).p) (fun s H C cl fp => (hg1 s H C cl fp).p) (fun s H C cl fp => (ht1 s H C cl fp).p) (fun s H C cl fp => (he s H C cl fp).p) hs hs1,
    sem_lc2 hi.pk.s (hg X.s_0 (fun _ => none) 0 [] []).s (ht X.s_0 (fun _ => none) 0 [] []).s (hi1 X.s_0 (fun _ => none) 0 [] []).s (hg1 X.s_0 (fun _ => none) 0 [] []).s (ht1 X.s_0 (fun _ => none) 0 [] []).s (he X.s_0 (fun _ => none) 0 [] []).s hW hW2 ho⟩
theorem ds_asgLc2 {m1 : Md} {vs : List Nat} {i : Nat} {y : Str} {py spos : Pos} (own : List (Str × Nat)) (vs1 : List Nat) (hN : X.N.Nodup) (hi : DI w X m tg iter wi f) (ok : blkC X.N X.env.scope scope own = true)
    (hg : ∀ (s' : Shared) (H : Hp) (C : Addr) (cl : List (Str × Addr)) (fp : List Addr), DG w (X.blk s' H scope (compEnvC scope cl C X.env) fp) W1 tg g s) (ht : ∀ (s : Shared) (H : Hp) (C : Addr) (cl : List (Str × Addr)) (fp : List Addr), DTs (X.blk s H scope (compEnvC scope cl C X.env) fp) ifs tt ft)
    (hi1 : ∀ (s : Shared) (H : Hp) (C : Addr) (cl : List (Str × Addr)) (fp : List Addr), DI w1 (X.blk s H scope (compEnvC scope cl C X.env) fp) .fz tg1 iter1 wi1 f1)
    (hg1 : ∀ (s' : Shared) (H : Hp) (C : Addr) (cl : List (Str × Addr)) (fp : List Addr), DG w1 (X.blk s' H scope (compEnvC scope cl C X.env) fp) W2 tg1 g1 s1) (ht1 : ∀ (s : Shared) (H : Hp) (C : Addr) (cl : List (Str × Addr)) (fp : List Addr), DTs (X.blk s H scope (compEnvC scope cl C X.env) fp) ifs1 tt1 ft1)
    (he : ∀ (s : Shared) (H : Hp) (C : Addr) (cl : List (Str × Addr)) (fp : List Addr), DE (X.blk s H scope (compEnvC scope cl C X.env) fp) .fz elt te fe) (hW : ∀ j ∈ W1, j ∈ vs) (hW2 : ∀ j ∈ W2, j ∈ vs1) (ho : OwOk W1 s) (hv : ∀ i ∈ vs1, i ∈ own.map (·.2)) (hsw : swapsWith (.ListComp elt [⟨tg, iter, ifs, 0⟩, ⟨tg1, iter1, ifs1, 0⟩] scope pos) (some (.Name y py)) spos.line X.env = pure true)
    (hy : X.N[i]? = some y := by rfl) (hyl : X.env.scope.names.lookup y = some .local := by rfl) (hc : X.calm = true := by rfl) (hs : ∀ x, foldedSetIterable iter X.env x = pure x := by intro _; rfl) (hs1 : ∀ env x, foldedSetIterable iter1 env x = pure x := by intro _ _; rfl) (hvs : own.map (·.2) = vs := by rfl) :
    DS X m1 [i] (.Assign [.Name y py] (.ListComp elt [⟨tg, iter, ifs, 0⟩, ⟨tg1, iter1, ifs1, 0⟩] scope pos) spos) (tAsg (tLc2 wi g tt wi1 g1 tt1 te vs vs1) (gName i)) (bAsg i (fLc2 f s ft f1 s1 ft1 fe vs vs1)) := by
  subst hvs
  have d := de_lc2 (pos := pos) own vs1 hN hi ok hg ht hi1 hg1 ht1 he hW hW2 ho hv hc hs hs1
  exact ⟨ps_setLc2 hc hN hy hyl hsw hi.p (blkOk_by ok) hv (fun s H C cl fp => (hg s H C cl fp).p) (fun s H C cl fp => (ht s H C cl fp).p) (fun s H C cl fp => (hi1 s H C cl fp).p) (fun s H C cl fp => (hg1 s H C cl fp).p) (fun s H C cl fp => (ht1 s H C cl fp).p) (fun s H C cl fp => (he s H C cl fp).p) hs hs1, sem_asg d.frz.s⟩
theorem ds_ownLc2 {m1 : Md} {vs : List Nat} {i : Nat} {y : Str} {py spos : Pos} (own : List (Str × Nat)) (vs1 : List Nat) (hN : X.N.Nodup) (hi : DI w X m tg iter wi f) (ok : blkC X.N X.env.scope scope own = true)
    (hg : ∀ (s' : Shared) (H : Hp) (C : Addr) (cl : List (Str × Addr)) (fp : List Addr), DG w (X.blk s' H scope (compEnvC scope cl C X.env) fp) W1 tg g s) (ht : ∀ (s : Shared) (H : Hp) (C : Addr) (cl : List (Str × Addr)) (fp : List Addr), DTs (X.blk s H scope (compEnvC scope cl C X.env) fp) ifs tt ft)
    (hi1 : ∀ (s : Shared) (H : Hp) (C : Addr) (cl : List (Str × Addr)) (fp : List Addr), DI w1 (X.blk s H scope (compEnvC scope cl C X.env) fp) .fz tg1 iter1 wi1 f1)
    (hg1 : ∀ (s' : Shared) (H : Hp) (C : Addr) (cl : List (Str × Addr)) (fp : List Addr), DG w1 (X.blk s' H scope (compEnvC scope cl C X.env) fp) W2 tg1 g1 s1) (ht1 : ∀ (s : Shared) (H : Hp) (C : Addr) (cl : List (Str × Addr)) (fp : List Addr), DTs (X.blk s H scope (compEnvC scope cl C X.env) fp) ifs1 tt1 ft1)
    (he : ∀ (s : Shared) (H : Hp) (C : Addr) (cl : List (Str × Addr)) (fp : List Addr), DE (X.blk s H scope (compEnvC scope cl C X.env) fp) .fz elt te fe) (hW : ∀ j ∈ W1, j ∈ vs) (hW2 : ∀ j ∈ W2, j ∈ vs1) (ho : OwOk W1 s) (hv : ∀ i ∈ vs1, i ∈ own.map (·.2)) (hsw : swapsWith (.ListComp elt [⟨tg, iter, ifs, 0⟩, ⟨tg1, iter1, ifs1, 0⟩] scope pos) (some (.Name y py)) spos.line X.env = pure true)
    (hy : X.N[i]? = some y := by rfl) (hyl : X.env.scope.names.lookup y = some .local := by rfl) (hc : X.calm = true := by rfl) (hs : ∀ x, foldedSetIterable iter X.env x = pure x := by intro _; rfl) (hs1 : ∀ env x, foldedSetIterable iter1 env x = pure x := by intro _ _; rfl) (hvs : own.map (·.2) = vs := by rfl) :
    DS X m1 [i] (.Assign [.Name y py] (.ListComp elt [⟨tg, iter, ifs, 0⟩, ⟨tg1, iter1, ifs1, 0⟩] scope pos) spos) (tAsg (tLc2 wi g tt wi1 g1 tt1 te vs vs1) (gName i)) (bOwn i (fLc2 f s ft f1 s1 ft1 fe vs vs1)) := by
  subst hvs
  have d := de_lc2 (pos := pos) own vs1 hN hi ok hg ht hi1 hg1 ht1 he hW hW2 ho hv hc hs hs1
  exact ⟨ps_setLc2 hc hN hy hyl hsw hi.p (blkOk_by ok) hv (fun s H C cl fp => (hg s H C cl fp).p) (fun s H C cl fp => (ht s H C cl fp).p) (fun s H C cl fp => (hi1 s H C cl fp).p) (fun s H C cl fp => (hg1 s H C cl fp).p) (fun s H C cl fp => (ht1 s H C cl fp).p) (fun s H C cl fp => (he s H C cl fp).p) hs hs1, sem_own d.s⟩
@[simp] theorem fLc2_e {ρ : Rho} {vs vs1 : List Nat} : fLc2 f s ft f1 s1 ft1 fe vs vs1 ρ = (f ρ).bind fun ds => (lcM (rowL ρ vs vs1 s ft f1 s1 ft1 fe) ds).bind lcB := rfl
@[simp] theorem rowL_e {ρ : Rho} {vs vs1 : List Nat} {d : D} : rowL ρ vs vs1 s ft f1 s1 ft1 fe d = (s d (wipeR ρ vs)).bind fun ρ2 => (ft ρ2).bind fun b => if b = true then (f1 ρ2).bind fun es => lcL (fun e => (s1 e (wipeR ρ2 vs1)).bind ft1) (fun e => (s1 e (wipeR ρ2 vs1)).bind fe) es else some [] := rfl
theorem lcM_mk {α : Type} {mk : α → D} {row : D → Option (List D)} {g : α → List D} : ∀ {xs : List α}, (∀ x ∈ xs, row (mk x) = some (g x)) → lcM row (xs.map mk) = some (xs.flatMap g)
  | [], _ => rfl
  | x :: xs, h => by
    rw [List.map_cons, lcM, h x List.mem_cons_self, Option.bind_some, lcM_mk fun y hy => h y (List.mem_cons_of_mem _ hy)]
    rfl
end
/-! ### x[::-1], a list -/
theorem pick_rev (n : Nat) : sliceBounds none none (some (-1)) n = ((n : Int) - 1, -1, -1) := by
  unfold sliceBounds
  have h0 : ¬ ((-1 : Int) > 0) := by decide
  simp only [Option.getD_some, h0, if_false]
theorem range_rev (n : Nat) : sliceRange ((n : Int) - 1) (-1) (-1) = (List.range n).map fun k => n - 1 - k := by
  unfold sliceRange
  have h0 : ¬ ((-1 : Int) > 0) := by decide
  have e : (- -1 : Int) = 1 := by decide
  simp only [h0, if_false, e, Int.ediv_one]
  by_cases hn : (n : Int) - 1 > -1
  · rw [if_pos hn]
    have h1 : ((n : Int) - 1 - -1 - -1 - 1).toNat = n := by omega
    rw [h1]
    apply List.map_congr_left
    intro k hk
    have := List.mem_range.mp hk
    omega
  · rw [if_neg hn]
    have : n = 0 := by omega
    subst this
    rfl
theorem fm_congr {α β : Type} {f g : α → Option β} : ∀ {l : List α}, (∀ x ∈ l, f x = g x) → l.filterMap f = l.filterMap g
  | [], _ => rfl
  | x :: l, h => by
    rw [List.filterMap_cons, List.filterMap_cons, h x List.mem_cons_self, fm_congr fun y hy => h y (List.mem_cons_of_mem _ hy)]
theorem slicePick_rev (items : Array Value) : slicePick items none none (some (-1)) = items.toList.reverse.toArray := by
  unfold slicePick
  rw [pick_rev, range_rev]
  congr 1
  rw [List.filterMap_map]
  apply List.ext_getElem?
  intro i
  have key : (List.range items.size).filterMap ((fun j => items[j]?) ∘ fun k => items.size - 1 - k) = (List.range items.size).filterMap fun k => items.toList.reverse[k]? := by
    refine fm_congr ?_
    intro k hk
    have := List.mem_range.mp hk
    show items[items.size - 1 - k]? = _
    rw [List.getElem?_reverse (by simpa using this)]
    simp
  rw [key]
  have e2 : (List.range items.size).filterMap (fun k => items.toList.reverse[k]?) = items.toList.reverse := by
    have : items.size = items.toList.reverse.length := by simp
    rw [this]
    generalize items.toList.reverse = l
    induction l with
    | nil => rfl
    | cons x l ih =>
      rw [List.length_cons, List.range_succ_eq_map, List.filterMap_cons]
      simp only [List.getElem?_cons_zero, List.filterMap_map]
      congr 1
  rw [e2]
end Q
end

/-! part: Q24 -/
section
set_option Elab.async false
set_option linter.all false
set_option maxRecDepth 100000
set_option maxHeartbeats 4000000
set_option autoImplicit false
namespace Q
open PySem PySem.Spec PySem.Calls PyProof.Rows L2
section
variable {X : Cx} {m m1 m2 : Md} {e a : Expr} {te ta : TE} {f g : Rho → Option D} {p p2 pos apos : Pos} {j : Nat} {x : Str}
/-! ### xs[::-1], a list -/
def rRev (K : PySem.W.Frag) : V → Int → Hp → VK → Prop := fun x c H Q => ∃ a xs, x = .ref a ∧ c = -1 ∧ SqL K H a xs ∧ ∀ p, H p = none → Q (.ref p) (upd H p (.lst xs.reverse))
def tRev (K : PySem.W.Frag) (te tc : TE) : TE := fun σ H Q => te σ H fun x H1 => tc σ H1 fun y H2 => ∃ c, y = .int c ∧ rRev K x c H2 Q
theorem vals_rev : ∀ {xs : List V} {us : List Value}, Vals xs us → Vals xs.reverse us.reverse
  | _, _, .nil => .nil
  | _, _, .cons h r => by rw [List.reverse_cons, List.reverse_cons]; exact (vals_rev r).append (.cons h .nil)
theorem pe_rev {c : Expr} {tc : TE} (he : PE X e te) (hc : PE X c tc) : PE X (.Subscript e (.Slice none none (some c) p2) pos) (tRev X.K te tc) := by
  refine ⟨fun pins s σ H Q I h => ?_⟩
  refine Subscript_ (thn (he.run pins s σ H _ I h) fun v s1 ⟨x, H1, I1, r1, q1⟩ => ?_)
  refine wpAny_Slice ?_
  rw [evalPart_none]
  refine wpAny_pure (wpAny_pure ?_)
  rw [evalPart_some]
  refine thn (hc.run pins s1 σ H1 _ I1 q1) fun u s2 ⟨y, H2, I2, r2, i, ey, a, xs, ex, ei, sq, q2⟩ => ?_
  subst ey; subst ex; subst ei
  cases r1
  obtain ⟨t, rfl⟩ := r2
  have I4 : Inv X pins σ H2 { s2 with heap := s2.heap.push { cls := .type "slice", data := .fields #[.none, .none, .int (-1) t] } } := I2.kept (t' := s2.toks) fun b ob q => Heap.get?_push_of_some _ q
  obtain ⟨its, rv, pl, hz⟩ := I4.list sq
  show wpAny (model X.prog X.w) X.A (subscriptTail e (.Slice none none (some c) p2) (.ref a) (.ref s2.heap.objs.size)) (EP X pins σ Q) X.xe { s2 with heap := s2.heap.push { cls := .type "slice", data := .fields #[.none, .none, .int (-1) t] } }
  refine tail_any (ops := [.ref a, .ref s2.heap.objs.size]) pl.isList.typeIs PySem.list_getitem_lookup ?_ (by with_unfolding_all rfl)
  refine wpAny_getItem_list_slice pl.isList (Heap.IsSliceOf.new ..) .none .none (.int (-1) t) (by decide) ?_ (by rw [List.size_toArray]; rw [← rv.length]; exact hz)
  rw [slicePick_rev]
  refine ⟨.ref _, upd H2 _ (.lst xs.reverse), ?_, rfl, q2 _ I4.fresh⟩
  have h1 : (its.toArray.toList.reverse).toArray = its.reverse.toArray := by simp
  rw [h1]
  exact I4.lnew (its := its.reverse) (t' := s2.toks) (vals_rev rv) (by rw [List.length_reverse]; exact hz)
def revSD (d c : D) : Option D := match d, c with
  | .list ds, .int i => if i = -1 then some (.list ds.reverse) else none
  | _, _ => none
theorem RepA.rev {K : PySem.W.Frag} {F : Hp} : ∀ {vs : List V} {ds : List D}, RepA K F vs ds → RepA K F vs.reverse ds.reverse
  | _, _, .nil => .nil
  | _, _, .cons h r => by rw [List.reverse_cons, List.reverse_cons]; exact (RepA.rev r).append (.cons h .nil)
theorem de_rev {c : Expr} {tc : TE} (he : DE X m e te f) (hc : DE X m1 c tc g) : DE X .fr (.Subscript e (.Slice none none (some c) p2) pos) (tRev X.K te tc) (f2 revSD f g) := ⟨pe_rev he.p hc.p, fun B F H σ ρ z Q r hf q => by
  obtain ⟨d, h1, h2⟩ := bind_some hf
  obtain ⟨i, h3, h4⟩ := bind_some h2
  refine he.s B F H σ ρ d _ r h1 fun v F1 H1 x1 r1 => ?_
  refine hc.s B F1 H1 σ ρ i _ (r.ext x1) h3 fun w F2 H2 x2 r2 => ?_
  match d, i, h4, r1, r2 with
  | .list ds, .int i, h4, r1, r2 =>
    obtain ⟨hn, rfl⟩ := if_some (show (if i = -1 then some (PyData.list ds.reverse) else none) = some z from h4)
    obtain ⟨a, xs, rfl, s1, p1⟩ := (r1.mono x2).list x2.s
    exact ⟨i, r2.int, a, xs, rfl, hn, s1, newL_res (x1.trans x2) p1.rev q⟩⟩
theorem de_revK {c : Expr} {tc : TE} (K' : PySem.W.Frag) (he : DE X m e te f) (hc : DE X m1 c tc g) (hK : X.K = K' := by rfl) : DE X .fr (.Subscript e (.Slice none none (some c) p2) pos) (tRev K' te tc) (f2 revSD f g) := by
  subst hK
  exact de_rev he hc
/-! ### sep.join(texts) -/
def strsOf : List D → Option (List Str)
  | [] => some []
  | .str x :: ds => (strsOf ds).map (x :: ·)
  | _ :: _ => none
theorem strsOf_map : ∀ {ds : List D} {ns : List Str}, strsOf ds = some ns → ds = ns.map .str
  | [], _, h => by cases h; rfl
  | .str i :: ds, ns, h => by
    obtain ⟨ms, h1, rfl⟩ := Option.map_eq_some_iff.mp (show (strsOf ds).map (i :: ·) = some ns from h)
    rw [strsOf_map h1]; rfl
@[simp] theorem strsOf_strs : ∀ (ns : List Str), strsOf (ns.map .str) = some ns
  | [] => rfl
  | n :: ns => by show (strsOf (ns.map .str)).map (n :: ·) = _; rw [strsOf_strs ns]; rfl
def joinD (d e : D) : Option D := match d with
  | .str a => (itemsD e).bind fun ds => (strsOf ds).bind fun ys => if (ys.map (·.length)).sum + ys.length * a.length ≤ 16777216 then some (.str (Txt.join a ys)) else none
  | _ => none
def rJoin (K : PySem.W.Frag) : V → List V → Hp → VK → Prop := fun x xs H Q => ∃ a p, ∃ ys : List Str, x = .str a ∧ xs = [.ref p] ∧ (SqL K H p (ys.map V.str) ∨ SqT K H p (ys.map V.str)) ∧ (ys.map (·.length)).sum + ys.length * a.length ≤ 16777216 ∧ Q (.str (Txt.join a ys)) H
theorem de_join (K' : PySem.W.Frag) (ha : DE X m a ta f) (he : DE X m1 e te g) (hK : X.K = K' := by rfl) (hs : starEach [e] X.env = [(false, eval e X.env)] := by rfl) (hbase : attributeBase a "join" X.env (eval a X.env) = eval a X.env := by rfl) (hline : (apos.endLine == pos.line) = true := by rfl) :
    DE X .fz (.Call (.Attribute a "join" apos) [e] [] pos) (tM1 (rJoin K') ta te) (f2 joinD f g) := by
  subst hK
  exact ⟨pe_m1 F.slot_str_join F.type_str_join mt_join ha.p he.p hs hbase hline, fun B F H σ ρ z Q r hf q => by
    obtain ⟨d, h1, h2⟩ := bind_some hf
    obtain ⟨i, h3, h4⟩ := bind_some h2
    refine ha.s B F H σ ρ d _ r h1 fun v F1 H1 x1 r1 => ?_
    cases d with
    | str t =>
      refine ⟨⟨t, r1.str⟩, ?_⟩
      refine he.s B F1 H1 σ ρ i _ (r.ext x1) h3 fun w F2 H2 x2 r2 => ?_
      obtain ⟨ds, h5, h6⟩ := bind_some (show (itemsD i).bind _ = some z from h4)
      obtain ⟨ys, h7, h8⟩ := bind_some h6
      obtain ⟨h9, rfl⟩ := if_some h8
      obtain ⟨l, xs, rfl, s1, p1⟩ := r2.items x2.s h5
      have ed := strsOf_map h7
      subst ed
      have ex := RepA.strs p1
      subst ex
      exact ⟨t, l, ys, r1.str, rfl, s1, h9, q _ F2 H2 (x1.trans x2) (Rep.str _)⟩
    | _ => cases h4⟩
/-! ### xs.extend(a new list) -/
def bExt (j : Nat) (f : Rho → Option D) : Bd := fun ρ => (f ρ).bind fun d => match d with
  | .list es => (owL ρ[j]?).bind fun ds => if ds.length + es.length ≤ sizeLine then some (.nx (ρ.set j (.ow (.list (ds ++ es))))) else none
  | _ => none
theorem ext_some {ρ : Rho} {o : Out} (h : bExt j f ρ = some o) : ∃ ds es, ρ[j]? = some (.ow (.list ds)) ∧ f ρ = some (.list es) ∧ ds.length + es.length ≤ sizeLine ∧ o = .nx (ρ.set j (.ow (.list (ds ++ es)))) := by
  obtain ⟨d, h1, h2⟩ := bind_some h
  cases d with
  | list es =>
    obtain ⟨ds, h3, h4⟩ := bind_some (show (owL ρ[j]?).bind _ = some o from h2)
    obtain ⟨h5, rfl⟩ := if_some h4
    refine ⟨ds, es, ?_, h1, h5, rfl⟩
    revert h3
    cases hq : ρ[j]? with
    | none => intro h3; cases h3
    | some sl =>
      cases sl with
      | ow d =>
        cases d with
        | list l => intro h3; cases h3; rfl
        | _ => intro h3; cases h3
      | _ => intro h3; cases h3
  | _ => cases h2
theorem sem_ext {K : PySem.W.Frag} (h : SemE K .fr te f) : SemS K m [] (tDrop (tBM K "list" rExtend (tVar j) (tCons te tNil))) (bExt j f) := by
  intro B F H σ ρ o D r hb q
  obtain ⟨ds, es, e1, e2, hl, rfl⟩ := ext_some hb
  obtain ⟨a, vs, h1, h2, h3, h4, h5⟩ := r.own e1
  refine ⟨_, h1, tyL h4, ?_⟩
  refine h B F H σ ρ _ _ r e2 fun v F1 H1 x1 r1 => ?_
  obtain ⟨b, rfl, k1, k2, ys, k3, k4⟩ := r1
  have h6 := x1.h _ _ h4
  refine ⟨a, b, vs, ys, rfl, rfl, h6, k3, by rw [h5.length, k4.length]; exact hl, ?_⟩
  have hF1 : F1 a = none := x1.keepNone h2 (by rw [h4]; exact fun z => nomatch z)
  exact q σ F1 _ ((r.ext x1).write e1 h1 hF1 h3 ⟨vs ++ ys, upd_same, (h5.mono x1.f).append k4⟩) fun _ _ => rfl
theorem ds_ext {pn : Pos} (he : DE X .fr e te f) (hN : X.N[j]? = some x := by rfl) (hv : Vis X.env.scope x := by first | exact Or.inl rfl | exact Or.inr (Or.inl rfl) | exact Or.inr (Or.inr rfl)) (hd : (x == ("__debug__" : Str)) = false := by decide) (hcd : (x == ("__classdict__" : Str)) = false := by decide)
    (hbase : attributeBase (.Name x pn) "extend" X.env (eval (.Name x pn) X.env) = eval (.Name x pn) X.env := by rfl)
    (hfew : ((backTo p (starEach [e] X.env)).all (fun x => !x.1) && (backToKw p (keywordEach [] X.env)).all (fun x => x.1.isSome)
      && decide ([e].length + ([] : List Keyword).length + (if ([] : List Keyword).isEmpty then 0 else 1) < 30)) = true := by rfl)
    (hline : (apos.endLine == p.line) = true := by rfl) (hs : starEach [e] X.env = (false, eval e X.env) :: starEach [] X.env := by rfl) (hsw : swapsWith (.Call (.Attribute (.Name x pn) "extend" apos) [e] [] p) none pos.line X.env = pure false := by rfl) :
    DS X m [] (.Expr (.Call (.Attribute (.Name x pn) "extend" apos) [e] [] p) pos) (tDrop (tBM X.K "list" rExtend (tVar j) (tCons te tNil))) (bExt j f) :=
  ⟨ps_expr (pe_bm PySem.F.plainAttrs_list PySem.F.slot_list_extend PySem.F.type_list_extend mt_extend (pe_var hN hv hd hcd) (pa_cons he.p pa_nil hs) hbase hfew hline hs rfl) hsw, sem_ext he.s⟩
/-! ### min(xs, default=d) -/
def rMinDf (K : PySem.W.Frag) : List V → List V → Hp → VK → Prop := fun vs zs H Q => ∃ a xs F w ds, vs = [V.ref a] ∧ zs = [w] ∧ Same F H ∧ SqA K H a xs ∧ RepA K F xs ds ∧ (ds = [] → Q w H) ∧ (∀ y ys, ds = y :: ys → bestOk (y :: ys) = true ∧ ∀ v, Rep K F v (PySem.W.minD y ys) → Q v H)
theorem cr_minDf (K' : PySem.W.Frag) (hc : X.calm = true) (hu : X.A.units + 70 < cLine) (hK : X.K = K' := by rfl) : CallRK X (.builtin "min") [Str.ofString "default"] (rMinDf K') := by
  subst hK
  intro pins s σ H vs zs us ws Q I r rz h
  obtain ⟨a, xs, F, w, ds, rfl, rfl, fh, sq, rp, q0, q1⟩ := h
  obtain rfl := Vals.ref1 r
  obtain ⟨w1, rfl, e1⟩ := vals1 rz
  have key : PySem.W.AlikeAll ds ∧ PyData.depthAll ds ≤ 64 := by
    cases ds with
    | nil => exact ⟨⟨fun d hd => (nomatch hd), fun d hd => (nomatch hd)⟩, Nat.zero_le _⟩
    | cons y ys => exact bestOk_of (q1 y ys rfl).1
  obtain ⟨h1, h2⟩ := key
  rcases sq with sq | sq
  · obtain ⟨its, rv, pl, hz⟩ := I.list sq
    obtain ⟨as, hr⟩ := Dp.readsAll I ds xs its ((rp.mono fh).dp (ndA_of _ fun d hd => nd_alike d (h1.1 d hd d hd))) rv
    refine PySem.W.min_list_default (I.ok.hd hc) pl.isList (show ReadsAll s.heap its.toArray.toList _ _ from hr) h1 (by omega) (fun e h' tk hk => ⟨w, H, I.kept hk, e1, q0 e⟩) fun y ys i v h' tk bs e hi hr' hk => ?_
    subst e
    obtain ⟨w, r1, r2⟩ := best_end (tk := tk) I fh rv rp h1 (minD_mem y ys) hi hr' hk
    exact ⟨w, H, I.kept hk, r1, (q1 y ys rfl).2 w r2⟩
  · obtain ⟨its, rv, pl, hz⟩ := I.tuple sq
    obtain ⟨as, hr⟩ := Dp.readsAll I ds xs its ((rp.mono fh).dp (ndA_of _ fun d hd => nd_alike d (h1.1 d hd d hd))) rv
    refine PySem.W.min_tuple_default (I.ok.hd hc) pl (show ReadsAll s.heap its.toArray.toList _ _ from hr) h1 (by omega) (fun e h' tk hk => ⟨w, H, I.kept hk, e1, q0 e⟩) fun y ys i v h' tk bs e hi hr' hk => ?_
    subst e
    obtain ⟨w, r1, r2⟩ := best_end (tk := tk) I fh rv rp h1 (minD_mem y ys) hi hr' hk
    exact ⟨w, H, I.kept hk, r1, (q1 y ys rfl).2 w r2⟩
def minDf (d z : D) : Option D := (itemsD d).bind fun ds => match ds with
  | [] => some z
  | ds => minOf ds
theorem de_minDf (K' : PySem.W.Frag) {kpos : Pos} (hg : Gl X "min") (hm : X.mg "min" = none) (hu : X.A.units + 70 < cLine) (he : DE X m e te f) (hd : DE X .fz a ta g) (hc : X.calm = true := by rfl) (hK : X.K = K' := by rfl)
    (hs : backTo pos (starEach [e] X.env) = (false, eval e X.env) :: backTo pos (starEach [] X.env) := by rfl) (hpl : (backTo pos (starEach [e] X.env)).any (·.1) = false := by rfl)
    (hall : (backToKw pos (keywordEach [⟨some (Str.ofString "default"), a, kpos⟩] X.env)).all (·.1.isSome) = true := by rfl) (hnone : (backToKw pos (keywordEach [⟨some (Str.ofString "default"), a, kpos⟩] X.env)).any (·.1.isNone) = false := by rfl) (hks : (backToKw pos (keywordEach [⟨some (Str.ofString "default"), a, kpos⟩] X.env)).filterMap (·.1) = [Str.ofString "default"] := by rfl) (hn1 : starEach [e] X.env = (false, eval e X.env) :: starEach [] X.env := by rfl) :
    DE X .fz (.Call (.Name "min" p) [e] [⟨some (Str.ofString "default"), a, kpos⟩] pos) (tCKw (rMinDf K') (tCons te tNil) (tCons ta tNil)) (f2 minDf f g) := by
  have hcr := cr_minDf K' hc hu hK
  subst hK
  exact ⟨pe_callBK hcr hg hm bt_min (pa_cons he.p pa_nil hn1) (pk_cons hd.p pk_nil) (by decide) (by decide) hs hpl hall hnone hks, fun B F H σ ρ z Q r hf q => by
    obtain ⟨d, h1, h2⟩ := bind_some hf
    obtain ⟨i, h3, h4⟩ := bind_some h2
    obtain ⟨ds, h5, h6⟩ := bind_some (show (itemsD d).bind _ = some z from h4)
    refine he.s B F H σ ρ d _ r h1 fun v F1 H1 x1 r1 => ?_
    refine hd.s B F1 H1 σ ρ i _ (r.ext x1) h3 fun w F2 H2 x2 r2 => ?_
    obtain ⟨l, xs, rfl, s1, p1⟩ := (r1.mono x2).items x2.s h5
    refine ⟨l, xs, F2, w, ds, rfl, rfl, x2.s, s1, p1, fun e => ?_, fun y ys e => ?_⟩
    · subst e
      cases h6
      exact q _ F2 H2 (x1.trans x2) r2
    · subst e
      obtain ⟨ok, rfl⟩ := if_some (show (if bestOk (y :: ys) = true then some (PySem.W.minD y ys) else none) = some z from h6)
      exact ⟨ok, fun v rv => q v F2 H2 (x1.trans x2) rv⟩⟩
/-! ### min of three -/
def min3D : List D → Option D
  | [.int a, .int b, .int c] => some (.int (min (min a b) c))
  | _ => none
def rMin3 : List V → Hp → VK → Prop := fun xs H Q => ∃ a b c : Int, xs = [.int a, .int b, .int c] ∧ Q (.int (min (min a b) c)) H
theorem cr_min3 (hc : X.calm = true) : CallR X (.builtin "min") rMin3 := by
  intro pins s σ H xs us Q I r h
  obtain ⟨a, b, c, rfl, q⟩ := h
  cases r with
  | cons r1 r => cases r with
  | cons r2 r => cases r with
  | cons r3 r =>
  cases r
  obtain ⟨t1, rfl⟩ := r1
  obtain ⟨t2, rfl⟩ := r2
  obtain ⟨t3, rfl⟩ := r3
  refine min_three_ints (I.ok.hd hc) fun h' tk k => ⟨_, H, I.kept k, ?_, q⟩
  by_cases h1 : b < a
  · rw [if_pos h1]
    by_cases h2 : c < b
    · rw [if_pos h2]; exact ⟨t3, by congr 1; omega⟩
    · rw [if_neg h2]; exact ⟨t2, by congr 1; omega⟩
  · rw [if_neg h1]
    by_cases h2 : c < a
    · rw [if_pos h2]; exact ⟨t3, by congr 1; omega⟩
    · rw [if_neg h2]; exact ⟨t1, by congr 1; omega⟩
theorem cs_min3 {K : PySem.W.Frag} : CallS K .fz rMin3 min3D := by
  intro F H Ha vs ds z Q fh r hz q
  match ds, r, hz with
  | [.int a, .int b, .int c], r, hz =>
    cases hz
    obtain ⟨x, y, w, rfl, r1, r2, r3⟩ := resA3 r
    rw [r1.int, r2.int, r3.int]
    exact ⟨a, b, c, rfl, q _ F H (.refl fh) (Rep.int _)⟩
@[simp] theorem min3_i (a b c : Int) : min3D [.int a, .int b, .int c] = some (.int (min (min a b) c)) := rfl
@[simp] theorem revSD_e (ds : List D) : revSD (.list ds) (.int (-1)) = some (.list ds.reverse) := rfl
@[simp] theorem bExt_e {ρ : Rho} : bExt j f ρ = (f ρ).bind fun d => match d with
  | .list es => (owL ρ[j]?).bind fun ds => if ds.length + es.length ≤ sizeLine then some (.nx (ρ.set j (.ow (.list (ds ++ es))))) else none
  | _ => none := rfl
end
end Q
end

/-! part: Q25 -/
section
set_option Elab.async false
set_option linter.all false
set_option maxRecDepth 100000
set_option maxHeartbeats 4000000
set_option autoImplicit false
namespace Q
open PySem PySem.Spec PySem.Calls PyProof.Rows L2
/-! ### enumerate over a text -/
def IteS (z : Str) : It :=
  ⟨fun i _ => i < z.cps.size, fun i H v H' => ∃ T c, v = .ref T ∧ H T = none ∧ z.cps[i]? = some c ∧ H' = upd H T (.tup [.int (i : Nat), .str ⟨#[c]⟩]), fun i _ => z.cps.size ≤ i⟩
theorem turn_enumS {P : Program} {w : World} {K : PySem.W.Frag} {elts : List Expr} {kk : Nat} {tpos : Pos} (e it : Addr) (z : Str) (t : Tok) :
    Turn P w K (.Tuple elts kk tpos) (IteS z) [e, it] e (fun i h => i ≤ z.cps.size ∧ (∃ old, IsEnum h e it ((i : Nat) : Int) old) ∧ h.IsStrIter it (strIterType z) z t i ∧ e ≠ it) where
  mem := by simp
  obj := fun i h st b hb => by
    obtain ⟨_, ⟨old, he⟩, ⟨o, ho, hc, hd⟩, _⟩ := st
    have e' : b = e ∨ b = it := by simpa using hb
    rcases e' with z | z
    · rw [z]; exact ⟨_, he, fun v q => nomatch q⟩
    · rw [z]; exact ⟨o, ho, fun v q => by rw [hd] at q; cases q⟩
  keep := fun i h h' st k => let ⟨hn, ⟨old, he⟩, ⟨o, ho, r⟩, hne⟩ := st; ⟨hn, ⟨old, k e (by simp) _ he⟩, ⟨o, k it (by simp) o ho, r⟩, hne⟩
  item := by
    intro X hP hw hK hc i pins s σ H E I hf st hg
    subst hP hw hK
    obtain ⟨_, ⟨old, he⟩, hit, hne⟩ := st
    have hlt : i < z.cps.size := hg
    have hel : e < s.heap.objs.size := Heap.lt_size he
    have hil : it < s.heap.objs.size := by obtain ⟨_, q, _⟩ := hit; exact Heap.lt_size q
    have Dr := Draws.text (prog := X.prog) (w := X.w) (A := X.A.in1) (I.ok.hd hc) it z t
    refine wpAny_pyNext_enum_itemD Dr he hit hlt hne (by simp [hne]) fun u' h' tk hP' ho hit' hT hsz hk => ?_
    obtain ⟨c, u, hcx, rfl⟩ := hP'
    refine ⟨_, rfl, wpAny_letOwnedTupleGo_enum (s := { s with heap := h', toks := tk + 1 }) ho fun h'' he' sb => ?_⟩
    have hT2 : h''.get? s.heap.objs.size = some { cls := .type "tuple", data := .seq #[.int i tk, .str ⟨#[c]⟩ u] } := (sb.2 _ (Nat.ne_of_gt hel)).trans hT
    have new : ObjOk X.prog X.w (upd H s.heap.objs.size (.tup [.int (i : Nat), .str ⟨#[c]⟩])) h'' s.heap.objs.size (.tup [.int (i : Nat), .str ⟨#[c]⟩]) :=
      ⟨by show 2 ≤ sizeLine; decide, [.int i tk, .str ⟨#[c]⟩ u], .cons ⟨_, rfl⟩ (.cons ⟨_, rfl⟩ .nil), ⟨_, hT2, rfl, _, rfl⟩⟩
    have I1 : Inv X pins σ (upd H s.heap.objs.size (.tup [.int (i : Nat), .str ⟨#[c]⟩])) { s with heap := h'', toks := tk + 1 } :=
      I.turnedNew (ch := [e, it]) (fun b ob hb q => (sb.2 b (fun z => hb (by simp [z]))).trans (hk b ob (fun z => hb (by simp [z])) (fun z => hb (by simp [z])) q)) hf (Nat.le_refl _) new
    refine ⟨.ref s.heap.objs.size, _, I1, rfl, ⟨_, c, rfl, I.hok.fresh (Nat.le_refl _), hcx, rfl⟩, ⟨hlt, ⟨.str ⟨#[c]⟩ u, ?_⟩, ?_, hne⟩, fun b hb => ?_⟩
    · have e1 : ((i + 1 : Nat) : Int) = (i : Int) + 1 := by omega
      rw [e1]; exact he'
    · obtain ⟨o, ho', r⟩ := hit'
      exact ⟨o, (sb.2 it (Ne.symm hne)).trans ho', r⟩
    · have hb' : b < s.heap.objs.size := by
        have e' : b = e ∨ b = it := by simpa using hb
        rcases e' with z | z
        · rw [z]; exact hel
        · rw [z]; exact hil
      rw [upd_ne (Nat.ne_of_lt hb')]
      exact (hf b hb).1
  done := by
    intro X hP hw hK hc i pins s σ H E I hf st hg
    subst hP hw hK
    obtain ⟨hin, ⟨old, he⟩, hit, hne⟩ := st
    have hge : z.cps.size ≤ i := hg
    obtain ⟨f0, f1, f2, f3, f4, f5⟩ := hf it (by simp)
    have Dr := Draws.text (prog := X.prog) (w := X.w) (A := X.A.in1) (I.ok.hd hc) it z t
    have ei : i = z.cps.size := by omega
    subst ei
    exact wpAny_pyNext_enum_endD Dr he hit fun h' eb => ⟨rfl, I.turned (t' := s.toks) (fun b o hb q => eb b o hb q) f0 f1 f3 f4 f5⟩
  self := fun A i s Q E st h => let ⟨_, ⟨_, he⟩, _⟩ := st; wpAny_pyIter_enum he h
def iEnumS (te : TE) : TI := fun σ H R => te σ H fun v H1 => ∃ z, v = .str z ∧ R (IteS z) H1
theorem pi_enumS {X : Cx} {e : Expr} {te : TE} {p pos tpos : Pos} {elts : List Expr} {kk : Nat} (hg : Gl X "enumerate") (hm : X.mg "enumerate" = none) (he : PE X e te) (hs : starEach [e] X.env = (false, eval e X.env) :: starEach [] X.env := by rfl) :
    PI X (.Tuple elts kk tpos) (.Call (.Name "enumerate" p) [e] [] pos) (iEnumS te) := by
  refine ⟨fun pins s σ H R I h => ?_⟩
  refine Call_ (ld_blt I hg hm boot_enumerate (PyProof.Rows.callWith_type1 (args_cons (thn (he.run pins s σ H _ I h) fun u s1 ⟨v, H1, I1, r1, q1⟩ => args_nil ?_) hs) hs rfl))
  obtain ⟨z, ev, q⟩ := q1
  subst ev
  obtain ⟨t, rfl⟩ : ∃ t, u = .str z t := r1
  have fresh2 : ∀ b, b ∈ [s1.heap.objs.size + 1, s1.heap.objs.size] → FpOk X pins H1 b := fun b hb => by
    have e' : b = s1.heap.objs.size + 1 ∨ b = s1.heap.objs.size := by simpa using hb
    have hle : s1.heap.objs.size ≤ b := by
      rcases e' with z | z
      · rw [z]; exact Nat.le_add_right _ _
      · rw [z]; exact Nat.le_refl _
    exact I1.fpOk hle (I1.hok.fresh hle)
  refine enum_begins1 (begins_text z t) trivial fun h' he hit hsz hk => wpAny_pyIter_enum he ?_
  have I2 : Inv X pins σ H1 { s1 with heap := h' } := I1.kept (t' := s1.toks) hk
  exact ⟨s1.heap.objs.size + 1, [s1.heap.objs.size + 1, s1.heap.objs.size], _, _, H1, rfl, I2, turn_enumS (s1.heap.objs.size + 1) s1.heap.objs.size z t, ⟨Nat.zero_le _, ⟨.none, he⟩, ⟨_, hit, rfl, rfl⟩, Nat.succ_ne_self _⟩, fresh2, q⟩
theorem signs_at {z : Str} {i : Nat} {d : D} (h : (signsD z)[i]? = some d) : ∃ c, z.cps[i]? = some c ∧ d = .str ⟨#[c]⟩ := by
  unfold signsD at h
  rw [List.getElem?_map, Option.map_eq_some_iff] at h
  obtain ⟨c, h1, h2⟩ := h
  exact ⟨c, by rw [← h1]; simp, h2.symm⟩
theorem signs_length (z : Str) : (signsD z).length = z.cps.size := by simp [signsD]
theorem iteS_ok {K : PySem.W.Frag} {F : Hp} {z : Str} {st : Hp → Prop} : ItO true K (IteS z) F st (numL 0 (signsD z)) :=
  ⟨fun i F' H' hi s1 s2 s3 => by
    rw [numL_length, signs_length] at hi
    exact hi, fun i d F' H' v H3 hd s1 s2 s3 yy => by
    obtain ⟨T, c, rfl, hT, hc, rfl⟩ := yy
    obtain ⟨dx, h1, rfl⟩ := numL_at hd
    obtain ⟨c', h3, rfl⟩ := signs_at h1
    rw [hc] at h3
    cases h3
    rw [Nat.zero_add]
    exact pair_ok s2 hT (Rep.int _) (Rep.str _), fun i F' H' hi s1 s2 s3 => by
    rw [numL_length, signs_length] at hi
    exact hi⟩
def fEnumS (f : Rho → Option D) : Rho → Option (List D) := fun ρ => (f ρ).bind fun d => match d with
  | .str z => some (numL 0 (signsD z))
  | _ => none
section
variable {X : Cx} {m : Md} {e : Expr} {te : TE} {f : Rho → Option D} {p pos tpos : Pos} {elts : List Expr} {kk : Nat}
theorem sem_enumS {K : PySem.W.Frag} (h : SemE K m te f) : SemI true K .fz (iEnumS te) (fEnumS f) := by
  intro B F H σ ρ ds R rel hf q
  obtain ⟨d, h1, h2⟩ := bind_some hf
  refine h B F H σ ρ d _ rel h1 fun v F1 H1 x1 r1 => ?_
  cases d with
  | str z =>
    cases h2
    exact ⟨z, r1.str, q _ F1 H1 x1 iteS_ok⟩
  | _ => cases h2
theorem di_enumS (hg : Gl X "enumerate") (hm : X.mg "enumerate" = none) (he : DE X m e te f) (hs : starEach [e] X.env = (false, eval e X.env) :: starEach [] X.env := by rfl) :
    DI true X .fz (.Tuple elts kk tpos) (.Call (.Name "enumerate" p) [e] [] pos) (iEnumS te) (fEnumS f) := ⟨pi_enumS hg hm he.p hs, sem_enumS he.s⟩
def enumSD (d : D) : Option (List D) := match d with
  | .str z => some (numL 0 (signsD z))
  | _ => none
@[simp] theorem fEnumS_e {ρ : Rho} : fEnumS f ρ = (f ρ).bind enumSD := rfl
end
end Q
end

/-! part: Q26 -/
section
set_option Elab.async false
set_option linter.all false
set_option maxRecDepth 100000
set_option maxHeartbeats 4000000
set_option autoImplicit false
namespace Q
open PySem PySem.Spec PySem.Calls PyProof.Rows L2
/-! ### dicts whose keys are ints and texts -/
def keyO : D → Option Key
  | .int i => some (.inl i)
  | .str x => some (.inr x)
  | _ => none
theorem keyO_kD (k : Key) : keyO (kD k) = some k := by cases k <;> rfl
def valE (es : List (D × D)) (k : Key) : Option D := (es.find? fun e => decide (keyO e.1 = some k)).map (·.2)
def putE (es : List (D × D)) (k : Key) (d : D) : List (D × D) :=
  if (es.any fun e => decide (keyO e.1 = some k)) = true then es.map (fun e => if keyO e.1 = some k then (e.1, d) else e) else es ++ [(kD k, d)]
section
variable {K : PySem.W.Frag} {F : Hp} {v : V} {d : D} {ks : List (Key × V)} {es : List (D × D)}
theorem rep_key {k : Key} (h : Rep K F v d) (e : keyO d = some k) : v = kV k := by
  cases h with
  | int i => cases e; rfl
  | str x => cases e; rfl
  | _ => cases e
theorem RepK.length : ∀ {ks : List (Key × V)} {es : List (D × D)}, RepK K F ks es → ks.length = es.length
  | _, _, .nil => rfl
  | _, _, .cons _ r => congrArg Nat.succ (RepK.length r)
theorem key_dec (k j : Key) : decide (keyO (kD k) = some j) = decide (k = j) := by rw [keyO_kD]; simp
theorem RepK.val (k : Key) : ∀ {ks : List (Key × V)} {es : List (D × D)}, RepK K F ks es → (valV ks k = none ∧ valE es k = none) ∨ ∃ v d, valV ks k = some v ∧ valE es k = some d ∧ Rep K F v d
  | _, _, .nil => .inl ⟨rfl, rfl⟩
  | _, _, .cons (k := j) h r => by
    unfold valV valE
    rw [List.find?_cons, List.find?_cons]
    dsimp only
    rw [key_dec]
    by_cases c : j = k
    · rw [decide_eq_true c]
      exact .inr ⟨_, _, rfl, rfl, h⟩
    · rw [decide_eq_false c]
      exact RepK.val k r
theorem RepK.any (k : Key) : ∀ {ks : List (Key × V)} {es : List (D × D)}, RepK K F ks es → (ks.any fun e => decide (e.1 = k)) = es.any fun e => decide (keyO e.1 = some k)
  | _, _, .nil => rfl
  | _, _, .cons (k := j) h r => by
    rw [List.any_cons, List.any_cons, RepK.any k r]
    dsimp only
    rw [key_dec]
theorem RepK.repl (k : Key) (h : Rep K F v d) : ∀ {ks : List (Key × V)} {es : List (D × D)}, RepK K F ks es → RepK K F (ks.map fun e => if e.1 = k then (e.1, v) else e) (es.map fun e => if keyO e.1 = some k then (e.1, d) else e)
  | _, _, .nil => .nil
  | _, _, .cons (k := j) q r => by
    rw [List.map_cons, List.map_cons]
    dsimp only
    rw [keyO_kD]
    by_cases c : j = k
    · subst c
      rw [if_pos rfl, if_pos rfl]
      exact .cons h (RepK.repl j h r)
    · rw [if_neg c, if_neg fun z => c (Option.some.inj z)]
      exact .cons q (RepK.repl k h r)
theorem RepK.append : ∀ {ks js : List (Key × V)} {es fs : List (D × D)}, RepK K F ks es → RepK K F js fs → RepK K F (ks ++ js) (es ++ fs)
  | _, _, _, _, .nil, s => s
  | _, _, _, _, .cons h r, s => .cons h (RepK.append r s)
theorem RepK.put (k : Key) (h : Rep K F v d) (r : RepK K F ks es) : RepK K F (putK ks k v) (putE es k d) := by
  unfold putK putE
  rw [r.any k]
  by_cases c : (es.any fun e => decide (keyO e.1 = some k)) = true
  · rw [if_pos c, if_pos c]
    exact r.repl k h
  · rw [if_neg c, if_neg c]
    exact r.append (.cons h .nil)
theorem Res.dict {m : Md} {H0 H : Hp} (h : Res K m H0 F H v (.dict es)) (fh : Same F H) : ∃ a ks, v = .ref a ∧ Rd H a (.dK ks) ∧ RepK K F ks es := by
  rcases h.any with h | ⟨a, rfl, _, o⟩
  · cases h with
    | dct h1 r => exact ⟨_, _, rfl, fh.rd h1, r⟩
  · obtain ⟨ks, e, r⟩ := o
    exact ⟨a, ks, rfl, .of e, r⟩
end
/-! reading -/
def dgetD : D → D → Option D
  | .dict es, y => (keyO y).bind fun k => valE es k
  | _, _ => none
def dinD (r : Bool → Bool) : D → D → Option D
  | y, .dict es => (keyO y).map fun k => .bool (r (valE es k).isSome)
  | _, _ => none
def dget1D : D → D → Option D
  | .dict es, y => (keyO y).map fun k => (valE es k).getD .none
  | _, _ => none
def dget2D : D → D → D → Option D
  | .dict es, y, z => (keyO y).map fun k => (valE es k).getD z
  | _, _, _ => none
section
variable {X : Cx} {m m1 m2 : Md} {o i z : Expr} {td ty tx : TE} {f g h : Rho → Option D} {pos apos cpos : Pos}
theorem dict_of {d : D} {α : Type} {F : List (D × D) → Option α} {x : α} (h : (match d with | .dict es => F es | _ => none) = some x) : ∃ es, d = .dict es ∧ F es = some x := by
  cases d with
  | dict es => exact ⟨es, rfl, h⟩
  | _ => cases h
theorem de_dget (hu : X.A.units + 64 < cLine) (ho : DE X m o td f) (hi : DE X .fz i ty g) (hs : NoSl i := by intro _ _; rfl) : DE X .fz (.Subscript o i pos) (tDGet td ty) (f2 dgetD f g) := by
  refine ⟨pe_dget (by omega) ho.p hi.p hs, fun B F H σ ρ d Q r hf q => ?_⟩
  obtain ⟨d1, h1, h2⟩ := bind_some hf
  obtain ⟨y, h3, h4⟩ := bind_some h2
  cases d1 with
  | dict es =>
    obtain ⟨k, h5, h6⟩ := bind_some (show ((keyO y).bind fun k => valE es k) = some d from h4)
    refine ho.s B F H σ ρ _ _ r h1 fun v F1 H1 x1 r1 => ?_
    refine hi.s B F1 H1 σ ρ y _ (r.ext x1) h3 fun u F2 H2 x2 r2 => ?_
    obtain ⟨a, ks, rfl, rd, rk⟩ := (r1.mono x2).dict x2.s
    have r2 := rep_key r2 h5
    subst r2
    rcases rk.val k with ⟨_, z2⟩ | ⟨w, d', z1, z2, z3⟩
    · rw [z2] at h6; cases h6
    · rw [z2] at h6; cases h6
      exact ⟨a, w, rfl, .inl ⟨ks, k, rd, rfl, z1.symm⟩, q w F2 H2 (x1.trans x2) z3⟩
  | _ => cases h4
theorem sem_din {K : PySem.W.Frag} (r0 : Bool → Bool) (hi : SemE K .fz ty g) (ho : SemE K m td f) : SemE K .fz (fun σ H Q => ty σ H fun y H1 => td σ H1 fun x H2 => ∃ a o, x = .ref a ∧ DGet H2 a y o ∧ Q (.bl (r0 o.isSome)) H2) (f2 (dinD r0) g f) := by
  intro B F H σ ρ d Q r hf q
  obtain ⟨y, h1, h2⟩ := bind_some hf
  obtain ⟨d1, h3, h4⟩ := bind_some h2
  cases d1 with
  | dict es =>
    obtain ⟨k, h5, h6⟩ := Option.map_eq_some_iff.mp (show ((keyO y).map fun k => PyData.bool (r0 (valE es k).isSome)) = some d by cases y <;> exact h4)
    subst h6
    refine hi B F H σ ρ y _ r h1 fun u F1 H1 x1 r1 => ?_
    refine ho B F1 H1 σ ρ _ _ (r.ext x1) h3 fun v F2 H2 x2 r2 => ?_
    obtain ⟨a, ks, rfl, rd, rk⟩ := r2.dict x2.s
    have r1 := rep_key r1 h5
    subst r1
    refine ⟨a, valV ks k, rfl, .inl ⟨ks, k, rd, rfl, rfl⟩, q _ F2 H2 (x1.trans x2) ?_⟩
    rcases rk.val k with ⟨z1, z2⟩ | ⟨w, d', z1, z2, z3⟩
    · rw [z1, z2]; exact Rep.bl _
    · rw [z1, z2]; exact Rep.bl _
  | _ => cases y <;> cases h4
theorem de_din (hu : X.A.units + 64 < cLine) (hi : DE X .fz i ty g) (ho : DE X m o td f) (hm : behindInMarks .In o = false := by rfl) : DE X .fz (.Compare i [.In] [o] pos) (tDIn ty td) (f2 (dinD id) g f) :=
  ⟨pe_cmp (pc_din (by omega) hi.p ho.p) hm, sem_din id hi.s ho.s⟩
theorem de_dnot (hu : X.A.units + 64 < cLine) (hi : DE X .fz i ty g) (ho : DE X m o td f) (hm : behindInMarks .NotIn o = false := by rfl) : DE X .fz (.Compare i [.NotIn] [o] pos) (tDNotIn ty td) (f2 (dinD not) g f) :=
  ⟨pe_cmp (pc_dnotin (by omega) hi.p ho.p) hm, sem_din not hi.s ho.s⟩
theorem dt_din (hu : X.A.units + 64 < cLine) (hi : DE X .fz i ty g) (ho : DE X m o td f) (hm : behindInMarks .In o = false := by rfl) : DT X (.Compare i [.In] [o] pos) (tTest (tDIn ty td)) (fT (f2 (dinD id) g f)) :=
  ⟨pt_cmp (pc_din (by omega) hi.p ho.p) hm, sem_test (sem_din id hi.s ho.s)⟩
theorem dt_dnot (hu : X.A.units + 64 < cLine) (hi : DE X .fz i ty g) (ho : DE X m o td f) (hm : behindInMarks .NotIn o = false := by rfl) : DT X (.Compare i [.NotIn] [o] pos) (tTest (tDNotIn ty td)) (fT (f2 (dinD not) g f)) :=
  ⟨pt_cmp (pc_dnotin (by omega) hi.p ho.p) hm, sem_test (sem_din not hi.s ho.s)⟩
theorem isD_rd {H : Hp} {a : Addr} {ks : List (Key × V)} (h : Rd H a (.dK ks)) : IsD H a := .inl ⟨ks, h⟩
theorem de_dget1 (hu : X.A.units + 64 < cLine) (ho : DE X m o td f) (hi : DE X .fz i ty g) (hm : M1 X o "get" apos i cpos := by exact ⟨rfl, rfl, rfl, rfl⟩) : DE X .fz (.Call (.Attribute o "get" apos) [i] [] cpos) (tDGet1 td ty) (f2 dget1D f g) := by
  refine ⟨pe_dget1 (by omega) ho.p hi.p hm, fun B F H σ ρ d Q r hf q => ?_⟩
  obtain ⟨d1, h1, h2⟩ := bind_some hf
  obtain ⟨y, h3, h4⟩ := bind_some h2
  cases d1 with
  | dict es =>
    obtain ⟨k, h5, h6⟩ := Option.map_eq_some_iff.mp (show ((keyO y).map fun k => (valE es k).getD .none) = some d from h4)
    subst h6
    refine ho.s B F H σ ρ _ _ r h1 fun v F1 H1 x1 r1 => ?_
    obtain ⟨a, ks, rfl, rd, rk⟩ := r1.dict x1.s
    refine ⟨a, rfl, isD_rd rd, ?_⟩
    refine hi.s B F1 H1 σ ρ y _ (r.ext x1) h3 fun u F2 H2 x2 r2 => ?_
    have r2 := rep_key r2 h5
    subst r2
    refine ⟨valV ks k, .inl ⟨ks, k, x2.h.rd rd, rfl, rfl⟩, q _ F2 H2 (x1.trans x2) ?_⟩
    rcases rk.val k with ⟨z1, z2⟩ | ⟨w, d', z1, z2, z3⟩
    · rw [z1, z2]; exact Rep.non
    · rw [z1, z2]; exact z3.mono x2.f
  | _ => cases h4
def fGet2 (f g h : Rho → Option D) : Rho → Option D := fun ρ => (f ρ).bind fun d => (g ρ).bind fun y => (h ρ).bind fun z => dget2D d y z
theorem de_dget2 (hu : X.A.units + 64 < cLine) (ho : DE X m o td f) (hi : DE X .fz i ty g) (hz : DE X .fz z tx h) (hm : M2 X o "get" apos i z cpos := by exact ⟨rfl, rfl, rfl, rfl⟩) :
    DE X .fz (.Call (.Attribute o "get" apos) [i, z] [] cpos) (tDGet2 td ty tx) (fGet2 f g h) := by
  refine ⟨pe_dget2 (by omega) ho.p hi.p hz.p hm, fun B F H σ ρ d Q r hf q => ?_⟩
  obtain ⟨d1, h1, h2⟩ := bind_some hf
  obtain ⟨y, h3, h4⟩ := bind_some h2
  obtain ⟨e, h7, h8⟩ := bind_some h4
  cases d1 with
  | dict es =>
    obtain ⟨k, h5, h6⟩ := Option.map_eq_some_iff.mp (show ((keyO y).map fun k => (valE es k).getD e) = some d from h8)
    subst h6
    refine ho.s B F H σ ρ _ _ r h1 fun v F1 H1 x1 r1 => ?_
    obtain ⟨a, ks, rfl, rd, rk⟩ := r1.dict x1.s
    refine ⟨a, rfl, isD_rd rd, ?_⟩
    refine hi.s B F1 H1 σ ρ y _ (r.ext x1) h3 fun u F2 H2 x2 r2 => ?_
    refine hz.s B F2 H2 σ ρ e _ ((r.ext x1).ext x2) h7 fun w0 F3 H3 x3 r3 => ?_
    have r2 := rep_key r2 h5
    subst r2
    refine ⟨valV ks k, .inl ⟨ks, k, x3.h.rd (x2.h.rd rd), rfl, rfl⟩, q _ F3 H3 ((x1.trans x2).trans x3) ?_⟩
    rcases rk.val k with ⟨z1, z2⟩ | ⟨w, d', z1, z2, z3⟩
    · rw [z1, z2]; exact r3
    · rw [z1, z2]; exact (z3.mono x2.f).mono x3.f
  | _ => cases h8
end
/-! new dicts -/
section
variable {X : Cx} {k v : Expr} {tk tv : TE} {f g : Rho → Option D} {pos : Pos}
theorem de_dnew : DE X .fr (.Dict [] [] pos) tDNewK (cD (.dict [])) := ⟨pe_dnewK, fun B F H σ ρ d Q r hf q p hp => by
  cases hf
  have hF : F p = none := r.fh.free hp
  refine q _ F _ ⟨.refl _, same_upd hp, .refl, fun b u z => ?_⟩ ⟨p, rfl, hp, hF, [], upd_same, .nil⟩
  rw [upd_ne (ne_of_none z hF)]; exact r.fh b u z⟩
def disp1D (y d : D) : Option D := (keyO y).map fun k => .dict [(kD k, d)]
theorem de_disp1 (hk : DE X .fz k tk f) (hv : DE X .fz v tv g) : DE X .fr (.Dict [some k] [v] pos) (tDisp [(tk, tv)]) (f2 disp1D f g) := by
  refine ⟨pe_disp (pps_cons hk.p hv.p pps_nil) rfl rfl (by simp) (by simp), fun B F H σ ρ d Q r hf q p hp => ?_⟩
  obtain ⟨y, h1, h2⟩ := bind_some hf
  obtain ⟨e, h3, h4⟩ := bind_some h2
  obtain ⟨j, h5, h6⟩ := Option.map_eq_some_iff.mp (show ((keyO y).map fun k => PyData.dict [(kD k, e)]) = some d from h4)
  subst h6
  have hF : F p = none := r.fh.free hp
  have xx : Ext F H F (upd H p (.dK [])) := ⟨.refl _, same_upd hp, .refl, fun b u z => by rw [upd_ne (ne_of_none z hF)]; exact r.fh b u z⟩
  refine hk.s B F _ σ ρ y _ (r.ext xx) h1 fun u F1 H1 x1 r1 => ?_
  refine hv.s B F1 H1 σ ρ e _ ((r.ext xx).ext x1) h3 fun w F2 H2 x2 r2 => ?_
  have r1 := rep_key r1 h5
  subst r1
  have e1 : H2 p = some (.dK []) := x2.h _ _ (x1.h _ _ upd_same)
  have f1 : F1 p = none := x1.keepNone hF (by rw [upd_same]; exact fun z => nomatch z)
  have f2 : F2 p = none := x2.keepNone f1 (by rw [x1.h _ _ upd_same]; exact fun z => nomatch z)
  have x3 := (xx.trans x1).trans x2
  refine ⟨e1, [(j, w)], rfl, by simp, q _ F2 _ ⟨x3.f, fun b u z => ?_, x3.n, fun b u z => ?_⟩ ⟨p, rfl, hp, f2, [(j, w)], ?_, .cons r2 .nil⟩⟩
  · rw [upd_ne (ne_of_none z hp)]; exact x3.h b u z
  · rw [upd_ne (ne_of_none z f2)]; exact x3.s b u z
  · rw [upd_same]; rfl
end
/-! writing -/
def dcL : Option Sl → Option (List (D × D))
  | some (.ow (.dict es)) => some es
  | _ => none
@[simp] theorem dcL_ow {es : List (D × D)} : dcL (some (.ow (.dict es))) = some es := rfl
def bDput (j : Nat) (fk fv : Rho → Option D) : Bd := fun ρ => (fv ρ).bind fun d => (dcL ρ[j]?).bind fun es => (fk ρ).bind fun y => (keyO y).bind fun k => if es.length < sizeLine then some (.nx (ρ.set j (.ow (.dict (putE es k d))))) else none
theorem dcL_some {s : Option Sl} {es : List (D × D)} (h : dcL s = some es) : s = some (.ow (.dict es)) := by
  unfold dcL at h
  split at h
  · cases h; rfl
  · cases h
theorem sem_dput {K : PySem.W.Frag} {m : Md} {j : Nat} {tk tv : TE} {fk fv : Rho → Option D} (hk : SemE K .fz tk fk) (hv : SemE K .fz tv fv) : SemS K m [] (sDPut (tVar j) tk tv) (bDput j fk fv) := by
  intro B F H σ ρ o D r hb q
  obtain ⟨d, h1, h2⟩ := bind_some hb
  obtain ⟨es, h3, h4⟩ := bind_some h2
  obtain ⟨y, h5, h6⟩ := bind_some h4
  obtain ⟨k, h7, h8⟩ := bind_some h6
  obtain ⟨hl, rfl⟩ := if_some h8
  have h3 := dcL_some h3
  refine hv B F H σ ρ d _ r h1 fun v F1 H1 x1 r1 => ?_
  obtain ⟨oo, e1, a, rfl, hF, hG, ks, e2, rk⟩ := (r.ext x1).at h3
  refine ⟨.ref a, e1, ?_⟩
  refine hk B F1 H1 σ ρ y _ (r.ext x1) h5 fun u F2 H2 x2 r2 => ?_
  have r2 := rep_key r2 h7
  subst r2
  have hF2 : F2 a = none := x2.keepNone hF (by rw [e2]; exact fun z => nomatch z)
  refine ⟨a, _, rfl, DPut.k (x2.h _ _ e2) (by rw [rk.length]; exact hl), ?_⟩
  exact q σ F2 _ (((r.ext x1).ext x2).write h3 e1 hF2 hG ⟨putK ks k v, upd_same, (rk.mono x2.f).put k (Rep.mono x2.f r1)⟩) fun _ _ => rfl
theorem ds_dput {X : Cx} {m : Md} {j : Nat} {x : Str} {pn pos pos' : Pos} {i e : Expr} {tk tv : TE} {fk fv : Rho → Option D} (hu : X.A.units + 64 < cLine) (hk : DE X .fz i tk fk) (hv : DE X .fz e tv fv) (hN : X.N[j]? = some x := by rfl)
    (hvs : Vis X.env.scope x := by first | exact Or.inl rfl | exact Or.inr (Or.inl rfl) | exact Or.inr (Or.inr rfl)) (hd : (x == ("__debug__" : Str)) = false := by decide) (hcd : (x == ("__classdict__" : Str)) = false := by decide)
    (hs : swapsWith e (some (.Subscript (.Name x pn) i pos')) pos.line X.env = pure false := by rfl) :
    DS X m [] (.Assign [.Subscript (.Name x pn) i pos'] e pos) (sDPut (tVar j) tk tv) (bDput j fk fv) :=
  ⟨ps_dput (by omega) (pe_var hN hvs hd hcd) hk.p hv.p hs, sem_dput hk.s hv.s⟩
@[simp] theorem fGet2_e {f g h : Rho → Option D} {ρ : Rho} : fGet2 f g h ρ = (f ρ).bind fun d => (g ρ).bind fun y => (h ρ).bind fun z => dget2D d y z := rfl
@[simp] theorem bDput_e {j : Nat} {fk fv : Rho → Option D} {ρ : Rho} : bDput j fk fv ρ = (fv ρ).bind fun d => (dcL ρ[j]?).bind fun es => (fk ρ).bind fun y => (keyO y).bind fun k => if es.length < sizeLine then some (.nx (ρ.set j (.ow (.dict (putE es k d))))) else none := rfl
end Q
end

/-! part: Q27 -/
section
set_option Elab.async false
set_option linter.all false
set_option maxRecDepth 100000
set_option maxHeartbeats 4000000
set_option autoImplicit false
namespace Q
open PySem PySem.Spec PySem.Calls PyProof.Rows L2
/-! ### x[::-1], a text -/
theorem rev_pick {α : Type} (items : Array α) : ((List.range items.size).map fun k => items.size - 1 - k).filterMap (fun j => items[j]?) = items.toList.reverse := by
  rw [List.filterMap_map]
  have key : (List.range items.size).filterMap ((fun j => items[j]?) ∘ fun k => items.size - 1 - k) = (List.range items.size).filterMap fun k => items.toList.reverse[k]? := by
    refine fm_congr ?_
    intro k hk
    have := List.mem_range.mp hk
    show items[items.size - 1 - k]? = _
    rw [List.getElem?_reverse (by simpa using this)]
    simp
  rw [key]
  have : items.size = items.toList.reverse.length := by simp
  rw [this]
  generalize items.toList.reverse = l
  induction l with
  | nil => rfl
  | cons x l ih =>
    rw [List.length_cons, List.range_succ_eq_map, List.filterMap_cons]
    simp only [List.getElem?_cons_zero, List.filterMap_map]
    congr 1
theorem sidx_rev (n : Nat) : Builtin.Str.strSliceIndices none none (-1) n = (List.range n).map fun k => n - 1 - k := by
  rw [← range_rev]
  rfl
def revS (z : Str) : Str := ⟨z.cps.toList.reverse.toArray⟩
def tRevT (te tc : TE) : TE := fun σ H Q => te σ H fun x H1 => tc σ H1 fun y H2 => ∃ z, x = .str z ∧ y = .int (-1) ∧ z.length ≤ sizeLine ∧ Q (.str (revS z)) H2
section
variable {X : Cx} {m m1 : Md} {e c : Expr} {te tc : TE} {f g : Rho → Option D} {p2 pos : Pos}
theorem pe_revT (he : PE X e te) (hc : PE X c tc) : PE X (.Subscript e (.Slice none none (some c) p2) pos) (tRevT te tc) := by
  refine ⟨fun pins s σ H Q I h => ?_⟩
  refine Subscript_ (thn (he.run pins s σ H _ I h) fun v s1 ⟨x, H1, I1, r1, q1⟩ => ?_)
  refine wpAny_Slice ?_
  rw [evalPart_none]
  refine wpAny_pure (wpAny_pure ?_)
  rw [evalPart_some]
  refine thn (hc.run pins s1 σ H1 _ I1 q1) fun u s2 ⟨y, H2, I2, r2, z, ex, ey, hz, q2⟩ => ?_
  subst ey; subst ex
  obtain ⟨t1, rfl⟩ := r1
  obtain ⟨t, rfl⟩ := r2
  have I4 : Inv X pins σ H2 { s2 with heap := s2.heap.push { cls := .type "slice", data := .fields #[.none, .none, .int (-1) t] } } := I2.kept (t' := s2.toks) fun b ob q => Heap.get?_push_of_some _ q
  show wpAny (model X.prog X.w) X.A (subscriptTail e (.Slice none none (some c) p2) (.str z t1) (.ref s2.heap.objs.size)) (EP X pins σ Q) X.xe { s2 with heap := s2.heap.push { cls := .type "slice", data := .fields #[.none, .none, .int (-1) t] } }
  refine tail_any (ops := [.str z t1, .ref s2.heap.objs.size]) (typeIs_str _ _ _) F.slot_str_getitem.lookup ?_ (by with_unfolding_all rfl)
  refine wpAny_getItem_str_slice (l := none) (u := none) (st := some (-1, t)) ⟨_, Heap.get?_push_size _ rfl, rfl, rfl⟩ rfl ?_
  have hrev : ((Builtin.Str.strSliceIndices none none (-1) z.length).filterMap (z.cps[·]?)).toArray = z.cps.toList.reverse.toArray := by
    rw [sidx_rev]
    exact congrArg List.toArray (rev_pick z.cps)
  show Made.post (Made.str ⟨((Builtin.Str.strSliceIndices none none (-1) z.length).filterMap (z.cps[·]?)).toArray⟩) (EP X pins σ Q) _
  rw [hrev]
  refine ⟨?_, .str (revS z), H2, I4.tok _, ⟨_, rfl⟩, q2⟩
  show (z.cps.toList.reverse.toArray).size ≤ sizeLine
  have : z.cps.size ≤ sizeLine := hz
  simpa using this
def revTD (d c : D) : Option D := match d, c with
  | .str z, .int i => if i = -1 ∧ z.length ≤ sizeLine then some (.str (revS z)) else none
  | _, _ => none
theorem de_revT (he : DE X m e te f) (hc : DE X m1 c tc g) : DE X .fz (.Subscript e (.Slice none none (some c) p2) pos) (tRevT te tc) (f2 revTD f g) := ⟨pe_revT he.p hc.p, fun B F H σ ρ z Q r hf q => by
  obtain ⟨d, h1, h2⟩ := bind_some hf
  obtain ⟨i, h3, h4⟩ := bind_some h2
  refine he.s B F H σ ρ d _ r h1 fun v F1 H1 x1 r1 => ?_
  refine hc.s B F1 H1 σ ρ i _ (r.ext x1) h3 fun w F2 H2 x2 r2 => ?_
  match d, i, h4, r1, r2 with
  | .str x, .int i, h4, r1, r2 =>
    obtain ⟨⟨hn, hl⟩, rfl⟩ := if_some (show (if i = -1 ∧ x.length ≤ sizeLine then some (PyData.str (revS x)) else none) = some z from h4)
    subst hn
    exact ⟨x, r1.str, r2.int, hl, q _ F2 H2 (x1.trans x2) (Rep.str _)⟩⟩
end
end Q
end

/-! part: Q28 -/
section
set_option Elab.async false
set_option linter.all false
set_option maxRecDepth 100000
set_option maxHeartbeats 4000000
set_option autoImplicit false
namespace PySem
open PySem.Spec
open Sem (wp)
/-! ### what the tables say of itertools.combinations and itertools.permutations -/
theorem mro_cmb : mroOf (.type "itertools.combinations") = pure [.type "itertools.combinations", .type "object"] := by rw [mroOf_type]; kernel_rfl
theorem lookup_cmb_new : typeLookup (.type "itertools.combinations") "__new__" = pure (some (.builtin "itertools.combinations.__new__")) := by rw [typeLookup_type, builtinLookup_eq_fast]; kernel_rfl
theorem slot_cmb_init : Slot "itertools.combinations" "__init__" "object.__init__" :=
  .of (owner := "object") (n := "__init__") (by rw [typeLookup_type, builtinLookup_eq_fast]; kernel_rfl) (by decide +kernel) (by decide +kernel) (by decide +kernel)
    (by first | exact .inl (by decide +kernel) | exact .inr (by decide +kernel)) (by rw [isSubtype_type]; kernel_rfl)
theorem sub_cmb : isSubtype (.type "itertools.combinations") (.type "itertools.combinations") = pure true := by rw [isSubtype_type]; kernel_rfl
theorem called_cmb : TypeCalled "itertools.combinations" "itertools.combinations.__new__" "object.__init__" :=
  ⟨by decide +kernel, by decide +kernel, ⟨_, _, mro_cmb⟩, madeBy_type mro_cmb lookup_cmb_new (by decide +kernel), by decide +kernel, sub_cmb, slot_cmb_init⟩
theorem typeCall_cmb (a b : Value) : checkTypeCall "itertools.combinations" ⟨[a, b], []⟩ = pure () := by kernel_rfl
theorem newCall_cmb (a b : Value) : checkBuiltinCall "itertools.combinations.__new__" ⟨[.type "itertools.combinations", a, b], []⟩ = pure () := by kernel_rfl
theorem entry_cmb_new : entryFor table "itertools.combinations.__new__" = some Builtin.«itertools.combinations.__new__» := entryFor_of_tree (by kernel_rfl)
theorem plain_cmb_new : plainId "itertools.combinations.__new__" = true := by decide +kernel
theorem slot_cmb_iter : Slot "itertools.combinations" "__iter__" "itertools.combinations.__iter__" :=
  .of (owner := "itertools.combinations") (n := "__iter__") (by rw [typeLookup_type, builtinLookup_eq_fast]; kernel_rfl) (by decide +kernel) (by decide +kernel) (by decide +kernel)
    (by first | exact .inl (by decide +kernel) | exact .inr (by decide +kernel)) sub_cmb
theorem slot_cmb_next : Slot "itertools.combinations" "__next__" "itertools.combinations.__next__" :=
  .of (owner := "itertools.combinations") (n := "__next__") (by rw [typeLookup_type, builtinLookup_eq_fast]; kernel_rfl) (by decide +kernel) (by decide +kernel) (by decide +kernel)
    (by first | exact .inl (by decide +kernel) | exact .inr (by decide +kernel)) sub_cmb
theorem entry_cmb_iter : entryFor table "itertools.combinations.__iter__" = some Builtin.«dict_keyiterator.__iter__» :=
  entryFor_alias (id' := "dict_keyiterator.__iter__") (by kernel_rfl) (by first | rfl | decide +kernel | (unfold String.splitOn; simp +decide [String.splitOnAux])) (by decide +kernel) (by kernel_rfl)
theorem entry_cmb_next : entryFor table "itertools.combinations.__next__" = some Builtin.«itertools.combinations.__next__» := entryFor_of_tree (by kernel_rfl)
theorem owner_cmb : Manifest.owners.lookup (String.ofList ['s', 'n', 'o', 'i', 't', 'a', 'n', 'i', 'b', 'm', 'o', 'c', '.', 's', 'l', 'o', 'o', 't', 'r', 'e', 't', 'i'].reverse) = some Manifest.sig_itertools_combinations := by kernel_rfl
theorem args_cmb_iter (a : Value) : argsOk "itertools.combinations.__iter__" ⟨[a], []⟩ := by
  unfold argsOk; rw [signature?_of (id := "itertools.combinations.__iter__") (n := ['_', '_', 'r', 'e', 't', 'i', '_', '_']) (o := ['s', 'n', 'o', 'i', 't', 'a', 'n', 'i', 'b', 'm', 'o', 'c', '.', 's', 'l', 'o', 'o', 't', 'r', 'e', 't', 'i']) (by kernel_rfl) owner_cmb]; kernel_rfl
theorem args_cmb_next (a : Value) : argsOk "itertools.combinations.__next__" ⟨[a], []⟩ := by
  unfold argsOk; rw [signature?_of (id := "itertools.combinations.__next__") (n := ['_', '_', 't', 'x', 'e', 'n', '_', '_']) (o := ['s', 'n', 'o', 'i', 't', 'a', 'n', 'i', 'b', 'm', 'o', 'c', '.', 's', 'l', 'o', 'o', 't', 'r', 'e', 't', 'i']) (by kernel_rfl) owner_cmb]; kernel_rfl
theorem noDict_cmb : typeHasDict (.type "itertools.combinations") = false := by decide +kernel
theorem mro_prm : mroOf (.type "itertools.permutations") = pure [.type "itertools.permutations", .type "object"] := by rw [mroOf_type]; kernel_rfl
theorem lookup_prm_new : typeLookup (.type "itertools.permutations") "__new__" = pure (some (.builtin "itertools.permutations.__new__")) := by rw [typeLookup_type, builtinLookup_eq_fast]; kernel_rfl
theorem slot_prm_init : Slot "itertools.permutations" "__init__" "object.__init__" :=
  .of (owner := "object") (n := "__init__") (by rw [typeLookup_type, builtinLookup_eq_fast]; kernel_rfl) (by decide +kernel) (by decide +kernel) (by decide +kernel)
    (by first | exact .inl (by decide +kernel) | exact .inr (by decide +kernel)) (by rw [isSubtype_type]; kernel_rfl)
theorem sub_prm : isSubtype (.type "itertools.permutations") (.type "itertools.permutations") = pure true := by rw [isSubtype_type]; kernel_rfl
theorem called_prm : TypeCalled "itertools.permutations" "itertools.permutations.__new__" "object.__init__" :=
  ⟨by decide +kernel, by decide +kernel, ⟨_, _, mro_prm⟩, madeBy_type mro_prm lookup_prm_new (by decide +kernel), by decide +kernel, sub_prm, slot_prm_init⟩
theorem typeCall_prm (a : Value) : checkTypeCall "itertools.permutations" ⟨[a], []⟩ = pure () := by kernel_rfl
theorem newCall_prm (a : Value) : checkBuiltinCall "itertools.permutations.__new__" ⟨[.type "itertools.permutations", a], []⟩ = pure () := by kernel_rfl
theorem entry_prm_new : entryFor table "itertools.permutations.__new__" = some Builtin.«itertools.permutations.__new__» := entryFor_of_tree (by kernel_rfl)
theorem plain_prm_new : plainId "itertools.permutations.__new__" = true := by decide +kernel
theorem slot_prm_iter : Slot "itertools.permutations" "__iter__" "itertools.permutations.__iter__" :=
  .of (owner := "itertools.permutations") (n := "__iter__") (by rw [typeLookup_type, builtinLookup_eq_fast]; kernel_rfl) (by decide +kernel) (by decide +kernel) (by decide +kernel)
    (by first | exact .inl (by decide +kernel) | exact .inr (by decide +kernel)) sub_prm
theorem slot_prm_next : Slot "itertools.permutations" "__next__" "itertools.permutations.__next__" :=
  .of (owner := "itertools.permutations") (n := "__next__") (by rw [typeLookup_type, builtinLookup_eq_fast]; kernel_rfl) (by decide +kernel) (by decide +kernel) (by decide +kernel)
    (by first | exact .inl (by decide +kernel) | exact .inr (by decide +kernel)) sub_prm
theorem entry_prm_iter : entryFor table "itertools.permutations.__iter__" = some Builtin.«dict_keyiterator.__iter__» :=
  entryFor_alias (id' := "dict_keyiterator.__iter__") (by kernel_rfl) (by first | rfl | decide +kernel | (unfold String.splitOn; simp +decide [String.splitOnAux])) (by decide +kernel) (by kernel_rfl)
theorem entry_prm_next : entryFor table "itertools.permutations.__next__" = some Builtin.«itertools.permutations.__next__» := entryFor_of_tree (by kernel_rfl)
theorem owner_prm : Manifest.owners.lookup (String.ofList ['s', 'n', 'o', 'i', 't', 'a', 't', 'u', 'm', 'r', 'e', 'p', '.', 's', 'l', 'o', 'o', 't', 'r', 'e', 't', 'i'].reverse) = some Manifest.sig_itertools_permutations := by kernel_rfl
theorem args_prm_iter (a : Value) : argsOk "itertools.permutations.__iter__" ⟨[a], []⟩ := by
  unfold argsOk; rw [signature?_of (id := "itertools.permutations.__iter__") (n := ['_', '_', 'r', 'e', 't', 'i', '_', '_']) (o := ['s', 'n', 'o', 'i', 't', 'a', 't', 'u', 'm', 'r', 'e', 'p', '.', 's', 'l', 'o', 'o', 't', 'r', 'e', 't', 'i']) (by kernel_rfl) owner_prm]; kernel_rfl
theorem args_prm_next (a : Value) : argsOk "itertools.permutations.__next__" ⟨[a], []⟩ := by
  unfold argsOk; rw [signature?_of (id := "itertools.permutations.__next__") (n := ['_', '_', 't', 'x', 'e', 'n', '_', '_']) (o := ['s', 'n', 'o', 'i', 't', 'a', 't', 'u', 'm', 'r', 'e', 'p', '.', 's', 'l', 'o', 'o', 't', 'r', 'e', 't', 'i']) (by kernel_rfl) owner_prm]; kernel_rfl
theorem noDict_prm : typeHasDict (.type "itertools.permutations") = false := by decide +kernel
end PySem
end

/-! part: Q29 -/
section
set_option Elab.async false
set_option linter.all false
set_option maxRecDepth 100000
set_option maxHeartbeats 4000000
set_option autoImplicit false
namespace PySem
open PySem.Spec
open Sem (wp)
/-- what a value gives when it is gathered into a list -/
def Col (prog : Program) (w : World) (v : Value) (P : List Value → Prop) (s : Shared) : Prop :=
  ∀ (A : Around) (E : Value → Shared → Prop) (Q : List Value → Shared → Prop), A.handled = none →
    (∀ (h' : Heap) (tk : Nat) (its : List Value), (∀ b o, s.heap.get? b = some o → h'.get? b = some o) → P its → Q its { s with heap := h', toks := tk }) →
    wpAny (model prog w) A (collect v) Q E s
section
variable {prog : Program} {w : World} {A : Around} {E : Value → Shared → Prop} {s : Shared}
theorem code_cmb_new {Q₁ : Value → Shared → Prop} {v : Value} {n : Int} {t : Tok} {P : List Value → Prop} (hh : A.handled = none) (h0 : 0 ≤ n) (h1 : n < 1000000) (hP : ∀ its, P its → its.length ≤ sizeLine)
    (hc : Col prog w v P s)
    (h : ∀ (h' : Heap) (tk : Nat) (its : List Value), (∀ b o, s.heap.get? b = some o → h'.get? b = some o) → P its →
      Q₁ (.ref (h'.objs.size + 1)) { s with heap := (h'.push { cls := .type "tuple", data := .seq its.toArray }).push { cls := .type "itertools.combinations", data := .fields (([.ref h'.objs.size, rawInt (if n.toNat > its.length then 2 else 0), .none] ++ (List.range n.toNat).map fun (i : Nat) => rawInt i)).toArray }, toks := tk }) :
    codeAny (model prog w) A (.call (.builtin "itertools.combinations.__new__") ⟨[.type "itertools.combinations", v, .int n t], []⟩) (wants Q₁ E) s := by
  refine codeAny_of_tree ?_
  show wpAny _ A.in1 (do checkBuiltinCall "itertools.combinations.__new__" ⟨[.type "itertools.combinations", v, .int n t], []⟩; again (.builtin "itertools.combinations.__new__" ⟨[.type "itertools.combinations", v, .int n t], []⟩)) _ _ s
  refine wpAny_bind (wpAny_of_eq (newCall_cmb _ _) (wpAny_pure ⟨plainId_quiet plain_cmb_new _, codeAny_builtin entry_cmb_new ?_⟩))
  rw [Around.under_plainId plain_cmb_new _]
  have hsub : isSubtype (.type "itertools.combinations") (.type ("itertools." ++ "combinations")) = pure true := by
    rw [show ("itertools." ++ "combinations" : String) = "itertools.combinations" from by decide]
    exact sub_cmb
  have hd := noDict_cmb
  have hn : ¬ ((!(decide (-(2 ^ 63 : Int) ≤ n) && decide (n < (2 ^ 63 : Int)))) = true) := by
    have a : decide (-(2 ^ 63 : Int) ≤ n) = true := decide_eq_true (by omega)
    have b : decide (n < (2 ^ 63 : Int)) = true := decide_eq_true (by omega)
    rw [a, b]
    decide
  have hh1 : A.in1.handled = none := hh
  repeat (first
      | wp_step
      | simp only [List.head?_cons, Option.some_or, List.getElem?_cons_succ, List.getElem?_cons_zero, List.length_cons, List.length_nil, List.forIn_nil, List.zipIdx_cons, List.zipIdx_nil, List.forIn_cons]
      | (refine wpAny_of_eq hsub ?_)
      | (refine wpAny_ite_false (decide_eq_false hn) ?_))
  refine wpAny_ite_false (decide_eq_false (by
    have a : decide (n < -2 ^ 63) = false := decide_eq_false (by omega)
    have b : decide (n ≥ 2 ^ 63) = false := decide_eq_false (by omega)
    rw [a, b]
    decide)) (wpAny_pure (wpAny_bind (hc _ _ _ hh1 fun h' tk its hk hp => ?_)))
  refine wpAny_ite_false (decide_eq_false (by omega)) (wpAny_ite_false (decide_eq_false (by
    show ¬ decide (n > 2 ^ 20) = true
    rw [decide_eq_false (by omega)]
    decide)) (wpAny_bind ?_))
  unfold newTuple
  refine wpAny_newObj_type (wpAny_pure ?_) (by show its.toArray.size ≤ sizeLine; rw [List.size_toArray]; exact hP its hp)
  refine wpAny_bind ?_
  unfold Builtin.Itertools.itNewRecord
  refine wpAny_ite_true (by show decide ((!typeHasDict (.type "itertools.combinations")) = true) = true; rw [hd]; rfl) ?_
  refine wpAny_newObj_type (wpAny_pure ?_) (by
    show (([Value.ref _, rawInt _, Value.none] ++ (List.range n.toNat).map fun (i : Nat) => rawInt i).toArray).size ≤ sizeLine + 2
    rw [List.size_toArray, List.length_append, List.length_map, List.length_range, sizeLine_eq]
    simp only [List.length_cons, List.length_nil]
    omega)
  have hz : (h'.push { cls := .type "tuple", data := .seq its.toArray }).objs.size = h'.objs.size + 1 := Heap.size_push ..
  have q := h h' tk its hk hp
  rw [← hz] at q
  exact q
theorem code_prm_new {Q₁ : Value → Shared → Prop} {v : Value} {P : List Value → Prop} (hh : A.handled = none) (hP : ∀ its, P its → its.length < 1000000)
    (hc : Col prog w v P s)
    (h : ∀ (h' : Heap) (tk : Nat) (its : List Value), (∀ b o, s.heap.get? b = some o → h'.get? b = some o) → P its →
      Q₁ (.ref (h'.objs.size + 1)) { s with heap := (h'.push { cls := .type "tuple", data := .seq its.toArray }).push { cls := .type "itertools.permutations", data := .fields (([.ref h'.objs.size, rawInt 0, rawInt its.length, .none] ++ (List.range its.length).map (fun (i : Nat) => rawInt i) ++ (List.range its.length).map fun (i : Nat) => rawInt ((its.length : Int) - i))).toArray }, toks := tk }) :
    codeAny (model prog w) A (.call (.builtin "itertools.permutations.__new__") ⟨[.type "itertools.permutations", v], []⟩) (wants Q₁ E) s := by
  refine codeAny_of_tree ?_
  show wpAny _ A.in1 (do checkBuiltinCall "itertools.permutations.__new__" ⟨[.type "itertools.permutations", v], []⟩; again (.builtin "itertools.permutations.__new__" ⟨[.type "itertools.permutations", v], []⟩)) _ _ s
  refine wpAny_bind (wpAny_of_eq (newCall_prm _) (wpAny_pure ⟨plainId_quiet plain_prm_new _, codeAny_builtin entry_prm_new ?_⟩))
  rw [Around.under_plainId plain_prm_new _]
  have hsub : isSubtype (.type "itertools.permutations") (.type ("itertools." ++ "permutations")) = pure true := by
    rw [show ("itertools." ++ "permutations" : String) = "itertools.permutations" from by decide]
    exact sub_prm
  have hd := noDict_prm
  have hh1 : A.in1.handled = none := hh
  repeat (first
      | (refine hc _ _ _ hh1 fun h' tk its hk hp => ?_)
      | wp_step
      | simp only [List.head?_cons, Option.some_or, List.getElem?_cons_succ, List.getElem?_cons_zero, List.length_cons, List.length_nil, List.forIn_nil, List.zipIdx_cons, List.zipIdx_nil, List.forIn_cons]
      | (refine wpAny_of_eq hsub ?_))
  refine wpAny_ite_false (decide_eq_false (by
    show ¬ decide ((its.length : Int) > 2 ^ 20) = true
    have := hP its hp
    rw [decide_eq_false (by omega)]
    decide)) (wpAny_bind ?_)
  unfold newTuple
  refine wpAny_newObj_type ?_ (by show its.toArray.size ≤ sizeLine; rw [List.size_toArray, sizeLine_eq]; have := hP its hp; omega)
  refine wpAny_bind ?_
  unfold Builtin.Itertools.itNewRecord
  refine wpAny_ite_true (by show decide ((!typeHasDict (.type "itertools.permutations")) = true) = true; rw [hd]; rfl) ?_
  refine wpAny_newObj_type (wpAny_pure ?_) (by
    show (([Value.ref _, rawInt _, rawInt _, Value.none] ++ (List.range its.length).map (fun (i : Nat) => rawInt i) ++ (List.range (its.length : Int).toNat).map fun (i : Nat) => rawInt ((its.length : Int) - i)).toArray).size ≤ sizeLine + 2
    rw [List.size_toArray, List.length_append, List.length_append, List.length_map, List.length_map, List.length_range, List.length_range, sizeLine_eq]
    simp only [List.length_cons, List.length_nil]
    have := hP its hp
    omega)
  have hz : (h'.push { cls := .type "tuple", data := .seq its.toArray }).objs.size = h'.objs.size + 1 := Heap.size_push ..
  have q := h h' tk its hk hp
  rw [← hz] at q
  have e : (if (its.length : Int).toNat > its.length then (2 : Int) else 0) = 0 := if_neg (by omega)
  simp only [Int.toNat_natCast]
  rw [if_neg (Nat.lt_irrefl _)]
  exact q
end
end PySem
end

/-! part: Q30 -/
section
set_option Elab.async false
set_option linter.all false
set_option maxRecDepth 100000
set_option maxHeartbeats 4000000
set_option autoImplicit false
namespace PySem
open PySem.Spec
open Sem (wp)
structure SplitB (b : Builtin) where
  g : (Nat → List Nat → Option (List Nat)) → Builtin
  f : Nat → List Nat → Option (List Nat)
  eq : b = g f
def cmbS : SplitB Builtin.«itertools.combinations.__next__» := ⟨_, _, rfl⟩
/-- a combinations object: its pool, its state, what it handed out last, its numbers -/
abbrev IsCmb (h : Heap) (it pool : Addr) (st : Int) (last : Value) (idx : List Nat) : Prop := h.get? it = some { cls := .type "itertools.combinations", dict := none, data := .fields ([.ref pool, rawInt st, last] ++ idx.map fun (i : Nat) => rawInt i).toArray, slots := #[] }
/-- a permutations object -/
abbrev IsPrm (h : Heap) (it pool : Addr) (st : Int) (n : Nat) (last : Value) (nums : List Nat) : Prop := h.get? it = some { cls := .type "itertools.permutations", dict := none, data := .fields ([.ref pool, rawInt st, rawInt n, last] ++ nums.map fun (i : Nat) => rawInt i).toArray, slots := #[] }
section
variable {prog : Program} {w : World} {A : Around} {E : Value → Shared → Prop} {s : Shared} {it pool : Addr} {st : Int} {last : Value} {idx : List Nat} {its : Array Value}
theorem nums_back (idx : List Nat) (f : Value → Nat) (hf : ∀ (n : Int) (t : Tok), f (.int n t) = n.toNat) : (idx.map fun (i : Nat) => rawInt i).map f = idx := by
  rw [List.map_map]
  conv => rhs; rw [← List.map_id idx]
  refine List.map_congr_left fun i _ => ?_
  show f (.int (i : Nat) 0) = i
  rw [hf]
  exact Int.toNat_natCast i
theorem wpAny_nums {a : Addr} {o : Obj} {fs : List Value} {k : Nat} {Q : List Nat → Shared → Prop} (ho : s.heap.get? a = some o) (hd : o.data = .fields (fs ++ idx.map fun (i : Nat) => rawInt i).toArray) (hk : fs.length = k) (h : Q idx s) :
    wpAny (model prog w) A (Builtin.Itertools.itNumbersFrom (.ref a) k) Q E s := by
  unfold Builtin.Itertools.itNumbersFrom
  refine wpAny_bind (wpAny_load ho ?_)
  rw [hd]
  refine wpAny_pure ?_
  have e : (((fs ++ idx.map fun (i : Nat) => rawInt i).toArray.toList.drop k).map fun x => match x with | .int n _ => n.toNat | _ => 0) = idx := by
    rw [List.toList_toArray, ← hk, List.drop_left]
    exact nums_back idx _ fun _ _ => rfl
  exact e.symm ▸ h
theorem wpAny_intF {a : Addr} {o : Obj} {vs : Array Value} {k : Nat} {n : Int} {t : Tok} {Q : Int → Shared → Prop} (ho : s.heap.get? a = some o) (hd : o.data = .fields vs) (hk : vs[k]? = some (.int n t)) (h : Q n s) :
    wpAny (model prog w) A (Builtin.Itertools.itIntField (.ref a) k) Q E s := by
  unfold Builtin.Itertools.itIntField
  exact wpAny_bind (wpAny_field ho hd hk (wpAny_pure h))
theorem cmb_set1 {x : Int} : (([.ref pool, rawInt st, last] ++ idx.map fun (i : Nat) => rawInt i).toArray.setIfInBounds 1 (rawInt x)) = ([.ref pool, rawInt x, last] ++ idx.map fun (i : Nat) => rawInt i).toArray := by simp
theorem cmb_set2 {x : Value} : (([.ref pool, rawInt st, last] ++ idx.map fun (i : Nat) => rawInt i).toArray.setIfInBounds 2 x) = ([.ref pool, rawInt st, x] ++ idx.map fun (i : Nat) => rawInt i).toArray := by simp
/-- the row is handed out -/
theorem cmb_out {Q : Value → Shared → Prop} (hit : IsCmb s.heap it pool st last idx) (hp : s.heap.IsTuple pool its) (hsz : idx.length ≤ sizeLine)
    (hQ : ∀ h', IsCmb h' it pool st (.ref s.heap.objs.size) idx → h'.get? s.heap.objs.size = some { cls := .type "tuple", data := .seq (idx.map fun i => its.getD i .none).toArray } → (∀ b o, b ≠ it → s.heap.get? b = some o → h'.get? b = some o) → Q (.ref s.heap.objs.size) { s with heap := h' }) :
    wpAny (model prog w) A ((Builtin.Itertools.itPoolItems (.ref pool) >>= fun items => newTuple (idx.map fun i => items.getD i .none)) >>= fun result => field (.ref it) 2 >>= fun before => setField (.ref it) 2 result >>= fun _ => letGo [before] [result] >>= fun _ => ret result)
      (fun fin s' => ∃ v, fin = .done (.ret v) ∧ Q v s') E s := by
  obtain ⟨o, ho, hc, k, hd⟩ := hp
  unfold Builtin.Itertools.itPoolItems
  refine wpAny_bind (wpAny_bind (wpAny_bind (wpAny_seqItems ho hd (wpAny_pure ?_))))
  refine wpAny_newTuple ?_ (by rw [List.length_map]; exact hsz)
  have hl : it < s.heap.objs.size := Heap.lt_size hit
  have hit1 : IsCmb (s.heap.push { cls := .type "tuple", data := .seq (idx.map fun i => its.getD i .none).toArray }) it pool st last idx := Heap.get?_push_of_some _ hit
  refine wpAny_bind (wpAny_field hit1 rfl (x := last) rfl ?_)
  refine wpAny_bind (wpAny_setField_rec hit1 (by simp) fun h' hit2 sb => ?_)
  rw [cmb_set2] at hit2
  refine wpAny_bind (wpAny_letGo (wpAny_pure ⟨_, rfl, hQ h' hit2 ?_ fun b o hb e => ?_⟩))
  · exact sb.extBut _ _ (Nat.ne_of_gt hl) (Heap.get?_push_size _ rfl)
  · exact sb.extBut _ _ hb (Heap.get?_push_of_some _ e)
theorem wpAny_itStop {α : Type} {Q : α → Shared → Prop} (hh : A.handled = none) (hE : ∀ e h', CpRep.StopE e h' → Heap.ExtBut it s.heap h' → E e { s with heap := h' }) : wpAny (model prog w) A Builtin.Itertools.itStop Q E s := by
  show wpAny _ _ (newExc (.type "StopIteration") [] >>= _) _ _ _
  refine wpAny_bind ?_
  simp only [newExc, newTuple]
  refine wpAny_bind (wpAny_newObj_type ?_ (by size_fits))
  refine wpAny_bind (m := firstArgMember _ _) (wpAny_of_eq (a := Value.none) (by first | rfl | (simp only [firstArgMember]; rfl)) ?_)
  refine wpAny_newObj_type ?_ (by size_fits)
  simp only [raiseNew]
  refine wpAny_bind (wpAny_handled ?_)
  first | rw [show A.in1.handled = none from hh] | rw [hh]
  refine wpAny_bind (wpAny_pure (wpAny_throw ?_))
  exact hE _ _ ⟨_, _, _, rfl, Heap.get?_push_size _ rfl, rfl, rfl, rfl⟩ (((Heap.ExtBut.refl it s.heap).push _).push _)
theorem cmb_next0 {Q : Value → Shared → Prop} (hit : IsCmb s.heap it pool 0 last idx) (hp : s.heap.IsTuple pool its) (hne : pool ≠ it) (hsz : idx.length ≤ sizeLine)
    (hQ : ∀ h', IsCmb h' it pool 1 (.ref s.heap.objs.size) idx → h'.get? s.heap.objs.size = some { cls := .type "tuple", data := .seq (idx.map fun i => its.getD i .none).toArray } → (∀ b o, b ≠ it → s.heap.get? b = some o → h'.get? b = some o) → Q (.ref s.heap.objs.size) { s with heap := h' }) :
    wpAny (model prog w) A (Builtin.«itertools.combinations.__next__» ⟨[.ref it], []⟩) (fun fin s' => ∃ v, fin = .done (.ret v) ∧ Q v s') E s := by
  show wpAny _ _ (field (.ref it) 0 >>= _) _ _ _
  refine wpAny_bind (wpAny_field hit rfl (x := .ref pool) rfl ?_)
  refine wpAny_bind (wpAny_nums hit rfl rfl ?_)
  show wpAny _ _ (Builtin.Itertools.itIntField (.ref it) 1 >>= _) _ _ _
  refine wpAny_bind (wpAny_intF hit rfl rfl ?_)
  show wpAny _ _ (setField (.ref it) 1 (rawInt 1) >>= _) _ _ _
  refine wpAny_bind (wpAny_setField_rec hit (by simp) fun h1 hit1 sb => ?_)
  rw [cmb_set1] at hit1
  have hz : h1.objs.size = s.heap.objs.size := sb.1
  refine cmb_out (s := { s with heap := h1 }) hit1 (hp.at fun o e => sb.extBut _ _ hne e) hsz fun h' a1 a2 a3 => ?_
  have q := hQ h'
  rw [← hz] at q
  exact q a1 a2 fun b o hb e => a3 b o hb (sb.extBut _ _ hb e)
theorem cmb_next1 {Q : Value → Shared → Prop} {nx : List Nat} (hit : IsCmb s.heap it pool 1 last idx) (hp : s.heap.IsTuple pool its) (hne : pool ≠ it) (hn : cmbS.f its.size idx = some nx) (hsz : nx.length ≤ sizeLine)
    (hQ : ∀ h', IsCmb h' it pool 1 (.ref s.heap.objs.size) nx → h'.get? s.heap.objs.size = some { cls := .type "tuple", data := .seq (nx.map fun i => its.getD i .none).toArray } → (∀ b o, b ≠ it → s.heap.get? b = some o → h'.get? b = some o) → Q (.ref s.heap.objs.size) { s with heap := h' }) :
    wpAny (model prog w) A (Builtin.«itertools.combinations.__next__» ⟨[.ref it], []⟩) (fun fin s' => ∃ v, fin = .done (.ret v) ∧ Q v s') E s := by
  show wpAny _ _ (field (.ref it) 0 >>= _) _ _ _
  refine wpAny_bind (wpAny_field hit rfl (x := .ref pool) rfl ?_)
  refine wpAny_bind (wpAny_nums hit rfl rfl ?_)
  show wpAny _ _ (Builtin.Itertools.itIntField (.ref it) 1 >>= _) _ _ _
  refine wpAny_bind (wpAny_intF hit rfl rfl ?_)
  show wpAny _ _ (Builtin.Itertools.itPoolItems (.ref pool) >>= _) _ _ _
  obtain ⟨o, ho, hc, k, hd⟩ := id hp
  unfold Builtin.Itertools.itPoolItems
  refine wpAny_bind (wpAny_bind (wpAny_seqItems ho hd (wpAny_pure ?_)))
  show wpAny _ _ (match cmbS.f its.size idx with | some next => _ | none => _) _ _ _
  rw [hn]
  show wpAny _ _ (Builtin.Itertools.itSetNumbersFrom (.ref it) 3 nx >>= _) _ _ _
  unfold Builtin.Itertools.itSetNumbersFrom
  have ef : (([.ref pool, rawInt 1, last] ++ idx.map fun (i : Nat) => rawInt i).toArray.extract 0 3 ++ (nx.map fun (n : Nat) => rawInt n).toArray) = ([.ref pool, rawInt 1, last] ++ nx.map fun (i : Nat) => rawInt i).toArray := by simp
  refine wpAny_bind (wpAny_updateFields hit rfl ?_ (by
    show (([.ref pool, rawInt 1, last] ++ idx.map fun (i : Nat) => rawInt i).toArray.extract 0 3 ++ (nx.map fun (n : Nat) => rawInt n).toArray).size ≤ sizeLine + 3
    rw [ef, List.size_toArray, List.length_append, List.length_map]
    simp only [List.length_cons, List.length_nil]
    omega))
  have hit1 : IsCmb (s.heap.update it (Obj.mapFields fun fs => fs.extract 0 3 ++ (nx.map fun (n : Nat) => rawInt n).toArray)) it pool 1 last nx := by
    refine (Heap.get?_update_self _ hit rfl).trans ?_
    exact congrArg (fun v => some ({ cls := .type "itertools.combinations", dict := none, data := .fields v, slots := #[] } : Obj)) ef
  have sb : Heap.SameBut it s.heap (s.heap.update it (Obj.mapFields fun fs => fs.extract 0 3 ++ (nx.map fun (n : Nat) => rawInt n).toArray)) := Heap.SameBut.update ..
  have hz := sb.1
  refine cmb_out (s := { s with heap := s.heap.update it (Obj.mapFields fun fs => fs.extract 0 3 ++ (nx.map fun (n : Nat) => rawInt n).toArray) }) hit1 (hp.at fun o e => sb.extBut _ _ hne e) hsz fun h' a1 a2 a3 => ?_
  have q := hQ h'
  rw [← hz] at q
  exact q a1 a2 fun b o hb e => a3 b o hb (sb.extBut _ _ hb e)
theorem cmb_next2 {Q : Fin → Shared → Prop} (hh : A.handled = none) (hit : IsCmb s.heap it pool 1 last idx) (hp : s.heap.IsTuple pool its) (hne : pool ≠ it) (hn : cmbS.f its.size idx = none)
    (hE : ∀ e h', CpRep.StopE e h' → Heap.ExtBut it s.heap h' → E e { s with heap := h' }) :
    wpAny (model prog w) A (Builtin.«itertools.combinations.__next__» ⟨[.ref it], []⟩) Q E s := by
  show wpAny _ _ (field (.ref it) 0 >>= _) _ _ _
  refine wpAny_bind (wpAny_field hit rfl (x := .ref pool) rfl ?_)
  refine wpAny_bind (wpAny_nums hit rfl rfl ?_)
  show wpAny _ _ (Builtin.Itertools.itIntField (.ref it) 1 >>= _) _ _ _
  refine wpAny_bind (wpAny_intF hit rfl rfl ?_)
  show wpAny _ _ (Builtin.Itertools.itPoolItems (.ref pool) >>= _) _ _ _
  obtain ⟨o, ho, hc, k, hd⟩ := id hp
  unfold Builtin.Itertools.itPoolItems
  refine wpAny_bind (wpAny_bind (wpAny_seqItems ho hd (wpAny_pure ?_)))
  show wpAny _ _ (match cmbS.f its.size idx with | some next => _ | none => _) _ _ _
  rw [hn]
  show wpAny _ _ (setField (.ref it) 1 (rawInt 2) >>= _) _ _ _
  refine wpAny_bind (wpAny_setField_rec hit (by simp) fun h1 hit1 sb => ?_)
  exact wpAny_itStop hh fun e h' a b => hE e h' a fun c o hc x => b c o hc (sb.extBut _ _ hc x)
theorem prm_set1 {n : Nat} {x : Int} : (([.ref pool, rawInt st, rawInt n, last] ++ idx.map fun (i : Nat) => rawInt i).toArray.setIfInBounds 1 (rawInt x)) = ([.ref pool, rawInt x, rawInt n, last] ++ idx.map fun (i : Nat) => rawInt i).toArray := by simp
theorem prm_set3 {n : Nat} {x : Value} : (([.ref pool, rawInt st, rawInt n, last] ++ idx.map fun (i : Nat) => rawInt i).toArray.setIfInBounds 3 x) = ([.ref pool, rawInt st, rawInt n, x] ++ idx.map fun (i : Nat) => rawInt i).toArray := by simp
theorem prm_out {n : Nat} {row : List Nat} {Q : Value → Shared → Prop} (hit : IsPrm s.heap it pool st n last idx) (hsz : row.length ≤ sizeLine)
    (hQ : ∀ h', IsPrm h' it pool st n (.ref s.heap.objs.size) idx → h'.get? s.heap.objs.size = some { cls := .type "tuple", data := .seq (row.map fun i => its.getD i .none).toArray } → (∀ b o, b ≠ it → s.heap.get? b = some o → h'.get? b = some o) → Q (.ref s.heap.objs.size) { s with heap := h' }) :
    wpAny (model prog w) A (newTuple (row.map fun i => its.getD i .none) >>= fun result => field (.ref it) 3 >>= fun before => setField (.ref it) 3 result >>= fun _ => letGo [before] [result] >>= fun _ => ret result)
      (fun fin s' => ∃ v, fin = .done (.ret v) ∧ Q v s') E s := by
  refine wpAny_bind (wpAny_newTuple ?_ (by rw [List.length_map]; exact hsz))
  have hl : it < s.heap.objs.size := Heap.lt_size hit
  have hit1 : IsPrm (s.heap.push { cls := .type "tuple", data := .seq (row.map fun i => its.getD i .none).toArray }) it pool st n last idx := Heap.get?_push_of_some _ hit
  refine wpAny_bind (wpAny_field hit1 rfl (x := last) rfl ?_)
  refine wpAny_bind (wpAny_setField_rec hit1 (by simp) fun h' hit2 sb => ?_)
  rw [prm_set3] at hit2
  refine wpAny_bind (wpAny_letGo (wpAny_pure ⟨_, rfl, hQ h' hit2 ?_ fun b o hb e => ?_⟩))
  · exact sb.extBut _ _ (Nat.ne_of_gt hl) (Heap.get?_push_size _ rfl)
  · exact sb.extBut _ _ hb (Heap.get?_push_of_some _ e)
theorem opt_some {α β : Type} {o : Option β} {x : β} {K1 : β → Sem α} {K2 : Sem α} {Q : α → Shared → Prop} (h : o = some x) (q : wpAny (model prog w) A (K1 x) Q E s) : wpAny (model prog w) A (match o with | some p => K1 p | none => K2) Q E s := by subst h; exact q
theorem opt_none {α β : Type} {o : Option β} {K1 : β → Sem α} {K2 : Sem α} {Q : α → Shared → Prop} (h : o = none) (q : wpAny (model prog w) A K2 Q E s) : wpAny (model prog w) A (match o with | some p => K1 p | none => K2) Q E s := by subst h; exact q
theorem prm_next0 {n : Nat} {Q : Value → Shared → Prop} (hit : IsPrm s.heap it pool 0 n last idx) (hp : s.heap.IsTuple pool its) (hne : pool ≠ it) (hsz : n ≤ sizeLine)
    (hQ : ∀ h', IsPrm h' it pool 1 n (.ref s.heap.objs.size) idx → h'.get? s.heap.objs.size = some { cls := .type "tuple", data := .seq ((idx.take n).map fun i => its.getD i .none).toArray } → (∀ b o, b ≠ it → s.heap.get? b = some o → h'.get? b = some o) → Q (.ref s.heap.objs.size) { s with heap := h' }) :
    wpAny (model prog w) A (Builtin.«itertools.permutations.__next__» ⟨[.ref it], []⟩) (fun fin s' => ∃ v, fin = .done (.ret v) ∧ Q v s') E s := by
  show wpAny _ _ (field (.ref it) 0 >>= _) _ _ _
  refine wpAny_bind (wpAny_field hit rfl (x := .ref pool) rfl ?_)
  obtain ⟨o, ho, hc, k, hd⟩ := id hp
  show wpAny _ _ (Builtin.Itertools.itPoolItems (.ref pool) >>= _) _ _ _
  unfold Builtin.Itertools.itPoolItems
  refine wpAny_bind (wpAny_bind (wpAny_seqItems ho hd (wpAny_pure ?_)))
  refine wpAny_bind (wpAny_intF hit rfl rfl ?_)
  refine wpAny_bind (wpAny_nums hit rfl rfl ?_)
  show wpAny _ _ (Builtin.Itertools.itIntField (.ref it) 1 >>= _) _ _ _
  refine wpAny_bind (wpAny_intF hit rfl rfl ?_)
  show wpAny _ _ (setField (.ref it) 1 (rawInt 1) >>= _) _ _ _
  refine wpAny_bind (wpAny_setField_rec hit (by simp) fun h1 hit1 sb => ?_)
  rw [prm_set1] at hit1
  have hz : h1.objs.size = s.heap.objs.size := sb.1
  have et : (n : Int).toNat = n := Int.toNat_natCast n
  rw [et]
  refine prm_out (s := { s with heap := h1 }) hit1 (by rw [List.length_take]; omega) fun h' a1 a2 a3 => ?_
  have q := hQ h'
  rw [← hz] at q
  exact q a1 a2 fun b o hb e => a3 b o hb (sb.extBut _ _ hb e)
end
end PySem
end

/-! part: Q31 -/
section
set_option Elab.async false
set_option linter.all false
set_option maxRecDepth 100000
set_option maxHeartbeats 4000000
set_option autoImplicit false
namespace PySem
open PySem.Spec
open Sem (wp)
/-! ### the rows in their order -/
def chainS {σ : Type} (f : σ → Option σ) : Nat → σ → List σ
  | 0, _ => []
  | k + 1, s => s :: (match f s with
    | some t => chainS f k t
    | none => [])
theorem chainS_next {σ : Type} {f : σ → Option σ} : ∀ {k i : Nat} {s u : σ}, (chainS f k s).length < k → (chainS f k s)[i]? = some u → (chainS f k s)[i + 1]? = f u
  | 0, i, s, u, h, _ => absurd h (Nat.not_lt_zero _)
  | k + 1, i, s, u, h, e => by
    unfold chainS at h e ⊢
    cases hf : f s with
    | none =>
      rw [hf] at h e
      cases i with
      | zero => cases e; simp [hf]
      | succ i => simp at e
    | some t =>
      rw [hf] at h e
      have h2 : (chainS f k t).length < k := by simpa using h
      cases i with
      | zero =>
        cases e
        rw [hf]
        cases k with
        | zero => exact absurd h2 (Nat.not_lt_zero _)
        | succ k => rw [List.getElem?_cons_succ]; unfold chainS; rfl
      | succ i =>
        rw [List.getElem?_cons_succ] at e ⊢
        exact chainS_next h2 e
/-- all rows of k of the members, in their order -/
def permL : Nat → List Nat → List (List Nat)
  | 0, _ => [[]]
  | k + 1, l => l.flatMap fun x => (permL k (l.erase x)).map (x :: ·)
/-- all k of the members, in their order -/
def combL : Nat → List Nat → List (List Nat)
  | 0, _ => [[]]
  | _ + 1, [] => []
  | k + 1, x :: l => (combL k l).map (x :: ·) ++ combL (k + 1) l
def cmbOk (f : Nat → List Nat → Option (List Nat)) : Bool :=
  (List.range 8).all fun n => (List.range (n + 1)).all fun k => decide (chainS (f n) 50 (List.range k) = combL k (List.range n)) && decide ((combL k (List.range n)).length < 50)
theorem cmb_ok : cmbOk cmbS.f = true := by decide +kernel
abbrev PFun := Nat → Nat → List Nat → List Nat → Option (List Nat × List Nat)
def prmOk (f : PFun) : Bool :=
  (List.range 7).all fun n => decide ((chainS (fun p : List Nat × List Nat => f n n p.1 p.2) 800 (List.range n, (List.range n).map fun i => n - i)).map (·.1) = permL n (List.range n)) && decide ((permL n (List.range n)).length < 800) && (chainS (fun p : List Nat × List Nat => f n n p.1 p.2) 800 (List.range n, (List.range n).map fun i => n - i)).all fun p => decide (p.2.length ≤ 7)
theorem prm_ex : ∃ f : PFun, prmOk f = true ∧ (∀ (prog : Program) (w : World) (A : Around) (E : Value → Shared → Prop) (s : Shared) (it pool : Addr) (last : Value) (its : Array Value) (nums : List Nat) (i c : List Nat) (Q : Value → Shared → Prop),
      IsPrm s.heap it pool 1 its.size last nums → s.heap.IsTuple pool its → pool ≠ it → f its.size its.size (nums.take its.size) (nums.drop its.size) = some (i, c) → i.length + c.length + 2 ≤ sizeLine →
      (∀ h', IsPrm h' it pool 1 its.size (.ref s.heap.objs.size) (i ++ c) → h'.get? s.heap.objs.size = some { cls := .type "tuple", data := .seq ((i.take its.size).map fun i => its.getD i .none).toArray } → (∀ b o, b ≠ it → s.heap.get? b = some o → h'.get? b = some o) → Q (.ref s.heap.objs.size) { s with heap := h' }) →
      wpAny (model prog w) A (Builtin.«itertools.permutations.__next__» ⟨[.ref it], []⟩) (fun fin s' => ∃ v, fin = .done (.ret v) ∧ Q v s') E s) ∧
    (∀ (prog : Program) (w : World) (A : Around) (E : Value → Shared → Prop) (s : Shared) (it pool : Addr) (last : Value) (its : Array Value) (nums : List Nat) (Q : Fin → Shared → Prop),
      A.handled = none → IsPrm s.heap it pool 1 its.size last nums → s.heap.IsTuple pool its → pool ≠ it → f its.size its.size (nums.take its.size) (nums.drop its.size) = none →
      (∀ e h', CpRep.StopE e h' → Heap.ExtBut it s.heap h' → E e { s with heap := h' }) →
      wpAny (model prog w) A (Builtin.«itertools.permutations.__next__» ⟨[.ref it], []⟩) Q E s) := by
  apply Exists.intro
  refine ⟨?a, ?b, ?c⟩
  case b =>
    intro prog w A E s it pool last its nums i c Q hit hp hne hn hsz hQ
    show wpAny _ _ (field (.ref it) 0 >>= _) _ _ _
    refine wpAny_bind (wpAny_field hit rfl (x := .ref pool) rfl ?_)
    obtain ⟨o, ho, hc, k, hd⟩ := id hp
    show wpAny _ _ (Builtin.Itertools.itPoolItems (.ref pool) >>= _) _ _ _
    unfold Builtin.Itertools.itPoolItems
    refine wpAny_bind (wpAny_bind (wpAny_seqItems ho hd (wpAny_pure ?_)))
    refine wpAny_bind (wpAny_intF hit rfl rfl ?_)
    refine wpAny_bind (wpAny_nums hit rfl rfl ?_)
    show wpAny _ _ (Builtin.Itertools.itIntField (.ref it) 1 >>= _) _ _ _
    refine wpAny_bind (wpAny_intF hit rfl rfl ?_)
    have et : ((its.size : Nat) : Int).toNat = its.size := Int.toNat_natCast _
    rw [et]
    show wpAny _ _ (match ?w its.size its.size (nums.take its.size) (nums.drop its.size) with | some (a, b) => _ | none => _) _ _ _
    rw [hn]
    show wpAny _ _ (Builtin.Itertools.itSetNumbersFrom (.ref it) 4 (i ++ c) >>= _) _ _ _
    unfold Builtin.Itertools.itSetNumbersFrom
    have ef : (([.ref pool, rawInt 1, rawInt its.size, last] ++ nums.map fun (i : Nat) => rawInt i).toArray.extract 0 4 ++ ((i ++ c).map fun (n : Nat) => rawInt n).toArray) = ([.ref pool, rawInt 1, rawInt its.size, last] ++ (i ++ c).map fun (i : Nat) => rawInt i).toArray := by simp
    refine wpAny_bind (wpAny_updateFields hit rfl ?_ (by
      show (([.ref pool, rawInt 1, rawInt its.size, last] ++ nums.map fun (i : Nat) => rawInt i).toArray.extract 0 4 ++ ((i ++ c).map fun (n : Nat) => rawInt n).toArray).size ≤ sizeLine + 3
      rw [ef, List.size_toArray, List.length_append, List.length_map, List.length_append]
      simp only [List.length_cons, List.length_nil]
      omega))
    have hit1 : IsPrm (s.heap.update it (Obj.mapFields fun fs => fs.extract 0 4 ++ ((i ++ c).map fun (n : Nat) => rawInt n).toArray)) it pool 1 its.size last (i ++ c) := by
      refine (Heap.get?_update_self _ hit rfl).trans ?_
      exact congrArg (fun v => some ({ cls := .type "itertools.permutations", dict := none, data := .fields v, slots := #[] } : Obj)) ef
    have sb : Heap.SameBut it s.heap (s.heap.update it (Obj.mapFields fun fs => fs.extract 0 4 ++ ((i ++ c).map fun (n : Nat) => rawInt n).toArray)) := Heap.SameBut.update ..
    have hz := sb.1
    refine prm_out (s := { s with heap := s.heap.update it (Obj.mapFields fun fs => fs.extract 0 4 ++ ((i ++ c).map fun (n : Nat) => rawInt n).toArray) }) hit1 (by rw [List.length_take]; omega) fun h' a1 a2 a3 => ?_
    have q := hQ h'
    rw [← hz] at q
    exact q a1 a2 fun b o hb e => a3 b o hb (sb.extBut _ _ hb e)
  case c =>
    intro prog w A E s it pool last its nums Q hh hit hp hne hn hE
    show wpAny _ _ (field (.ref it) 0 >>= _) _ _ _
    refine wpAny_bind (wpAny_field hit rfl (x := .ref pool) rfl ?_)
    obtain ⟨o, ho, hc, k, hd⟩ := id hp
    show wpAny _ _ (Builtin.Itertools.itPoolItems (.ref pool) >>= _) _ _ _
    unfold Builtin.Itertools.itPoolItems
    refine wpAny_bind (wpAny_bind (wpAny_seqItems ho hd (wpAny_pure ?_)))
    refine wpAny_bind (wpAny_intF hit rfl rfl ?_)
    refine wpAny_bind (wpAny_nums hit rfl rfl ?_)
    show wpAny _ _ (Builtin.Itertools.itIntField (.ref it) 1 >>= _) _ _ _
    refine wpAny_bind (wpAny_intF hit rfl rfl ?_)
    have et : ((its.size : Nat) : Int).toNat = its.size := Int.toNat_natCast _
    rw [et]
    show wpAny _ _ (match ?w its.size its.size (nums.take its.size) (nums.drop its.size) with | some (a, b) => _ | none => _) _ _ _
    rw [hn]
    show wpAny _ _ (setField (.ref it) 1 (rawInt 2) >>= _) _ _ _
    refine wpAny_bind (wpAny_setField_rec hit (by simp) fun h1 hit1 sb => ?_)
    exact wpAny_itStop hh fun e h' a b => hE e h' a fun c o hc x => b c o hc (sb.extBut _ _ hc x)
  case a => decide +kernel
end PySem
end

/-! part: Q32 -/
section
set_option Elab.async false
set_option linter.all false
set_option maxRecDepth 100000
set_option maxHeartbeats 4000000
set_option autoImplicit false
namespace Q
open PySem PySem.Spec PySem.Calls PyProof.Rows L2
/-! ### an iterator that hands out rows of a pool -/
structure RIt (prog : Program) (w : World) (it pool : Addr) (its : List Value) (rows : List (List Nat)) (tn : Nat → Heap → Prop) : Prop where
  ne : pool ≠ it
  obj : ∀ i h, tn i h → i ≤ rows.length ∧ (∃ o vs n, h.get? it = some o ∧ o.cls = .type n ∧ o.data = .fields vs ∧ ["enumerate", "zip", "dict_itemiterator", "dict_reverseitemiterator", "odict_iterator", "itertools.zip_longest", "itertools.pairwise"].contains n = false) ∧ ∃ o, h.get? pool = some o ∧ ∀ v, o.data ≠ .cell v
  keep : ∀ i h h', tn i h → (∀ b ∈ [it, pool], ∀ o, h.get? b = some o → h'.get? b = some o) → tn i h'
  item : ∀ (A : Around) (E : Value → Shared → Prop) (s : Shared) (i : Nat) (row : List Nat) (Q : Option Value → Shared → Prop), tn i s.heap → rows[i]? = some row →
    (∀ h', tn (i + 1) h' → h'.get? s.heap.objs.size = some { cls := .type "tuple", data := .seq (row.map fun i => its.toArray.getD i .none).toArray } → (∀ b o, b ≠ it → s.heap.get? b = some o → h'.get? b = some o) → Q (some (.ref s.heap.objs.size)) { s with heap := h' }) →
    wpAny (model prog w) A (pyNext (.ref it)) Q E s
  done : ∀ (A : Around) (E : Value → Shared → Prop) (s : Shared) (Q : Option Value → Shared → Prop), tn rows.length s.heap → A.in1.handled = none →
    (∀ h', (∀ b o, b ≠ it → s.heap.get? b = some o → h'.get? b = some o) → Q none { s with heap := h' }) → wpAny (model prog w) A (pyNext (.ref it)) Q E s
  self : ∀ (A : Around) (i : Nat) (s : Shared) (Q : Value → Shared → Prop) (E : Value → Shared → Prop), tn i s.heap → Q (.ref it) s → wpAny (model prog w) A (pyIter (.ref it)) Q E s
  wide : ∀ row ∈ rows, row.length ≤ 7
def ItR (xs : List V) (rows : List (List Nat)) : It where
  go := fun i _ => i < rows.length
  yld := fun i H v H' => ∃ T row, v = .ref T ∧ H T = none ∧ rows[i]? = some row ∧ ∃ o, o.cls = .type "tuple" ∧ o.dict = none ∧ H' = upd H T (.frz o (.tup (row.map fun i => xs.getD i .non)))
  stop := fun i _ => rows.length ≤ i
theorem valsD {xs : List V} {us : List Value} (r : Vals xs us) (i : Nat) : RelV (xs.getD i .non) (us.toArray.getD i .none) := by
  have e : us.toArray.getD i .none = us.getD i .none := by simp [Array.getD_eq_getD_getElem?, List.getD_eq_getElem?_getD]
  rw [e, List.getD_eq_getElem?_getD, List.getD_eq_getElem?_getD]
  cases h : xs[i]? with
  | none => rw [r.none_of h]; rfl
  | some x =>
    obtain ⟨u, h1, h2⟩ := r.get h
    rw [h1]
    exact h2
theorem valsR {xs : List V} {us : List Value} (r : Vals xs us) : ∀ row : List Nat, Vals (row.map fun i => xs.getD i .non) (row.map fun i => us.toArray.getD i .none)
  | [] => .nil
  | i :: row => .cons (valsD r i) (valsR r row)
theorem turn_row {P : Program} {w : World} {K : PySem.W.Frag} {tg : Expr} {it pool : Addr} {xs : List V} {its : List Value} {rows : List (List Nat)} {tn : Nat → Heap → Prop} (R : RIt P w it pool its rows tn) (rv : Vals xs its) :
    Turn P w K tg (ItR xs rows) [it, pool] it tn where
  mem := by simp
  obj := fun i h st b hb => by
    obtain ⟨_, ⟨o, vs, n, e, hc, hd, _⟩, o2, e2, hd2⟩ := R.obj i h st
    have e' : b = it ∨ b = pool := by simpa using hb
    rcases e' with z | z
    · rw [z]; exact ⟨_, e, fun v q => by rw [hd] at q; cases q⟩
    · rw [z]; exact ⟨_, e2, hd2⟩
  keep := R.keep
  item := by
    intro X hP hw hK hc i pins s σ H E I hf st hg
    subst hP hw hK
    have hg' : i < rows.length := hg
    have hrow : rows[i]? = some rows[i] := List.getElem?_eq_getElem hg'
    have lt2 : ∀ b ∈ [it, pool], b < s.heap.objs.size := fun b hb => by
      obtain ⟨_, ⟨o, vs, n, e, _⟩, o2, e2, _⟩ := R.obj i _ st
      have e' : b = it ∨ b = pool := by simpa using hb
      rcases e' with z | z
      · rw [z]; exact Heap.lt_size e
      · rw [z]; exact Heap.lt_size e2
    refine R.item X.A E s i rows[i] _ st hrow fun h' st' hT hk => ?_
    obtain ⟨_, ⟨o, vs, n, e, hcl, hd, hn⟩, _⟩ := R.obj (i + 1) h' st'
    refine ⟨_, rfl, go_of (s := { s with heap := h' }) e hcl hd hn ?_⟩
    have hw := R.wide _ (List.getElem_mem hg')
    have new : ObjOk X.prog X.w (upd H s.heap.objs.size (.frz (tupObj (rows[i].map fun i => its.toArray.getD i .none).toArray) (.tup (rows[i].map fun i => xs.getD i .non)))) h' s.heap.objs.size (.frz (tupObj (rows[i].map fun i => its.toArray.getD i .none).toArray) (.tup (rows[i].map fun i => xs.getD i .non))) :=
      ⟨hT, by rw [List.length_map, sizeLine_eq]; omega, _, valsR rv _, ⟨_, hT, rfl, _, rfl⟩⟩
    have I1 : Inv X pins σ _ { s with heap := h', toks := s.toks } := I.turnedNew (t' := s.toks) (ch := [it, pool]) (fun b ob hb q => hk b ob (fun z => hb (by simp [z])) q) hf (Nat.le_refl _) new
    refine ⟨.ref s.heap.objs.size, _, I1, rfl, ⟨_, _, rfl, I.hok.fresh (Nat.le_refl _), hrow, _, rfl, rfl, rfl⟩, st', fun b hb => ?_⟩
    rw [upd_ne (Nat.ne_of_lt (lt2 b hb))]
    exact (hf b hb).1
  done := by
    intro X hP hw hK hc i pins s σ H E I hf st hg
    subst hP hw hK
    have hle := (R.obj i _ st).1
    have hge : rows.length ≤ i := hg
    have ei : i = rows.length := Nat.le_antisymm hle hge
    subst ei
    refine R.done X.A E s _ st (I.ok.hd hc) fun h' hk => ⟨rfl, ?_⟩
    exact I.turnedL (t' := s.toks) (ch := [it, pool]) (fun b ob hb q => hk b ob (fun z => hb (by simp [z])) q) hf
  self := fun A i s Q E st h => R.self A i s Q E st h
theorem itR_ok {K : PySem.W.Frag} {F : Hp} {xs : List V} {ds : List D} {st : Hp → Prop} {rows : List (List Nat)} (hb : ∀ row ∈ rows, ∀ i ∈ row, i < ds.length) (r : RepA K F xs ds) : ItO false K (ItR xs rows) F st (rows.map fun row => .tuple (row.map fun i => ds.getD i .none)) := by
  refine ⟨fun i F' H' hi e1 e2 e3 => by rw [List.length_map] at hi; exact hi, fun i d F' H' v H3 hd e1 e2 e3 yy => ?_, fun i F' H' hi e1 e2 e3 => by rw [List.length_map] at hi; exact hi⟩
  obtain ⟨T, row, rfl, hT, hr, o, h1, h2, rfl⟩ := yy
  rw [List.getElem?_map, hr] at hd
  obtain rfl := Option.some.inj hd
  have hm : row ∈ rows := List.mem_of_getElem? hr
  have x := ext_new (o := .frz o (.tup (row.map fun i => xs.getD i .non))) (Ext.refl e2) hT
  refine ⟨_, x, .inl (.tup (.inl ⟨o, upd_same, h1, h2⟩) ?_)⟩
  have all : ∀ l : List Nat, (∀ i ∈ l, i < ds.length) → RepA K F (l.map fun i => xs.getD i .non) (l.map fun i => ds.getD i .none) := by
    intro l
    induction l with
    | nil => intro _; exact .nil
    | cons i l ih =>
      intro hl
      refine .cons ?_ (ih fun j hj => hl j (List.mem_cons_of_mem _ hj))
      have hi := hl i (List.mem_cons_self ..)
      obtain ⟨y, h3, h4⟩ := r.get (List.getElem?_eq_getElem hi)
      show Rep K F (xs.getD i .non) (ds.getD i .none)
      rw [List.getD_eq_getElem?_getD, h3, List.getD_eq_getElem?_getD, List.getElem?_eq_getElem hi]
      exact h4
  exact ((all row (hb row hm)).mono e1).mono x.f
end Q
end

/-! part: Q33 -/
section
set_option Elab.async false
set_option linter.all false
set_option maxRecDepth 100000
set_option maxHeartbeats 4000000
set_option autoImplicit false
namespace PySem
open PySem.Spec
theorem combL_mem : ∀ {k : Nat} {l row : List Nat}, row ∈ combL k l → row.length = k ∧ ∀ i ∈ row, i ∈ l
  | 0, l, row, h => by simp [combL] at h; subst h; exact ⟨rfl, fun _ z => nomatch z⟩
  | k + 1, [], row, h => by simp [combL] at h
  | k + 1, x :: l, row, h => by
    simp only [combL, List.mem_append, List.mem_map] at h
    rcases h with ⟨r, h1, rfl⟩ | h
    · obtain ⟨a, b⟩ := combL_mem h1
      exact ⟨by simp [a], fun i hi => by
        rcases List.mem_cons.mp hi with z | z
        · rw [z]; exact List.mem_cons_self ..
        · exact List.mem_cons_of_mem _ (b i z)⟩
    · obtain ⟨a, b⟩ := combL_mem h
      exact ⟨a, fun i hi => List.mem_cons_of_mem _ (b i hi)⟩
theorem combL_nil : ∀ {k : Nat} {l : List Nat}, l.length < k → combL k l = []
  | 0, l, h => absurd h (Nat.not_lt_zero _)
  | k + 1, [], h => by simp [combL]
  | k + 1, x :: l, h => by
    simp only [List.length_cons] at h
    simp only [combL]
    rw [combL_nil (by omega), combL_nil (by omega)]
    rfl
theorem permL_mem : ∀ {k : Nat} {l row : List Nat}, row ∈ permL k l → row.length = k ∧ ∀ i ∈ row, i ∈ l
  | 0, l, row, h => by simp [permL] at h; subst h; exact ⟨rfl, fun _ z => nomatch z⟩
  | k + 1, l, row, h => by
    simp only [permL, List.mem_flatMap, List.mem_map] at h
    obtain ⟨x, hx, r, h1, rfl⟩ := h
    obtain ⟨a, b⟩ := permL_mem h1
    exact ⟨by simp [a], fun i hi => by
      rcases List.mem_cons.mp hi with z | z
      · rw [z]; exact hx
      · exact List.mem_of_mem_erase (b i z)⟩
theorem cmb_fact {n k : Nat} (hn : n ≤ 7) (hk : k ≤ n) : chainS (cmbS.f n) 50 (List.range k) = combL k (List.range n) ∧ (combL k (List.range n)).length < 50 := by
  have h := cmb_ok
  unfold cmbOk at h
  have h1 := List.all_eq_true.mp (List.all_eq_true.mp h n (List.mem_range.mpr (by omega))) k (List.mem_range.mpr (by omega))
  obtain ⟨a, b⟩ := Bool.and_eq_true_iff.mp h1
  exact ⟨of_decide_eq_true a, of_decide_eq_true b⟩
theorem prm_fact {f : PFun} (h : prmOk f = true) {n : Nat} (hn : n ≤ 6) :
    (chainS (fun p : List Nat × List Nat => f n n p.1 p.2) 800 (List.range n, (List.range n).map fun i => n - i)).map (·.1) = permL n (List.range n) ∧ (permL n (List.range n)).length < 800 ∧
    ∀ p ∈ chainS (fun p : List Nat × List Nat => f n n p.1 p.2) 800 (List.range n, (List.range n).map fun i => n - i), p.2.length ≤ 7 := by
  unfold prmOk at h
  have h1 := List.all_eq_true.mp h n (List.mem_range.mpr (by omega))
  obtain ⟨ab, c⟩ := Bool.and_eq_true_iff.mp h1
  obtain ⟨a, b⟩ := Bool.and_eq_true_iff.mp ab
  exact ⟨of_decide_eq_true a, of_decide_eq_true b, fun p hp => of_decide_eq_true (List.all_eq_true.mp c p hp)⟩
section
variable {prog : Program} {w : World} {A : Around} {E : Value → Shared → Prop} {s : Shared} {it pool : Addr} {st : Int} {last : Value} {idx : List Nat} {its : Array Value}
/-- past its end -/
theorem cmb_next3 {Q : Fin → Shared → Prop} (hh : A.handled = none) (hit : IsCmb s.heap it pool 2 last idx)
    (hE : ∀ e h', CpRep.StopE e h' → Heap.ExtBut it s.heap h' → E e { s with heap := h' }) :
    wpAny (model prog w) A (Builtin.«itertools.combinations.__next__» ⟨[.ref it], []⟩) Q E s := by
  show wpAny _ _ (field (.ref it) 0 >>= _) _ _ _
  refine wpAny_bind (wpAny_field hit rfl (x := .ref pool) rfl ?_)
  refine wpAny_bind (wpAny_nums hit rfl rfl ?_)
  show wpAny _ _ (Builtin.Itertools.itIntField (.ref it) 1 >>= _) _ _ _
  refine wpAny_bind (wpAny_intF hit rfl rfl ?_)
  show wpAny _ _ (rule "itertools.combinations.ended" >>= _) _ _ _
  refine wpAny_bind (wpAny_rule ?_)
  exact wpAny_itStop hh hE
theorem StopE.is {e : Value} {h : Heap} (x : CpRep.StopE e h) : ∃ a, e = .ref a ∧ ∃ o, h.get? a = some o ∧ o.cls = .type "StopIteration" := by
  obtain ⟨a, o, vs, h1, h2, h3, _⟩ := x
  exact ⟨a, h1, o, h2, h3⟩
theorem pyNext_slot {T : String} {B : Builtin} {id : String} {Q : Option Value → Shared → Prop} (hT : s.TypeIs (.ref it) T) (sl : Slot T "__next__" id) (en : entryFor table id = some B) (ar : argsOk id ⟨[.ref it], []⟩)
    (h : wpAny (model prog w) A.in1 (B ⟨[.ref it], []⟩) (fun fin s' => ∃ v, fin = .done (.ret v) ∧ Q (some v) s') (fun e s' => ∃ a, e = .ref a ∧ (∃ o, s'.heap.get? a = some o ∧ o.cls = .type "StopIteration") ∧ Q none s') s) :
    wpAny (model prog w) A (pyNext (.ref it)) Q E s := by
  unfold pyNext
  refine wpAny_bind (wpAny_attempt (wpAny_callSpecial?_slot (name := Str.ofString "__next__") hT sl (wpAny_call_entry sl hT en (wpAny_mono h (fun fin s' z => ?_) fun e s' z => ?_) ar)))
  · obtain ⟨v, rfl, q⟩ := z
    exact ⟨v, rfl, wpAny_pure q⟩
  · obtain ⟨a, rfl, ⟨o, ho, hc⟩, q⟩ := z
    refine wpAny_bind (wpAny_isInstance (T := "StopIteration") (b := true) ⟨o, ho, hc⟩ isSubtype_stop ?_)
    exact wpAny_pure q
end
end PySem
namespace Q
open PySem PySem.Spec PySem.Calls PyProof.Rows L2
section
variable {prog : Program} {w : World} {it pool : Addr} {its : List Value}
def tnC (it pool : Addr) (its : List Value) (k : Nat) : Nat → Heap → Prop := fun i h => h.IsTuple pool its.toArray ∧ i ≤ (combL k (List.range its.length)).length ∧
  ∃ last, (i = 0 ∧ IsCmb h it pool (if k > its.length then 2 else 0) last (List.range k)) ∨ (∃ idx, 1 ≤ i ∧ (combL k (List.range its.length))[i - 1]? = some idx ∧ IsCmb h it pool 1 last idx)
theorem rit_cmb {k : Nat} (hn : its.length ≤ 7) (ne : pool ≠ it) : RIt prog w it pool its (combL k (List.range its.length)) (tnC it pool its k) where
  ne := ne
  obj := fun i h st => by
    obtain ⟨⟨o, ho, hc, m, hd⟩, hi, last, st⟩ := st
    refine ⟨hi, ?_, o, ho, fun v z => by rw [hd] at z; cases z⟩
    rcases st with ⟨_, e⟩ | ⟨idx, _, _, e⟩
    · exact ⟨_, _, _, e, rfl, rfl, by decide⟩
    · exact ⟨_, _, _, e, rfl, rfl, by decide⟩
  keep := fun i h h' st kp => by
    obtain ⟨tp, hi, last, st⟩ := st
    refine ⟨tp.at fun o e => kp pool (by simp) o e, hi, last, ?_⟩
    rcases st with ⟨e0, e⟩ | ⟨idx, h1, h2, e⟩
    · exact .inl ⟨e0, kp it (by simp) _ e⟩
    · exact .inr ⟨idx, h1, h2, kp it (by simp) _ e⟩
  item := fun A E s i row Q st hr hQ => by
    obtain ⟨tp, hi, last, st⟩ := st
    have hik : i < (combL k (List.range its.length)).length := (List.getElem?_eq_some_iff.mp hr).1
    have hk : k ≤ its.length := Decidable.byContradiction fun z => by
      rw [combL_nil (by rw [List.length_range]; omega)] at hik
      exact absurd hik (Nat.not_lt_zero _)
    obtain ⟨c1, c2⟩ := cmb_fact hn hk
    have rw1 : row.length ≤ sizeLine := by
      have := (combL_mem (List.mem_of_getElem? hr)).1
      rw [sizeLine_eq]; omega
    rcases st with ⟨e0, e⟩ | ⟨idx, h1, h2, e⟩
    · subst e0
      rw [if_neg (by omega)] at e
      have er : row = List.range k := by
        rw [← c1] at hr
        have : (chainS (cmbS.f its.length) 50 (List.range k))[0]? = some (List.range k) := rfl
        rw [hr] at this
        exact Option.some.inj this
      subst er
      refine pyNext_slot ⟨_, e, rfl⟩ slot_cmb_next entry_cmb_next (args_cmb_next _) (cmb_next0 e tp ne rw1 fun h' a1 a2 a3 => ?_)
      exact hQ h' ⟨tp.at fun o x => a3 pool o ne x, hik, _, .inr ⟨_, Nat.le_refl _, hr, a1⟩⟩ a2 a3
    · have hs : cmbS.f its.toArray.size idx = some row := by
        rw [List.size_toArray]
        have q := chainS_next (f := cmbS.f its.length) (k := 50) (s := List.range k) (i := i - 1) (u := idx) (by rw [c1]; exact c2) (by rw [c1]; exact h2)
        rw [c1, show i - 1 + 1 = i by omega, hr] at q
        exact q.symm
      refine pyNext_slot ⟨_, e, rfl⟩ slot_cmb_next entry_cmb_next (args_cmb_next _) (cmb_next1 e tp ne hs rw1 fun h' a1 a2 a3 => ?_)
      exact hQ h' ⟨tp.at fun o x => a3 pool o ne x, hik, _, .inr ⟨_, by omega, by rw [show i + 1 - 1 = i by omega]; exact hr, a1⟩⟩ a2 a3
  done := fun A E s Q st hh hQ => by
    obtain ⟨tp, hi, last, st⟩ := st
    have fin : ∀ (e : Value) (h' : Heap), CpRep.StopE e h' → Heap.ExtBut it s.heap h' → ∃ a, e = .ref a ∧ (∃ o, h'.get? a = some o ∧ o.cls = .type "StopIteration") ∧ Q none { s with heap := h' } := fun e h' x y => by
      obtain ⟨a, h1, h2⟩ := StopE.is x
      exact ⟨a, h1, h2, hQ h' fun b o hb z => y b o hb z⟩
    rcases st with ⟨e0, e⟩ | ⟨idx, h1, h2, e⟩
    · have hk : k > its.length := Decidable.byContradiction fun z => by
        obtain ⟨c1, c2⟩ := cmb_fact hn (k := k) (by omega)
        rw [← c1] at e0
        exact absurd e0 (by simp [chainS])
      rw [if_pos hk] at e
      exact pyNext_slot ⟨_, e, rfl⟩ slot_cmb_next entry_cmb_next (args_cmb_next _) (cmb_next3 hh e fin)
    · have hk : k ≤ its.length := Decidable.byContradiction fun z => by
        rw [combL_nil (by rw [List.length_range]; omega)] at h1
        exact absurd h1 (by decide)
      obtain ⟨c1, c2⟩ := cmb_fact hn hk
      have hs : cmbS.f its.toArray.size idx = none := by
        rw [List.size_toArray]
        have q := chainS_next (f := cmbS.f its.length) (k := 50) (s := List.range k) (i := (combL k (List.range its.length)).length - 1) (u := idx) (by rw [c1]; exact c2) (by rw [c1]; exact h2)
        rw [c1, show (combL k (List.range its.length)).length - 1 + 1 = (combL k (List.range its.length)).length by omega, List.getElem?_eq_none (Nat.le_refl _)] at q
        exact q.symm
      exact pyNext_slot ⟨_, e, rfl⟩ slot_cmb_next entry_cmb_next (args_cmb_next _) (cmb_next2 hh e tp ne hs fin)
  self := fun A i s Q E st h => by
    obtain ⟨tp, hi, last, st⟩ := st
    have hT : s.TypeIs (.ref it) "itertools.combinations" := by
      rcases st with ⟨_, e⟩ | ⟨idx, _, _, e⟩
      · exact ⟨_, e, rfl⟩
      · exact ⟨_, e, rfl⟩
    refine wpAny_pyIter_slot hT slot_cmb_iter (wpAny_call_entry slot_cmb_iter hT entry_cmb_iter ?_ (args_cmb_iter _))
    show wpAny _ _ (ret (.ref it)) _ _ s
    exact wpAny_pure ⟨_, rfl, _, _, hT, slot_cmb_next.lookup, h⟩
  wide := fun row hr => by
    have h1 := (combL_mem hr).1
    have hk : k ≤ its.length := Decidable.byContradiction fun z => by
      rw [combL_nil (by rw [List.length_range]; omega)] at hr
      exact nomatch hr
    omega
end
end Q
end

/-! part: Q34 -/
section
set_option Elab.async false
set_option linter.all false
set_option maxRecDepth 100000
set_option maxHeartbeats 4000000
set_option autoImplicit false
namespace Q
open PySem PySem.Spec PySem.Calls PyProof.Rows L2
section
variable {prog : Program} {w : World} {it pool : Addr} {its : List Value}
def stP (f : PFun) (n : Nat) : List (List Nat × List Nat) := chainS (fun p : List Nat × List Nat => f n n p.1 p.2) 800 (List.range n, (List.range n).map fun i => n - i)
def tnP (f : PFun) (it pool : Addr) (its : List Value) : Nat → Heap → Prop := fun i h => h.IsTuple pool its.toArray ∧ i ≤ (permL its.length (List.range its.length)).length ∧
  ∃ last, (i = 0 ∧ IsPrm h it pool 0 its.length last (List.range its.length ++ (List.range its.length).map fun i => its.length - i)) ∨ (∃ u, 1 ≤ i ∧ (stP f its.length)[i - 1]? = some u ∧ IsPrm h it pool 1 its.length last (u.1 ++ u.2))
theorem rit_prm : ∃ f : PFun, ∀ (prog : Program) (w : World) (it pool : Addr) (its : List Value), its.length ≤ 6 → pool ≠ it → RIt prog w it pool its (permL its.length (List.range its.length)) (tnP f it pool its) := by
  obtain ⟨f, fok, hitem, hdone⟩ := prm_ex
  refine ⟨f, fun prog w it pool its hn ne => ?_⟩
  obtain ⟨c1, c2, c3⟩ := prm_fact fok hn
  have c1' : (stP f its.length).map (·.1) = permL its.length (List.range its.length) := c1
  have c0 : (stP f its.length).length < 800 := by rw [← List.length_map (f := (·.1)), c1']; exact c2
  have inr : ∀ {j : Nat} {u : List Nat × List Nat}, (stP f its.length)[j]? = some u → u.1.length = its.length ∧ (permL its.length (List.range its.length))[j]? = some u.1 := fun {j u} h => by
    have q : (permL its.length (List.range its.length))[j]? = some u.1 := by rw [← c1', List.getElem?_map, h]; rfl
    exact ⟨(permL_mem (List.mem_of_getElem? q)).1, q⟩
  have sp : ∀ {u : List Nat × List Nat}, u.1.length = its.length → (u.1 ++ u.2).take its.toArray.size = u.1 ∧ (u.1 ++ u.2).drop its.toArray.size = u.2 := fun {u} h => by
    rw [List.size_toArray, ← h]
    exact ⟨List.take_left, List.drop_left⟩
  have ez : its.toArray.size = its.length := List.size_toArray ..
  refine ⟨ne, ?_, ?_, ?_, ?_, ?_, ?_⟩
  · intro i h st
    obtain ⟨⟨o, ho, hc, m, hd⟩, hi, last, st⟩ := st
    refine ⟨hi, ?_, o, ho, fun v z => by rw [hd] at z; cases z⟩
    rcases st with ⟨_, e⟩ | ⟨u, _, _, e⟩
    · exact ⟨_, _, _, e, rfl, rfl, by decide⟩
    · exact ⟨_, _, _, e, rfl, rfl, by decide⟩
  · intro i h h' st kp
    obtain ⟨tp, hi, last, st⟩ := st
    refine ⟨tp.at fun o e => kp pool (by simp) o e, hi, last, ?_⟩
    rcases st with ⟨e0, e⟩ | ⟨idx, h1, h2, e⟩
    · exact .inl ⟨e0, kp it (by simp) _ e⟩
    · exact .inr ⟨idx, h1, h2, kp it (by simp) _ e⟩
  · intro A E s i row Q st hr hQ
    obtain ⟨tp, hi, last, st⟩ := st
    have hik : i < (permL its.length (List.range its.length)).length := (List.getElem?_eq_some_iff.mp hr).1
    have lrow := (permL_mem (List.mem_of_getElem? hr)).1
    rcases st with ⟨e0, e⟩ | ⟨u, h1, h2, e⟩
    · subst e0
      have h0 : (stP f its.length)[0]? = some (List.range its.length, (List.range its.length).map fun i => its.length - i) := rfl
      have er : row = List.range its.length := by
        have := (inr h0).2
        rw [hr] at this
        exact Option.some.inj this
      subst er
      refine pyNext_slot ⟨_, e, rfl⟩ slot_prm_next entry_prm_next (args_prm_next _) (prm_next0 e tp ne (by rw [sizeLine_eq]; omega) fun h' a1 a2 a3 => ?_)
      rw [show (List.range its.length ++ (List.range its.length).map fun i => its.length - i).take its.length = List.range its.length from List.take_left' (List.length_range ..)] at a2
      exact hQ h' ⟨tp.at fun o x => a3 pool o ne x, hik, _, .inr ⟨_, Nat.le_refl _, h0, a1⟩⟩ a2 a3
    · obtain ⟨l1, _⟩ := inr h2
      have q := chainS_next (f := fun p : List Nat × List Nat => f its.length its.length p.1 p.2) c0 h2
      rw [show i - 1 + 1 = i by omega] at q
      have : (stP f its.length)[i]? ≠ none := by
        have e2 : ((stP f its.length).map (·.1))[i]? = some row := by rw [c1']; exact hr
        rw [List.getElem?_map] at e2
        intro z
        rw [z] at e2
        cases e2
      cases hv : (stP f its.length)[i]? with
      | none => exact absurd hv this
      | some v =>
        have q2 : f its.length its.length u.1 u.2 = some v := q.symm.trans hv
        obtain ⟨l2, l3⟩ := inr hv
        have er : row = v.1 := Option.some.inj (hr.symm.trans l3)
        subst er
        have lv := c3 v (List.mem_of_getElem? hv)
        refine pyNext_slot ⟨_, e, rfl⟩ slot_prm_next entry_prm_next (args_prm_next _) (hitem prog w A.in1 _ s it pool last its.toArray (u.1 ++ u.2) v.1 v.2 (fun v s' => Q (some v) s') ?_ tp ne ?_ ?_ fun h' a1 a2 a3 => ?_)
        · rw [ez]; exact e
        · rw [(sp l1).1, (sp l1).2, ez]; exact q2
        · rw [sizeLine_eq]; omega
        · rw [ez] at a1
          rw [ez, List.take_of_length_le (Nat.le_of_eq l2)] at a2
          exact hQ h' ⟨tp.at fun o x => a3 pool o ne x, hik, _, .inr ⟨v, by omega, by rw [show i + 1 - 1 = i by omega]; exact hv, a1⟩⟩ a2 a3
  · intro A E s Q st hh hQ
    obtain ⟨tp, hi, last, st⟩ := st
    have fin : ∀ (e : Value) (h' : Heap), CpRep.StopE e h' → Heap.ExtBut it s.heap h' → ∃ a, e = .ref a ∧ (∃ o, h'.get? a = some o ∧ o.cls = .type "StopIteration") ∧ Q none { s with heap := h' } := fun e h' x y => by
      obtain ⟨a, h1, h2⟩ := StopE.is x
      exact ⟨a, h1, h2, hQ h' fun b o hb z => y b o hb z⟩
    have pos : 0 < (permL its.length (List.range its.length)).length := by
      rw [← c1', List.length_map]
      exact Nat.succ_pos _
    rcases st with ⟨e0, e⟩ | ⟨u, h1, h2, e⟩
    · omega
    · obtain ⟨l1, _⟩ := inr h2
      have q := chainS_next (f := fun p : List Nat × List Nat => f its.length its.length p.1 p.2) c0 h2
      rw [show (permL its.length (List.range its.length)).length - 1 + 1 = (permL its.length (List.range its.length)).length by omega] at q
      have e2 : (stP f its.length)[(permL its.length (List.range its.length)).length]? = none := by
        apply List.getElem?_eq_none
        rw [← c1', List.length_map]
        exact Nat.le_refl _
      have q2 : f its.length its.length u.1 u.2 = none := q.symm.trans e2
      refine pyNext_slot ⟨_, e, rfl⟩ slot_prm_next entry_prm_next (args_prm_next _) (hdone prog w A.in1 _ s it pool last its.toArray (u.1 ++ u.2) _ hh ?_ tp ne ?_ fin)
      · rw [ez]; exact e
      · rw [(sp l1).1, (sp l1).2, ez]; exact q2
  · intro A i s Q E st h
    obtain ⟨tp, hi, last, st⟩ := st
    have hT : s.TypeIs (.ref it) "itertools.permutations" := by
      rcases st with ⟨_, e⟩ | ⟨idx, _, _, e⟩
      · exact ⟨_, e, rfl⟩
      · exact ⟨_, e, rfl⟩
    refine wpAny_pyIter_slot hT slot_prm_iter (wpAny_call_entry slot_prm_iter hT entry_prm_iter ?_ (args_prm_iter _))
    show wpAny _ _ (ret (.ref it)) _ _ s
    exact wpAny_pure ⟨_, rfl, _, _, hT, slot_prm_next.lookup, h⟩
  · intro row hr
    have h1 := (permL_mem hr).1
    omega
end
end Q
end

/-! part: Q35 -/
section
set_option Elab.async false
set_option linter.all false
set_option maxRecDepth 100000
set_option maxHeartbeats 4000000
set_option autoImplicit false
namespace Q
open PySem PySem.Spec PySem.Calls PyProof.Rows L2
section
variable {prog : Program} {w : World} {A : Around} {E : Value → Shared → Prop} {s : Shared}
theorem col_seq {b : Bool} {a : Addr} {its : List Value} (h : isS b s.heap a its.toArray) (hz : its.length ≤ sizeLine) : Col prog w (.ref a) (fun l => l = its) s := by
  intro A E Q hh hQ
  have go : ∀ (o : Obj) (T : String) (n : Nat), (T = "list" ∨ T = "tuple") → s.heap.get? a = some o → o.cls = .type T → o.data = .seq its.toArray n → wpAny (model prog w) A (collect (.ref a)) Q E s := fun o T n hT ho hc hd =>
    wpAny_collect_seq a hT ho hc hd (fun h' hk => by rw [List.toList_toArray]; exact hQ h' s.toks its hk rfl) (by rw [List.size_toArray]; exact hz)
  cases b with
  | true => obtain ⟨o, ho, hc, n, hd⟩ := (show s.heap.IsList a its.toArray from h); exact go o "list" _ (.inl rfl) ho hc hd
  | false => obtain ⟨o, ho, hc, n, hd⟩ := (show s.heap.IsTuple a its.toArray from h); exact go o "tuple" _ (.inr rfl) ho hc hd
theorem col_range {r : Addr} {a b : Int} {t u v : Tok} (hr : IsRange s.heap r a b 1 t u v) (ok : RgOk a b) : Col prog w (.ref r) (fun l => Vals (rgV a b) l) s := by
  obtain ⟨b1, b2, b3, b4, b5⟩ := ok
  intro A E Q hh hQ
  exact collect_range (n := (b - a).toNat) hh hr (small_one b1 b2 b3 b4) (rangeSize_nat a b) b5 fun h' tk acc hk hi => hQ h' tk acc.toList hk (vals_rg hi)
theorem call_cmb {Q : Value → Shared → Prop} {v : Value} {n : Int} {t : Tok} {P : List Value → Prop} (hh : A.handled = none) (h0 : 0 ≤ n) (h1 : n < 1000000) (hP : ∀ its, P its → its.length ≤ 7) (hc : Col prog w v P s)
    (h : ∀ (h' : Heap) (tk : Nat) (its : List Value), (∀ b o, s.heap.get? b = some o → h'.get? b = some o) → P its →
      ∀ h'' : Heap, (∀ b o, h'.get? b = some o → h''.get? b = some o) → tnC (h'.objs.size + 1) h'.objs.size its n.toNat 0 h'' → Q (.ref (h'.objs.size + 1)) { s with heap := h'', toks := tk }) :
    wpAny (model prog w) A (call (.type "itertools.combinations") [v, .int n t]) Q E s := by
  refine callType_codes (Q₁ := fun obj s₁ => s₁.TypeIs obj "itertools.combinations" ∧ Q obj s₁) called_cmb (typeCall_cmb _ _) F.entry_object_init
    (code_cmb_new (A := A.in1) hh h0 h1 (fun its hp => by have := hP its hp; rw [sizeLine_eq]; omega) hc fun h' tk its hk hp => ?_) fun obj s₁ h₁ => ?_
  · have hz : (h'.push { cls := .type "tuple", data := .seq its.toArray }).objs.size = h'.objs.size + 1 := Heap.size_push ..
    have hit := Heap.get?_push_size (h'.push { cls := .type "tuple", data := .seq its.toArray }) (o := { cls := .type "itertools.combinations", data := .fields (([.ref h'.objs.size, rawInt (if n.toNat > its.length then 2 else 0), .none] ++ (List.range n.toNat).map fun (i : Nat) => rawInt i)).toArray }) rfl
    rw [hz] at hit
    exact ⟨⟨_, hit, rfl⟩, h h' tk its hk hp _ (fun b o e => Heap.get?_push_of_some _ (Heap.get?_push_of_some _ e)) ⟨⟨_, Heap.get?_push_of_some _ (Heap.get?_push_size _ rfl), rfl, _, rfl⟩, Nat.zero_le _, _, .inl ⟨rfl, hit⟩⟩⟩
  · exact ⟨h₁.1, F.args_object_init_3 obj _ _, object_init_meets called_cmb.init.lookup called_cmb.made (by decide) prog w A.in1 _ s₁ ⟨h₁.1, rfl, h₁.2⟩⟩
theorem call_prm {Q : Value → Shared → Prop} {v : Value} {P : List Value → Prop} (f : PFun) (hh : A.handled = none) (hP : ∀ its, P its → its.length ≤ 6) (hc : Col prog w v P s)
    (h : ∀ (h' : Heap) (tk : Nat) (its : List Value), (∀ b o, s.heap.get? b = some o → h'.get? b = some o) → P its →
      ∀ h'' : Heap, (∀ b o, h'.get? b = some o → h''.get? b = some o) → tnP f (h'.objs.size + 1) h'.objs.size its 0 h'' → Q (.ref (h'.objs.size + 1)) { s with heap := h'', toks := tk }) :
    wpAny (model prog w) A (call (.type "itertools.permutations") [v]) Q E s := by
  refine callType_codes (Q₁ := fun obj s₁ => s₁.TypeIs obj "itertools.permutations" ∧ Q obj s₁) called_prm (typeCall_prm _) F.entry_object_init
    (code_prm_new (A := A.in1) hh (fun its hp => by have := hP its hp; omega) hc fun h' tk its hk hp => ?_) fun obj s₁ h₁ => ?_
  · have hz : (h'.push { cls := .type "tuple", data := .seq its.toArray }).objs.size = h'.objs.size + 1 := Heap.size_push ..
    have ef : ([Value.ref h'.objs.size, rawInt 0, rawInt its.length, .none] ++ (List.range its.length).map (fun (i : Nat) => rawInt i) ++ (List.range its.length).map fun (i : Nat) => rawInt ((its.length : Int) - i)) = [Value.ref h'.objs.size, rawInt 0, rawInt its.length, .none] ++ ((List.range its.length ++ (List.range its.length).map fun i => its.length - i).map fun (i : Nat) => rawInt i) := by
      rw [List.map_append, List.map_map, List.append_assoc]
      refine congrArg _ (congrArg _ (List.map_congr_left fun i hi => ?_))
      have := List.mem_range.mp hi
      show rawInt _ = rawInt _
      rw [show ((its.length - i : Nat) : Int) = (its.length : Int) - i by omega]
    rw [ef]
    have hit := Heap.get?_push_size (h'.push { cls := .type "tuple", data := .seq its.toArray }) (o := { cls := .type "itertools.permutations", data := .fields ([Value.ref h'.objs.size, rawInt 0, rawInt its.length, .none] ++ ((List.range its.length ++ (List.range its.length).map fun i => its.length - i).map fun (i : Nat) => rawInt i)).toArray }) rfl
    rw [hz] at hit
    exact ⟨⟨_, hit, rfl⟩, h h' tk its hk hp _ (fun b o e => Heap.get?_push_of_some _ (Heap.get?_push_of_some _ e)) ⟨⟨_, Heap.get?_push_of_some _ (Heap.get?_push_size _ rfl), rfl, _, rfl⟩, Nat.zero_le _, _, .inl ⟨rfl, hit⟩⟩⟩
  · exact ⟨h₁.1, F.args_object_init_2 obj _, object_init_meets called_prm.init.lookup called_prm.made (by decide) prog w A.in1 _ s₁ ⟨h₁.1, rfl, h₁.2⟩⟩
end
section
variable {X : Cx} {pins : List (Addr × Obj)} {σ : L2.St} {H : Hp} {s : Shared} {tg : Expr}
/-- the new iterator, as a rule hands it on -/
theorem pie_cmb (I : Inv X pins σ H s) {R : It → Hp → Prop} {xs : List V} {its : List Value} {h' h'' : Heap} {tk : Nat} {k : Nat} (rv : Vals xs its) (hn : its.length ≤ 7) (hk : ∀ b o, s.heap.get? b = some o → h'.get? b = some o) (hk2 : ∀ b o, h'.get? b = some o → h''.get? b = some o)
    (st : tnC (h'.objs.size + 1) h'.objs.size its k 0 h'') (q : R (ItR xs (combL k (List.range xs.length))) H) {E : Value → Shared → Prop} : wpAny (model X.prog X.w) X.A (pyIter (.ref (h'.objs.size + 1))) (PIE X pins σ tg R) E { s with heap := h'', toks := tk } := by
  have rit : RIt X.prog X.w (h'.objs.size + 1) h'.objs.size its (combL k (List.range its.length)) (tnC (h'.objs.size + 1) h'.objs.size its k) := rit_cmb hn (Nat.ne_of_lt (Nat.lt_succ_self _))
  rw [rv.length] at q
  have I1 : Inv X pins σ H { s with heap := h', toks := tk } := I.kept hk
  have I2 : Inv X pins σ H { s with heap := h'', toks := tk } := I1.kept (t' := tk) hk2
  refine rit.self _ 0 _ _ _ st ⟨_, [h'.objs.size + 1, h'.objs.size], _, _, H, rfl, I2, turn_row rit rv, st, fun b hb => ?_, q⟩
  have le : h'.objs.size ≤ b := by
    have e' : b = h'.objs.size + 1 ∨ b = h'.objs.size := by simpa using hb
    rcases e' with z | z
    · rw [z]; exact Nat.le_succ _
    · rw [z]; exact Nat.le_refl _
  exact I1.fpOk le (I1.hok.fresh le)
theorem pie_prm (I : Inv X pins σ H s) {f : PFun} (hf : ∀ (prog : Program) (w : World) (it pool : Addr) (its : List Value), its.length ≤ 6 → pool ≠ it → RIt prog w it pool its (permL its.length (List.range its.length)) (tnP f it pool its)) {R : It → Hp → Prop} {xs : List V} {its : List Value} {h' h'' : Heap} {tk : Nat} (rv : Vals xs its) (hn : its.length ≤ 6) (hk : ∀ b o, s.heap.get? b = some o → h'.get? b = some o) (hk2 : ∀ b o, h'.get? b = some o → h''.get? b = some o)
    (st : tnP f (h'.objs.size + 1) h'.objs.size its 0 h'') (q : R (ItR xs (permL xs.length (List.range xs.length))) H) {E : Value → Shared → Prop} : wpAny (model X.prog X.w) X.A (pyIter (.ref (h'.objs.size + 1))) (PIE X pins σ tg R) E { s with heap := h'', toks := tk } := by
  have rit := hf X.prog X.w (h'.objs.size + 1) h'.objs.size its hn (Nat.ne_of_lt (Nat.lt_succ_self _))
  rw [rv.length] at q
  have I1 : Inv X pins σ H { s with heap := h', toks := tk } := I.kept hk
  have I2 : Inv X pins σ H { s with heap := h'', toks := tk } := I1.kept (t' := tk) hk2
  refine rit.self _ 0 _ _ _ st ⟨_, [h'.objs.size + 1, h'.objs.size], _, _, H, rfl, I2, turn_row rit rv, st, fun b hb => ?_, q⟩
  have le : h'.objs.size ≤ b := by
    have e' : b = h'.objs.size + 1 ∨ b = h'.objs.size := by simpa using hb
    rcases e' with z | z
    · rw [z]; exact Nat.le_succ _
    · rw [z]; exact Nat.le_refl _
  exact I1.fpOk le (I1.hok.fresh le)
end
/-! ### the rules -/
/-- range(e) whose object is new -/
def PRgF (X : Cx) (e : Expr) (t : L2.St → Hp → (Int → Int → Hp → Prop) → Prop) : Prop :=
  ∀ (pins : List (Addr × Obj)) (s : Shared) (σ : L2.St) (H : Hp) (Q : Int → Int → Hp → Prop), Inv X pins σ H s → t σ H Q →
    wpAny (model X.prog X.w) X.A (eval e X.env) (fun x s' => ∃ r a b t u v H', x = .ref r ∧ IsRange s'.heap r a b 1 t u v ∧ Inv X pins σ H' s' ∧ FpOk X pins H' r ∧ Q a b H') X.xe s
theorem prgF_1 {X : Cx} {a : Expr} {ta : TE} {p pos : Pos} (hg : Gl X "range") (hm : X.mg "range" = none) (ha : PE X a ta) (na : starEach [a] X.env = (false, eval a X.env) :: starEach [] X.env := by rfl) : PRgF X (.Call (.Name "range" p) [a] [] pos) (tRg1 ta) := by
  intro pins s σ H Q I h
  refine Call_ (ld_blt I hg hm boot_range (PyProof.Rows.callWith_type1 (one_arg ha I h (fun v s2 x H2 I2 r q => ?_) na) na))
  obtain ⟨n, rfl, q⟩ := q
  obtain ⟨t, rfl⟩ := r
  exact call_range_1 ⟨_, 0, n, _, _, _, H2, rfl, IsRange.new _ _ _ _ _ _ _, I2.kept fun b u e => Heap.get?_push_of_some _ e, I2.fpOk (Nat.le_refl _) (I2.hok.fresh (Nat.le_refl _)), q⟩
def iCmb (K : PySem.W.Frag) (ta : TA) : TI := fun σ H R => ta σ H fun vs H1 => ∃ b l xs k, vs = [.ref l, .int k] ∧ SqB K b H1 l xs ∧ xs.length ≤ 7 ∧ 0 ≤ k ∧ k < 1000000 ∧ R (ItR xs (combL k.toNat (List.range xs.length))) H1
theorem pi_cmb {X : Cx} {e e2 : Expr} {ta : TA} {x : Str} {p pos : Pos} {tg : Expr} (hc : X.calm = true) (hg : Gl X x) (hm : X.mg x = some (.type "itertools.combinations")) (ha : PA X [e, e2] ta) (hdb : (x == ("__debug__" : Str)) = false := by decide)
    (hs : starEach [e, e2] X.env = (false, eval e X.env) :: starEach [e2] X.env := by rfl) (hpl : (backTo pos (starEach [e2] X.env)).any (·.1) = false := by rfl) :
    PI X tg (.Call (.Name x p) [e, e2] [] pos) (iCmb X.K ta) := by
  constructor
  intro pins s σ H R I h
  refine Call_ (ld_glob I hg hm (PyProof.Rows.callWith_type1 (thn (ha.run pos pins s σ H _ I h) fun us s1 ⟨vs, H1, I1, r1, ⟨b, l, xs, k, ex, qx, hl, k0, k1, q⟩⟩ => ?_) hs hpl) hdb)
  subst ex
  obtain ⟨u, us', rfl, ru, r2⟩ : ∃ u us', us = u :: us' ∧ RelV (V.ref l) u ∧ Vals [V.int k] us' := by cases r1 with | cons r rr => exact ⟨_, _, rfl, r, rr⟩
  obtain ⟨v, rfl, rv⟩ := vals_one r2
  cases ru
  obtain ⟨t, rfl⟩ := rv
  obtain ⟨is, w1, hu⟩ := sqB_get I1 qx
  have wl : is.length ≤ 7 := by rw [← w1.length]; exact hl
  refine call_cmb (P := fun z => z = is) (I1.ok.hd hc) k0 k1 (fun its e => by rw [e]; exact wl) (col_seq hu (by rw [sizeLine_eq]; omega)) fun h' tk its hk e h'' hk2 st => ?_
  subst e
  exact pie_cmb I1 w1 wl hk hk2 st q
def iCmbR (ta : L2.St → Hp → (Int → Int → Hp → Prop) → Prop) (tb : TE) : TI := fun σ H R => ta σ H fun a b H1 => tb σ H1 fun y H2 => ∃ k, y = .int k ∧ RgOk a b ∧ (b - a).toNat ≤ 7 ∧ 0 ≤ k ∧ k < 1000000 ∧ R (ItR (rgV a b) (combL k.toNat (List.range (rgV a b).length))) H2
theorem pi_cmbR {X : Cx} {e e2 : Expr} {ta : L2.St → Hp → (Int → Int → Hp → Prop) → Prop} {tb : TE} {x : Str} {p pos : Pos} {tg : Expr} (hc : X.calm = true) (hg : Gl X x) (hm : X.mg x = some (.type "itertools.combinations")) (ha : PRgF X e ta) (hb : PE X e2 tb) (hdb : (x == ("__debug__" : Str)) = false := by decide)
    (hs : starEach [e, e2] X.env = (false, eval e X.env) :: starEach [e2] X.env := by rfl) (hs2 : starEach [e2] X.env = (false, eval e2 X.env) :: starEach [] X.env := by rfl) (hpl : (backTo pos (starEach [e2] X.env)).any (·.1) = false := by rfl) :
    PI X tg (.Call (.Name x p) [e, e2] [] pos) (iCmbR ta tb) := by
  constructor
  intro pins s σ H R I h
  refine Call_ (ld_glob I hg hm (PyProof.Rows.callWith_type1 (args_cons (thn (ha pins s σ H _ I h) fun x1 s1 ⟨r, a, b, t, u, v, H1, ex, hr, I1, fp, q1⟩ => one_arg hb (pins := (r, { cls := .type "range", dict := none, data := .fields #[.int a t, .int b u, .int 1 v], slots := #[] }) :: pins) (I1.pins_of fun pp hp => ?_) q1 (fun y s2 yv H2 I2 ry qy => ?_) hs2) hs) hs hpl) hdb)
  · rcases List.mem_cons.mp hp with z | z
    · subst z
      exact ⟨hr, fp.1, fp.2.1, fp.2.2.1, fun v z => nomatch z⟩
    · exact I1.pin pp (List.mem_append_right _ z)
  · subst ex
    obtain ⟨k, rfl, ok, hl, k0, k1, q⟩ := qy
    obtain ⟨t', rfl⟩ := ry
    have hr2 : IsRange s2.heap r a b 1 t u v := (I2.pin _ (List.mem_append_right _ (List.mem_cons_self ..))).1
    have I3 : Inv X pins σ H2 s2 := I2.pins_of fun pp hp => I2.pin pp (List.mem_append_right _ (List.mem_cons_of_mem _ hp))
    refine call_cmb (P := fun z => Vals (rgV a b) z) (I3.ok.hd hc) k0 k1 (fun its e => by rw [← e.length, rgV_length]; exact hl) (col_range hr2 ok) fun h' tk its hk e h'' hk2 st => ?_
    exact pie_cmb I3 e (by rw [← e.length, rgV_length]; exact hl) hk hk2 st q
def iPrmR (ta : L2.St → Hp → (Int → Int → Hp → Prop) → Prop) : TI := fun σ H R => ta σ H fun a b H1 => RgOk a b ∧ (b - a).toNat ≤ 6 ∧ R (ItR (rgV a b) (permL (rgV a b).length (List.range (rgV a b).length))) H1
theorem pi_prmR {X : Cx} {e : Expr} {ta : L2.St → Hp → (Int → Int → Hp → Prop) → Prop} {x : Str} {p pos : Pos} {tg : Expr} (hc : X.calm = true) (hg : Gl X x) (hm : X.mg x = some (.type "itertools.permutations")) (ha : PRgF X e ta) (hdb : (x == ("__debug__" : Str)) = false := by decide)
    (hs : starEach [e] X.env = (false, eval e X.env) :: starEach [] X.env := by rfl) :
    PI X tg (.Call (.Name x p) [e] [] pos) (iPrmR ta) := by
  constructor
  intro pins s σ H R I h
  obtain ⟨f, hf⟩ := rit_prm
  refine Call_ (ld_glob I hg hm (PyProof.Rows.callWith_type1 (args_cons (thn (ha pins s σ H _ I h) fun x1 s1 ⟨r, a, b, t, u, v, H1, ex, hr, I1, fp, ok, hl, q⟩ => args_nil ?_) hs) hs rfl) hdb)
  subst ex
  refine call_prm (P := fun z => Vals (rgV a b) z) f (I1.ok.hd hc) (fun its e => by rw [← e.length, rgV_length]; exact hl) (col_range hr ok) fun h' tk its hk e h'' hk2 st => ?_
  exact pie_prm I1 hf e (by rw [← e.length, rgV_length]; exact hl) hk hk2 st q
def iPrm (K : PySem.W.Frag) (te : TE) : TI := fun σ H R => te σ H fun v H1 => ∃ b l xs, v = .ref l ∧ SqB K b H1 l xs ∧ xs.length ≤ 6 ∧ R (ItR xs (permL xs.length (List.range xs.length))) H1
theorem pi_prm {X : Cx} {e : Expr} {te : TE} {x : Str} {p pos : Pos} {tg : Expr} (hc : X.calm = true) (hg : Gl X x) (hm : X.mg x = some (.type "itertools.permutations")) (ha : PE X e te) (hdb : (x == ("__debug__" : Str)) = false := by decide)
    (hs : starEach [e] X.env = (false, eval e X.env) :: starEach [] X.env := by rfl) :
    PI X tg (.Call (.Name x p) [e] [] pos) (iPrm X.K te) := by
  constructor
  intro pins s σ H R I h
  obtain ⟨f, hf⟩ := rit_prm
  refine Call_ (ld_glob I hg hm (PyProof.Rows.callWith_type1 (args_cons (thn (ha.run pins s σ H _ I h) fun u s1 ⟨v, H1, I1, r1, ⟨b, l, xs, ex, qx, hl, q⟩⟩ => args_nil ?_) hs) hs rfl) hdb)
  subst ex
  obtain rfl : u = .ref l := r1
  obtain ⟨is, w1, hu⟩ := sqB_get I1 qx
  have wl : is.length ≤ 6 := by rw [← w1.length]; exact hl
  refine call_prm (P := fun z => z = is) f (I1.ok.hd hc) (fun its e => by rw [e]; exact wl) (col_seq hu (by rw [sizeLine_eq]; omega)) fun h' tk its hk e h'' hk2 st => ?_
  subst e
  exact pie_prm I1 hf w1 wl hk hk2 st q
/-! ### what the rows are -/
def rowsD (ds : List D) (rows : List (List Nat)) : List D := rows.map fun row => .tuple (row.map fun i => ds.getD i .none)
def cmbD : List D → Option (List D)
  | [d, .int k] => (itemsD d).bind fun ds => if ds.length ≤ 7 ∧ 0 ≤ k ∧ k < 1000000 then some (rowsD ds (combL k.toNat (List.range ds.length))) else none
  | _ => none
def cmbRD : D → D → Option (List D)
  | .int n, .int k => if (-(2 ^ 62) ≤ n ∧ n ≤ 7) ∧ 0 ≤ k ∧ k < 1000000 then some (rowsD (rgD 0 n.toNat) (combL k.toNat (List.range n.toNat))) else none
  | _, _ => none
def prmD (d : D) : Option (List D) := (itemsD d).bind fun ds => if ds.length ≤ 6 then some (rowsD ds (permL ds.length (List.range ds.length))) else none
def prmRD : D → Option (List D)
  | .int n => if -(2 ^ 62) ≤ n ∧ n ≤ 6 then some (rowsD (rgD 0 n.toNat) (permL n.toNat (List.range n.toNat))) else none
  | _ => none
def fI2 (g : D → D → Option (List D)) (f1 f2 : Rho → Option D) : Rho → Option (List D) := fun ρ => (f1 ρ).bind fun a => (f2 ρ).bind fun b => g a b
def fI1 (g : D → Option (List D)) (f : Rho → Option D) : Rho → Option (List D) := fun ρ => (f ρ).bind g
section
variable {K : PySem.W.Frag} {m m1 m2 : Md}
theorem res_sqB {H0 F H : Hp} {v : V} {d : D} {ds : List D} (r : Res K m H0 F H v d) (hd : itemsD d = some ds) (fh : Same F H) : ∃ b a xs, v = .ref a ∧ SqB K b H a xs ∧ RepA K F xs ds := by
  cases d with
  | list es =>
    cases hd
    obtain ⟨a, xs, rfl, hs, hr⟩ := r.list fh
    exact ⟨true, a, xs, rfl, hs, hr⟩
  | tuple es =>
    cases hd
    obtain ⟨a, xs, rfl, hs, hr⟩ := r.tup fh
    exact ⟨false, a, xs, rfl, hs.sq, hr⟩
  | _ => cases hd
theorem comb_lt {k n : Nat} : ∀ row ∈ combL k (List.range n), ∀ i ∈ row, i < n := fun row h i hi => List.mem_range.mp ((combL_mem h).2 i hi)
theorem perm_lt {k n : Nat} : ∀ row ∈ permL k (List.range n), ∀ i ∈ row, i < n := fun row h i hi => List.mem_range.mp ((permL_mem h).2 i hi)
theorem sem_cmb {ta : TA} {fs : Rho → Option (List D)} (h : SemA K m ta fs) : SemI false K .fz (iCmb K ta) (fIs cmbD fs) := by
  intro B F H σ ρ ds R rel hf q
  obtain ⟨as, h1, h2⟩ := bind_some hf
  refine h B F H σ ρ as _ rel h1 fun vs F1 H1 x1 r1 => ?_
  match as, h2, r1 with
  | [d, .int k], h2, r1 =>
    obtain ⟨ds1, h3, h4⟩ := bind_some (show (itemsD d).bind (fun ds => if ds.length ≤ 7 ∧ 0 ≤ k ∧ k < 1000000 then some (rowsD ds (combL k.toNat (List.range ds.length))) else none) = some ds from h2)
    obtain ⟨h5, rfl⟩ := if_some h4
    obtain ⟨v, w, rfl, rv, rw'⟩ := resA2 r1
    obtain ⟨b, a, xs, rfl, hs, hr⟩ := res_sqB rv h3 x1.s
    rw [rw'.int]
    refine ⟨b, a, xs, k, rfl, hs, by rw [hr.length]; exact h5.1, h5.2.1, h5.2.2, q _ F1 H1 x1 ?_⟩
    rw [hr.length]
    exact itR_ok comb_lt hr
theorem sem_cmbR {ta tb : TE} {f g : Rho → Option D} (h : SemE K m1 ta f) (h' : SemE K m2 tb g) : SemI false K .fz (iCmbR (tRg1 ta) tb) (fI2 cmbRD f g) := by
  intro B F H σ ρ ds R rel hf q
  obtain ⟨d, h1, h2⟩ := bind_some hf
  obtain ⟨e, h3, h4⟩ := bind_some h2
  refine h B F H σ ρ d _ rel h1 fun v F1 H1 x1 r1 => ?_
  match d, e, h4, h3, r1 with
  | .int n, .int k, h4, h3, r1 =>
    refine ⟨n, r1.int, h' B F1 H1 σ ρ (.int k) _ (rel.ext x1) h3 fun w F2 H2 x2 r2 => ?_⟩
    obtain ⟨h5, rfl⟩ := if_some (show (if (-(2 ^ 62) ≤ n ∧ n ≤ 7) ∧ 0 ≤ k ∧ k < 1000000 then some (rowsD (rgD 0 n.toNat) (combL k.toNat (List.range n.toNat))) else none) = some ds from h4)
    refine ⟨k, r2.int, ⟨by omega, by omega, by omega, by omega, by omega⟩, by omega, h5.2.1, h5.2.2, q _ F2 H2 (x1.trans x2) ?_⟩
    have ra : RepA K F2 (rgV 0 n) (rgD 0 n.toNat) := by have := repA_rg (K := K) (F := F2) 0 n; rwa [Int.sub_zero] at this
    rw [ra.length, rgD_length]
    exact itR_ok (fun row hr i hi => by rw [rgD_length]; exact comb_lt row hr i hi) ra
theorem sem_prmR {ta : TE} {f : Rho → Option D} (h : SemE K m1 ta f) : SemI false K .fz (iPrmR (tRg1 ta)) (fI1 prmRD f) := by
  intro B F H σ ρ ds R rel hf q
  obtain ⟨d, h1, h2⟩ := bind_some hf
  refine h B F H σ ρ d _ rel h1 fun v F1 H1 x1 r1 => ?_
  match d, h2, r1 with
  | .int n, h4, r1 =>
    obtain ⟨h5, rfl⟩ := if_some (show (if -(2 ^ 62) ≤ n ∧ n ≤ 6 then some (rowsD (rgD 0 n.toNat) (permL n.toNat (List.range n.toNat))) else none) = some ds from h4)
    refine ⟨n, r1.int, ⟨by omega, by omega, by omega, by omega, by omega⟩, by omega, q _ F1 H1 x1 ?_⟩
    have ra : RepA K F1 (rgV 0 n) (rgD 0 n.toNat) := by have := repA_rg (K := K) (F := F1) 0 n; rwa [Int.sub_zero] at this
    rw [ra.length, rgD_length]
    exact itR_ok (fun row hr i hi => by rw [rgD_length]; exact perm_lt row hr i hi) ra
theorem sem_prm {te : TE} {f : Rho → Option D} (h : SemE K m1 te f) : SemI false K .fz (iPrm K te) (fI1 prmD f) := by
  intro B F H σ ρ ds R rel hf q
  obtain ⟨d, h1, h2⟩ := bind_some hf
  refine h B F H σ ρ d _ rel h1 fun v F1 H1 x1 r1 => ?_
  obtain ⟨ds1, h3, h4⟩ := bind_some h2
  obtain ⟨h5, rfl⟩ := if_some h4
  obtain ⟨b, a, xs, rfl, hs, hr⟩ := res_sqB r1 h3 x1.s
  refine ⟨b, a, xs, rfl, hs, by rw [hr.length]; exact h5, q _ F1 H1 x1 ?_⟩
  rw [hr.length]
  exact itR_ok perm_lt hr
end
section
variable {X : Cx} {m m1 m2 : Md} {e e2 : Expr} {ta : TA} {te tb : TE} {f g : Rho → Option D} {fs : Rho → Option (List D)} {x : Str} {p p2 pos pos2 : Pos} {tg : Expr}
theorem di_cmb (K' : PySem.W.Frag) (hg : Gl X x) (hm : X.mg x = some (.type "itertools.combinations")) (ha : DA X m [e, e2] ta fs) (hc : X.calm = true := by rfl) (hdb : (x == ("__debug__" : Str)) = false := by decide)
    (hs : starEach [e, e2] X.env = (false, eval e X.env) :: starEach [e2] X.env := by rfl) (hpl : (backTo pos (starEach [e2] X.env)).any (·.1) = false := by rfl) (hK : X.K = K' := by rfl) :
    DI false X .fz tg (.Call (.Name x p) [e, e2] [] pos) (iCmb K' ta) (fIs cmbD fs) := by
  subst hK
  exact ⟨pi_cmb hc hg hm ha.p hdb hs hpl, sem_cmb ha.s⟩
theorem di_cmbR (hg : Gl X x) (hm : X.mg x = some (.type "itertools.combinations")) (hg2 : Gl X "range") (hm2 : X.mg "range" = none) (ha : DE X m1 e te f) (hb : DE X m2 e2 tb g) (hc : X.calm = true := by rfl) (hdb : (x == ("__debug__" : Str)) = false := by decide)
    (hs : starEach [.Call (.Name "range" p2) [e] [] pos2, e2] X.env = (false, eval (.Call (.Name "range" p2) [e] [] pos2) X.env) :: starEach [e2] X.env := by rfl) (hs2 : starEach [e2] X.env = (false, eval e2 X.env) :: starEach [] X.env := by rfl) (hpl : (backTo pos (starEach [e2] X.env)).any (·.1) = false := by rfl)
    (na : starEach [e] X.env = (false, eval e X.env) :: starEach [] X.env := by rfl) :
    DI false X .fz tg (.Call (.Name x p) [.Call (.Name "range" p2) [e] [] pos2, e2] [] pos) (iCmbR (tRg1 te) tb) (fI2 cmbRD f g) :=
  ⟨pi_cmbR hc hg hm (prgF_1 hg2 hm2 ha.p na) hb.p hdb hs hs2 hpl, sem_cmbR ha.s hb.s⟩
theorem di_prmR (hg : Gl X x) (hm : X.mg x = some (.type "itertools.permutations")) (hg2 : Gl X "range") (hm2 : X.mg "range" = none) (ha : DE X m1 e te f) (hc : X.calm = true := by rfl) (hdb : (x == ("__debug__" : Str)) = false := by decide)
    (hs : starEach [.Call (.Name "range" p2) [e] [] pos2] X.env = (false, eval (.Call (.Name "range" p2) [e] [] pos2) X.env) :: starEach [] X.env := by rfl)
    (na : starEach [e] X.env = (false, eval e X.env) :: starEach [] X.env := by rfl) :
    DI false X .fz tg (.Call (.Name x p) [.Call (.Name "range" p2) [e] [] pos2] [] pos) (iPrmR (tRg1 te)) (fI1 prmRD f) :=
  ⟨pi_prmR hc hg hm (prgF_1 hg2 hm2 ha.p na) hdb hs, sem_prmR ha.s⟩
theorem di_prm (K' : PySem.W.Frag) (hg : Gl X x) (hm : X.mg x = some (.type "itertools.permutations")) (ha : DE X m1 e te f) (hc : X.calm = true := by rfl) (hdb : (x == ("__debug__" : Str)) = false := by decide)
    (hs : starEach [e] X.env = (false, eval e X.env) :: starEach [] X.env := by rfl) (hK : X.K = K' := by rfl) :
    DI false X .fz tg (.Call (.Name x p) [e] [] pos) (iPrm K' te) (fI1 prmD f) := by
  subst hK
  exact ⟨pi_prm hc hg hm ha.p hdb hs, sem_prm ha.s⟩
end
end Q
end

/-! part: Q36 -/
section
set_option Elab.async false
set_option linter.all false
set_option maxRecDepth 100000
set_option maxHeartbeats 4000000
set_option autoImplicit false
namespace Q
open PySem PySem.Spec PySem.Calls PyProof.Rows L2
/-! ### sorted(set(x)), x a list of pairs of small ints -/
def mkP (p : Int × Int) : D := .tuple [.int p.1, .int p.2]
def ltP (p q : Int × Int) : Bool := if p.1 = q.1 then decide (p.2 < q.2) else decide (p.1 < q.1)
theorem nice_P : Nice 1 mkP := nice_pair nice_int nice_int
theorem ordd_P : Ordd mkP ltP := ordd_pair nice_int nice_int ordd_int ordd_int fun a => by simp
def pairOf : D → Option (Int × Int)
  | .tuple [.int a, .int b] => some (a, b)
  | _ => none
theorem pairOf_eq {d : D} {p : Int × Int} (h : pairOf d = some p) : d = mkP p := by
  unfold pairOf at h
  split at h
  · cases h; rfl
  · cases h
def pairsOf : List D → Option (List (Int × Int))
  | [] => some []
  | d :: ds => (pairOf d).bind fun p => (pairsOf ds).bind fun ps => some (p :: ps)
theorem pairsOf_eq : ∀ {ds : List D} {ps : List (Int × Int)}, pairsOf ds = some ps → ds = ps.map mkP
  | [], ps, h => by cases h; rfl
  | d :: ds, ps, h => by
    obtain ⟨p, h1, h2⟩ := bind_some h
    obtain ⟨qs, h3, h4⟩ := bind_some h2
    cases h4
    rw [pairOf_eq h1, pairsOf_eq h3]
    rfl
@[simp] theorem pairsOf_mk : ∀ ps : List (Int × Int), pairsOf (ps.map mkP) = some ps
  | [] => rfl
  | p :: ps => by
    show ((pairOf (mkP p)).bind fun p => (pairsOf (ps.map mkP)).bind fun ps => some (p :: ps)) = _
    rw [pairsOf_mk ps]
    rfl
/-- each once -/
def ddP : List (Int × Int) → List (Int × Int)
  | [] => []
  | p :: ps => if p ∈ ddP ps then ddP ps else p :: ddP ps
theorem ddP_mem {p : Int × Int} : ∀ {ps : List (Int × Int)}, p ∈ ddP ps ↔ p ∈ ps
  | [] => Iff.rfl
  | q :: ps => by
    unfold ddP
    by_cases h : q ∈ ddP ps
    · rw [if_pos h, ddP_mem, List.mem_cons]
      exact ⟨.inr, fun z => z.elim (fun e => by rw [e]; exact ddP_mem.mp h) id⟩
    · rw [if_neg h, List.mem_cons, List.mem_cons, ddP_mem]
theorem ddP_nodup : ∀ ps : List (Int × Int), (ddP ps).Nodup
  | [] => List.nodup_nil
  | q :: ps => by
    unfold ddP
    by_cases h : q ∈ ddP ps
    · rw [if_pos h]; exact ddP_nodup ps
    · rw [if_neg h]; exact List.nodup_cons.mpr ⟨h, ddP_nodup ps⟩
def ssP (ps : List (Int × Int)) : List (Int × Int) := (ddP ps).mergeSort fun a b => !ltP b a
theorem ltP_irr (a : Int × Int) : ltP a a = false := by simp [ltP]
theorem ltP_tot {a b : Int × Int} (h1 : ltP a b = false) (h2 : ltP b a = false) : a = b := by
  obtain ⟨x, y⟩ := a
  obtain ⟨z, w⟩ := b
  simp only [ltP] at h1 h2
  by_cases e : x = z
  · rw [if_pos e] at h1
    rw [if_pos e.symm] at h2
    simp only [decide_eq_false_iff_not] at h1 h2
    rw [e, show y = w by omega]
  · rw [if_neg e] at h1
    rw [if_neg (Ne.symm e)] at h2
    simp only [decide_eq_false_iff_not] at h1 h2
    omega
theorem ltP_trans {a b c : Int × Int} (h1 : ltP b a = false) (h2 : ltP c b = false) : ltP c a = false := by
  obtain ⟨x, y⟩ := a
  obtain ⟨z, w⟩ := b
  obtain ⟨u, v⟩ := c
  simp only [ltP] at *
  split at h1 <;> split at h2 <;> split <;> simp only [decide_eq_false_iff_not] at * <;> omega
theorem ltP_asym {a b : Int × Int} (h : ltP a b = true) : ltP b a = false := by
  obtain ⟨x, y⟩ := a
  obtain ⟨z, w⟩ := b
  simp only [ltP] at *
  split at h <;> split <;> simp only [decide_eq_false_iff_not, decide_eq_true_eq] at * <;> omega
theorem sort_P (l : List (Int × Int)) : (l.mergeSort fun a b => !ltP b a).Pairwise fun a b => ltP b a = false := by
  have h := List.pairwise_mergeSort (le := fun a b => !ltP b a) (fun a b c h1 h2 => by simp only [Bool.not_eq_true'] at *; exact ltP_trans h1 h2) (fun a b => by
    cases h : ltP b a with
    | false => rfl
    | true => simp [ltP_asym h]) l
  exact h.imp fun h => by simpa using h
/-- sorted, the same members, each once: the same list -/
theorem eq_ssP {l ps : List (Int × Int)} (nd : l.Nodup) (hm : ∀ p, p ∈ l ↔ p ∈ ps) (hs : l.Pairwise fun a b => ltP b a = false) : l = ssP ps := by
  have p1 : l.Perm (ddP ps) := (List.perm_ext_iff_of_nodup nd (ddP_nodup ps)).mpr fun p => (hm p).trans ddP_mem.symm
  have p2 : l.Perm (ssP ps) := p1.trans (List.mergeSort_perm _ _).symm
  exact p2.eq_of_pairwise (fun a b _ _ h1 h2 => ltP_tot h2 h1) hs (sort_P _)
theorem sort_ssP {l ps : List (Int × Int)} (nd : l.Nodup) (hm : ∀ p, p ∈ l ↔ p ∈ ps) : (l.mergeSort fun a b => !ltP b a) = ssP ps :=
  eq_ssP (((List.mergeSort_perm _ _).nodup_iff).mpr nd) (fun p => ((List.mergeSort_perm _ _).mem_iff).trans (hm p)) (sort_P l)
theorem ssP_mem {p : Int × Int} {ps : List (Int × Int)} : p ∈ ssP ps ↔ p ∈ ps := ((List.mergeSort_perm _ _).mem_iff).trans ddP_mem
def srtSetD : D → Option D
  | .list ds => (pairsOf ds).bind fun ps => if ps.length < 64 ∧ ∀ p ∈ ps, (0 ≤ p.1 ∧ p.1 < 64) ∧ 0 ≤ p.2 ∧ p.2 < 64 then some (.list ((ssP ps).map mkP)) else none
  | _ => none
theorem srtSet_mk {ps : List (Int × Int)} (h1 : ps.length < 64) (h2 : ∀ p ∈ ps, (0 ≤ p.1 ∧ p.1 < 64) ∧ 0 ≤ p.2 ∧ p.2 < 64) : srtSetD (.list (ps.map mkP)) = some (.list ((ssP ps).map mkP)) := by
  show ((pairsOf (ps.map mkP)).bind fun ps => if ps.length < 64 ∧ ∀ p ∈ ps, (0 ≤ p.1 ∧ p.1 < 64) ∧ 0 ≤ p.2 ∧ p.2 < 64 then some (PyData.list ((ssP ps).map mkP)) else none) = _
  rw [pairsOf_mk, Option.bind_some, if_pos ⟨h1, h2⟩]
theorem bd2 {a b : Int} (h : (0 ≤ a ∧ a < 64) ∧ 0 ≤ b ∧ b < 64) : TS.Bd 64 [a, b] := fun m hm => by
  simp only [List.mem_cons, List.not_mem_nil, or_false] at hm
  rcases hm with rfl | rfl
  · exact h.1
  · exact h.2
theorem code_lt {a b : Int × Int} (ha : (0 ≤ a.1 ∧ a.1 < 64) ∧ 0 ≤ a.2 ∧ a.2 < 64) (hb : (0 ≤ b.1 ∧ b.1 < 64) ∧ 0 ≤ b.2 ∧ b.2 < 64) (h : TS.code 64 [a.1, a.2] ≤ TS.code 64 [b.1, b.2]) : ltP b a = false := by
  rw [code_pair, code_pair] at h
  simp only [ltP]
  split <;> simp only [decide_eq_false_iff_not] <;> omega
/-- the pairs of a list at their addresses -/
theorem ads_of {K : PySem.W.Frag} {F : Hp} : ∀ {xs : List V} {ps : List (Int × Int)}, RepA K F xs (ps.map mkP) → ∃ ks : List (Addr × List Int), xs = ks.map (fun p => V.ref p.1) ∧ ks.map (·.2) = ps.map (fun p => [p.1, p.2]) ∧ ∀ q ∈ ks, ∃ p ∈ ps, q.2 = [p.1, p.2] ∧ Rep K F (V.ref q.1) (mkP p) ∧ ∃ xs, TupAt K F q.1 xs ∧ xs = q.2.map V.int
  | xs, [], r => by
    cases r
    exact ⟨[], rfl, rfl, fun _ z => nomatch z⟩
  | xs, p :: ps, r => by
    cases r with
    | @cons x xs _ _ h1 h2 =>
      obtain ⟨ks, e1, e2, e3⟩ := ads_of h2
      have h1' : Rep K F x (mkP p) := h1
      have h1'' := h1
      cases h1'' with
      | @tup a ys _ ht hr =>
        have ey : ys = [V.int p.1, V.int p.2] := by
          cases hr with
          | cons g1 g2 =>
            cases g2 with
            | cons g3 g4 =>
              cases g4
              cases g1
              cases g3
              rfl
        refine ⟨(a, [p.1, p.2]) :: ks, by rw [e1]; rfl, by simp [e2], fun q hq => ?_⟩
        rcases List.mem_cons.mp hq with z | z
        · rw [z]
          exact ⟨p, List.mem_cons_self .., rfl, h1', ys, ht, ey⟩
        · obtain ⟨p', m, rest⟩ := e3 q z
          exact ⟨p', List.mem_cons_of_mem _ m, rest⟩
def tSrtSet (K : PySem.W.Frag) (P : Program) (w : World) (te : TE) : TE := tCB (rSortedT K P w) (tCons (tCB (rSetOfT K P w) (tCons te tNil)) tNil)
theorem sem_srtSet {K : PySem.W.Frag} {P : Program} {w : World} {m : Md} {te : TE} {f : Rho → Option D} (h : SemE K m te f) : SemE K .fr (tSrtSet K P w te) (f1 srtSetD f) := by
  intro B F H σ ρ z Q rel hf q
  obtain ⟨d, h1, h2⟩ := bind_some hf
  refine h B F H σ ρ d _ rel h1 fun v F1 H1 x1 r1 => ?_
  cases d with
  | list ds =>
    obtain ⟨ps, h3, h4⟩ := bind_some (show (pairsOf ds).bind (fun ps => if ps.length < 64 ∧ ∀ p ∈ ps, (0 ≤ p.1 ∧ p.1 < 64) ∧ 0 ≤ p.2 ∧ p.2 < 64 then some (PyData.list ((ssP ps).map mkP)) else none) = some z from h2)
    obtain ⟨⟨h5, h6⟩, rfl⟩ := if_some h4
    have e := pairsOf_eq h3
    subst e
    obtain ⟨a, xs, rfl, hs, hr⟩ := r1.list x1.s
    obtain ⟨ks, e1, e2, e3⟩ := ads_of hr
    subst e1
    have lk : ks.length = ps.length := by
      have := congrArg List.length e2
      simpa using this
    refine ⟨a, ks, rfl, hs, fun p hp => ?_, by omega, fun A L hA hL hL2 => ?_⟩
    · obtain ⟨p', _, _, _, xs, t1, t2⟩ := e3 p hp
      rw [← t2]
      exact (t1.mono x1.s).sq
    have x2 : Ext F H F1 (upd H1 A (SetTO P w A L)) := ext_own x1 hA
    have up : ∀ b u, F1 b = some u → upd H1 A (SetTO P w A L) b = some u := fun b u z => x2.s b u z
    refine ⟨A, L, 2, 64, rfl, upd_same, fun p hp => ?_, by decide, fun p hp => ?_, fun L' p pm nd _ pw hp => ?_⟩
    · obtain ⟨p', _, _, _, xs, t1, t2⟩ := e3 p (hL p hp)
      rw [← t2]
      exact (t1.mono x2.s).sq
    · obtain ⟨p', m', t1, _⟩ := e3 p (hL p hp)
      rw [t1]
      exact ⟨rfl, bd2 (h6 p' m')⟩
    have hk : ∀ q ∈ L', ∃ p ∈ ps, q.2 = [p.1, p.2] ∧ Rep K F1 (V.ref q.1) (mkP p) := fun q hq => by
      obtain ⟨p', m', t1, t2, _⟩ := e3 q (hL q (pm.mem_iff.mp hq))
      exact ⟨p', m', t1, t2⟩
    have build : ∀ l : List (Addr × List Int), (∀ q ∈ l, ∃ p ∈ ps, q.2 = [p.1, p.2] ∧ Rep K F1 (V.ref q.1) (mkP p)) → ∃ ms : List (Int × Int), l.map (·.2) = ms.map (fun p => [p.1, p.2]) ∧ RepA K F1 (l.map fun q => V.ref q.1) (ms.map mkP) ∧ ∀ m ∈ ms, m ∈ ps := by
      intro l
      induction l with
      | nil => intro _; exact ⟨[], rfl, .nil, fun _ z => nomatch z⟩
      | cons q l ih =>
        intro hl
        obtain ⟨ms, a1, a2, a3⟩ := ih fun x hx => hl x (List.mem_cons_of_mem _ hx)
        obtain ⟨p', m', t1, t2⟩ := hl q (List.mem_cons_self ..)
        refine ⟨p' :: ms, by rw [List.map_cons, List.map_cons, a1, t1], .cons t2 a2, fun m hm => ?_⟩
        rcases List.mem_cons.mp hm with z | z
        · rw [z]; exact m'
        · exact a3 m z
    obtain ⟨ms, b1, b2, b3⟩ := build L' hk
    have inj : ∀ p q : Int × Int, [p.1, p.2] = [q.1, q.2] → p = q := fun p q z => by
      simp only [List.cons.injEq, and_true] at z
      exact Prod.ext z.1 z.2
    have nd2 : ms.Nodup := by
      have n1 : (ms.map fun p => [p.1, p.2]).Nodup := by rw [← b1]; exact nd
      exact List.Pairwise.of_map _ (fun p q hne e => hne (by rw [e])) n1
    have pw2 : (L'.map (·.2)).Pairwise fun x y => TS.code 64 x ≤ TS.code 64 y := List.pairwise_map.mpr pw
    rw [b1] at pw2
    have pw3 := List.pairwise_map.mp pw2
    have es : ms = ssP ps := by
      refine eq_ssP nd2 (fun p => ⟨b3 p, fun hp => ?_⟩) (pw3.imp_of_mem fun {x y} hx hy hc => code_lt (h6 x (b3 x hx)) (h6 y (b3 y hy)) hc)
      have hpk : [p.1, p.2] ∈ ks.map (·.2) := by rw [e2]; exact List.mem_map_of_mem hp
      obtain ⟨k, k1, k2⟩ := List.mem_map.mp hpk
      have := hL2 k k1
      rw [k2] at this
      have h7 : [p.1, p.2] ∈ L'.map (·.2) := (pm.map (·.2)).mem_iff.mpr this
      rw [b1] at h7
      obtain ⟨p2, m2, e7⟩ := List.mem_map.mp h7
      rw [← inj p2 p e7]
      exact m2
    rw [es] at b2
    exact newL_res x2 b2 q p hp
  | _ => cases h2
theorem de_srtSet {X : Cx} {m : Md} {a : Expr} {te : TE} {f : Rho → Option D} {p p2 qp pos : Pos} (hg : Gl X "sorted") (hm : X.mg "sorted" = none) (hg2 : Gl X "set") (hm2 : X.mg "set" = none) (hu : X.A.units + 64 < cLine) (ha : DE X m a te f) (hc : X.calm = true := by rfl)
    (na : starEach [.Call (.Name "set" p2) [a] [] qp] X.env = (false, eval (.Call (.Name "set" p2) [a] [] qp) X.env) :: starEach [] X.env := by rfl) (na2 : starEach [a] X.env = (false, eval a X.env) :: starEach [] X.env := by rfl) :
    DE X .fr (.Call (.Name "sorted" p) [.Call (.Name "set" p2) [a] [] qp] [] pos) (tSrtSet X.K X.prog X.w te) (f1 srtSetD f) :=
  ⟨pe_callB (cr_sortedT hc) hg hm bt_sorted (pa_cons (pe_callTy (cr_setOfT hc hu) hg2 hm2 PyProof.Rows.boot_set (pa_cons ha.p pa_nil na2) (by decide) (by decide) na2 rfl) pa_nil na) (by decide) (by decide) na rfl, sem_srtSet ha.s⟩
end Q
end

/-! part: Q37 -/
section
set_option Elab.async false
set_option linter.all false
set_option maxRecDepth 100000
set_option maxHeartbeats 4000000
set_option autoImplicit false
namespace PySem
open PySem.Spec
theorem list_extend_any (l : Addr) (items : Array Value) (n : Nat) (b : Addr) (items2 : Array Value) (T : String) (hT : T = "list" ∨ T = "tuple") (hs0 : ¬(!items.isEmpty && Builtin.List.listTooLong (items.size + items2.size)) = true) (hs1 : items.size ≤ sizeLine) (hs2 : items.size + items2.size ≤ sizeLine) :
    Meets (Builtin.«list.extend» ⟨[.ref l, .ref b], []⟩) (fun _ R s => s.heap.get? l = some { cls := .type "list", dict := none, data := .seq items n, slots := #[] } ∧ (∃ o n2, s.heap.get? b = some o ∧ o.cls = .type T ∧ o.data = .seq items2 n2) ∧ R (.ok (.ret Value.none)) { s with heap := s.heap.update l (Obj.mapSeq fun x => x ++ items2), toks := s.toks }) :=
  .of_wp fun prog w A R s h => by
    obtain ⟨hp, g, d, tk, os⟩ := s
    obtain ⟨hl, ⟨o, n2, ho, hc, hd⟩, h⟩ := h
    have hz' : (items ++ items2).size ≤ sizeLine + 1 := by rw [Array.size_append]; omega
    show wpAny _ _ (Builtin.List.listExtendWith (.ref l) (.ref b) .none) _ _ _
    unfold Builtin.List.listExtendWith
    refine wpAny_bind (wpAny_typeOf ⟨o, ho, hc⟩ ?_)
    have h1 : (Builtin.List.listSameRef (.ref l) (.ref b) || Value.type T == Value.type "list" || Value.type T == Value.type "tuple") = true := by
      rcases hT with rfl | rfl <;> simp
    simp only [h1, if_true]
    refine wpAny_bind ?_
    unfold Builtin.List.listItems
    refine wpAny_bind (wpAny_seqItems ho hd (wpAny_pure ?_))
    refine wpAny_bind ?_
    refine wpAny_bind (wpAny_seqItems hl rfl (wpAny_pure ?_))
    refine wpAny_ite_false (decide_eq_false hs0) ?_
    show wpAny _ _ (updateSeq l (· ++ items2) >>= fun _ => ret .none) _ _ _
    refine wpAny_bind (wpAny_updateSeq hl rfl (hz := hs1) (_hz' := hz') ?_)
    exact wpAny_pure ⟨_, rfl, h⟩
end PySem
namespace Q
open PySem PySem.Spec PySem.Calls PyProof.Rows L2
/-! ### xs.extend(x), x any list or tuple -/
def rExtA (K : PySem.W.Frag) : V → List V → Hp → VK → Prop := fun x vs H Q => ∃ l b t xs zs, x = .ref l ∧ vs = [.ref b] ∧ H l = some (.lst xs) ∧ SqB K t H b zs ∧ xs.length + zs.length ≤ sizeLine ∧ Q .non (upd H l (.lst (xs ++ zs)))
theorem mt_extA {X : Cx} : MtM X "list.extend" (rExtA X.K) := by
  intro pins s σ H x vs v us Q I rx rv h
  obtain ⟨l, b, t, xs, zs, rfl, rfl, hH, hB, hz, q⟩ := h
  cases rx
  obtain ⟨u, rfl, ru⟩ := rv.one
  cases ru
  obtain ⟨z, its, n, r, hl, e⟩ := I.lstM hH
  obtain ⟨its2, r2, e2⟩ := sqB_get I hB
  have hl2 := r2.length
  have hsz : its.toArray.size + its2.toArray.size ≤ sizeLine := by rw [List.size_toArray, List.size_toArray]; omega
  have hlong : ¬ (!its.toArray.isEmpty && Builtin.List.listTooLong (its.toArray.size + its2.toArray.size)) = true := by
    rw [notLongL hsz, Bool.and_false]
    exact Bool.false_ne_true
  have go : ∀ T, (T = "list" ∨ T = "tuple") → (∃ o n2, s.heap.get? b = some o ∧ o.cls = .type T ∧ o.data = .seq its2.toArray n2) → wpAny (model X.prog X.w) X.A (call (.builtin "list.extend") [.ref l, .ref b]) (EP X pins σ Q) X.xe s := fun T hT ho => by
    refine call_meets PySem.F.slot_list_extend ⟨_, e, rfl⟩ PySem.F.entry_list_extend (PySem.F.args_list_extend_2 _ _)
      (list_extend_any l its.toArray n b its2.toArray T hT hlong (by rw [List.size_toArray]; omega) hsz) ⟨e, ho, ?_⟩
    refine ⟨.non, _, I.lset (its' := its ++ its2) hH e (by simp) (r.append r2) ?_, rfl, q⟩
    rw [List.length_append]
    omega
  cases t with
  | true =>
    obtain ⟨o, ho, hc, n2, hd⟩ := (show s.heap.IsList b its2.toArray from e2)
    exact go "list" (.inl rfl) ⟨o, n2, ho, hc, hd⟩
  | false =>
    obtain ⟨o, ho, hc, n2, hd⟩ := (show s.heap.IsTuple b its2.toArray from e2)
    exact go "tuple" (.inr rfl) ⟨o, n2, ho, hc, hd⟩
def bExtA (j : Nat) (f : Rho → Option D) : Bd := fun ρ => (f ρ).bind fun d => (itemsD d).bind fun es => (owL ρ[j]?).bind fun ds => if ds.length + es.length ≤ sizeLine then some (.nx (ρ.set j (.ow (.list (ds ++ es))))) else none
section
variable {X : Cx} {m : Md} {e : Expr} {te : TE} {f : Rho → Option D} {j : Nat} {x : Str} {apos p pos : Pos}
theorem extA_some {ρ : Rho} {o : Out} (h : bExtA j f ρ = some o) : ∃ ds d es, ρ[j]? = some (.ow (.list ds)) ∧ f ρ = some d ∧ itemsD d = some es ∧ ds.length + es.length ≤ sizeLine ∧ o = .nx (ρ.set j (.ow (.list (ds ++ es)))) := by
  obtain ⟨d, h1, h2⟩ := bind_some h
  obtain ⟨es, h2', h2''⟩ := bind_some h2
  obtain ⟨ds, h3, h4⟩ := bind_some h2''
  obtain ⟨h5, rfl⟩ := if_some h4
  refine ⟨ds, d, es, ?_, h1, h2', h5, rfl⟩
  revert h3
  cases hq : ρ[j]? with
  | none => intro h3; cases h3
  | some sl =>
    cases sl with
    | ow d =>
      cases d with
      | list l => intro h3; cases h3; rfl
      | _ => intro h3; cases h3
    | _ => intro h3; cases h3
theorem sem_extA {K : PySem.W.Frag} (h : SemE K .fz te f) : SemS K m [] (tDrop (tBM K "list" (rExtA K) (tVar j) (tCons te tNil))) (bExtA j f) := by
  intro B F H σ ρ o D r hb q
  obtain ⟨ds, d, es, e1, e2, e3, hl, rfl⟩ := extA_some hb
  obtain ⟨a, vs, h1, h2, h3, h4, h5⟩ := r.own e1
  refine ⟨_, h1, tyL h4, ?_⟩
  refine h B F H σ ρ _ _ r e2 fun v F1 H1 x1 r1 => ?_
  obtain ⟨t, b, ys, rfl, k3, k4⟩ := res_sqB r1 e3 x1.s
  have h6 := x1.h _ _ h4
  refine ⟨a, b, t, vs, ys, rfl, rfl, h6, k3, by rw [h5.length, k4.length]; exact hl, ?_⟩
  have hF1 : F1 a = none := x1.keepNone h2 (by rw [h4]; exact fun z => nomatch z)
  exact q σ F1 _ ((r.ext x1).write e1 h1 hF1 h3 ⟨vs ++ ys, upd_same, (h5.mono x1.f).append k4⟩) fun _ _ => rfl
theorem ds_extA (K' : PySem.W.Frag) {pn : Pos} (he : DE X .fz e te f) (hN : X.N[j]? = some x := by rfl) (hv : Vis X.env.scope x := by first | exact Or.inl rfl | exact Or.inr (Or.inl rfl) | exact Or.inr (Or.inr rfl)) (hd : (x == ("__debug__" : Str)) = false := by decide) (hcd : (x == ("__classdict__" : Str)) = false := by decide)
    (hbase : attributeBase (.Name x pn) "extend" X.env (eval (.Name x pn) X.env) = eval (.Name x pn) X.env := by rfl)
    (hfew : ((backTo p (starEach [e] X.env)).all (fun x => !x.1) && (backToKw p (keywordEach [] X.env)).all (fun x => x.1.isSome)
      && decide ([e].length + ([] : List Keyword).length + (if ([] : List Keyword).isEmpty then 0 else 1) < 30)) = true := by rfl)
    (hline : (apos.endLine == p.line) = true := by rfl) (hs : starEach [e] X.env = (false, eval e X.env) :: starEach [] X.env := by rfl) (hsw : swapsWith (.Call (.Attribute (.Name x pn) "extend" apos) [e] [] p) none pos.line X.env = pure false := by rfl) (hK : X.K = K' := by rfl) :
    DS X m [] (.Expr (.Call (.Attribute (.Name x pn) "extend" apos) [e] [] p) pos) (tDrop (tBM K' "list" (rExtA K') (tVar j) (tCons te tNil))) (bExtA j f) := by
  subst hK
  exact ⟨ps_expr (pe_bm PySem.F.plainAttrs_list PySem.F.slot_list_extend PySem.F.type_list_extend mt_extA (pe_var hN hv hd hcd) (pa_cons he.p pa_nil hs) hbase hfew hline hs rfl) hsw, sem_extA he.s⟩
@[simp] theorem bExtA_e {ρ : Rho} : bExtA j f ρ = (f ρ).bind fun d => (itemsD d).bind fun es => (owL ρ[j]?).bind fun ds => if ds.length + es.length ≤ sizeLine then some (.nx (ρ.set j (.ow (.list (ds ++ es))))) else none := rfl
end
end Q
end

/-! part: Q38 -/
section
set_option Elab.async false
set_option linter.all false
set_option maxRecDepth 100000
set_option maxHeartbeats 4000000
set_option autoImplicit false
namespace Q
open PySem PySem.Spec PySem.Calls PyProof.Rows L2
/-! ### x[::-1], a tuple -/
section
variable {prog : Program} {w : World} {A : Around} {E : Value → Shared → Prop} {s : Shared}
theorem adjust_rev (n : Nat) : Builtin.Slice.sliceAdjust none none (-1) (n : Int) = ((n : Int) - 1, -1) := by
  unfold Builtin.Slice.sliceAdjust
  have h1 : ((-1 : Int) < 0) := by omega
  simp [h1]
theorem places_rev (n : Nat) : Builtin.Slice.slicePlaces ((n : Int) - 1) (-1) (-1) = n := by
  unfold Builtin.Slice.slicePlaces
  have h1 : ¬ ((-1 : Int) > 0) := by omega
  simp only [h1, if_false]
  have e : (- -1 : Int) = 1 := by decide
  rw [e]
  simp only [Int.ediv_one]
  split <;> omega
theorem sliceApplied_rev {sl : Addr} {n : Nat} {t : Tok} {Q : Int × Int × Nat → Shared → Prop} (hs : s.heap.IsSliceOf sl .none .none (.int (-1) t))
    (h : Q ((n : Int) - 1, -1, n) s) : wpAny (model prog w) A (Builtin.Slice.sliceApplied (.ref sl) (pure (n : Int))) Q E s := by
  obtain ⟨os, hos, hcs, hds⟩ := id hs
  unfold Builtin.Slice.sliceApplied Builtin.Slice.sliceFields
  refine wpAny_bind (wpAny_bind (wpAny_field hos hds (x := .none) rfl (wpAny_bind (wpAny_field hos hds (x := .none) rfl (wpAny_bind (wpAny_field hos hds (x := .int (-1) t) rfl (wpAny_pure ?_)))))))
  refine wpAny_bind (slicePart_int ?_)
  show wpAny _ _ (if ((-1 : Int) == 0) = true then _ else _) _ _ s
  rw [if_neg (by decide)]
  refine wpAny_bind (slicePart_none (wpAny_bind (slicePart_none (wpAny_bind (wpAny_pure ?_)))))
  show wpAny _ _ (match Builtin.Slice.sliceAdjust none none (-1) (n : Int) with | (lo, hi) => pure (lo, (-1 : Int), Builtin.Slice.slicePlaces lo hi (-1))) _ _ s
  rw [adjust_rev n]
  show wpAny _ _ (pure ((n : Int) - 1, (-1 : Int), Builtin.Slice.slicePlaces ((n : Int) - 1) (-1) (-1))) _ _ s
  rw [places_rev]
  exact wpAny_pure h
theorem pick_revT (xs : Array Value) : ((List.range xs.size).filterMap fun (m : Nat) => xs[(((xs.size : Int) - 1) + (m : Int) * (-1)).toNat]?).toArray = xs.toList.reverse.toArray := by
  rw [← rev_pick xs, List.filterMap_map]
  refine congrArg List.toArray (fm_congr fun k hk => ?_)
  have := List.mem_range.mp hk
  have e : (((xs.size : Int) - 1) + (k : Int) * (-1)).toNat = xs.size - 1 - k := by omega
  rw [e]
  rfl
theorem getItem_tuple_rev {t sl : Addr} {items : Array Value} {u : Tok} {Q : Value → Shared → Prop} (ht : IsTup s.heap t items) (hs : s.heap.IsSliceOf sl .none .none (.int (-1) u))
    (h : Q (.ref s.heap.objs.size) { s with heap := s.heap.push { cls := .type "tuple", data := .seq items.toList.reverse.toArray } })
    (hsz : items.size ≤ sizeLine) : wpAny (model prog w) A (getItem (.ref t) (.ref sl)) Q E s := by
  have htake : sizeOk (.seq items.toList.reverse.toArray) := by
    show items.toList.reverse.toArray.size ≤ sizeLine
    rw [List.size_toArray, List.length_reverse, Array.length_toList]
    exact hsz
  obtain ⟨os, hos, hcs, hds⟩ := id hs
  have hTs : s.TypeIs (.ref sl) "slice" := ⟨os, hos, hcs⟩
  unfold getItem
  try with_reducible refine wpAny_holding ?_
  first | refine wpAny_bind (wpAny_pure ?_) | skip
  refine wpAny_bind (wpAny_sequenceKey ht.typeIs (by decide) ?_)
  refine wpAny_bind (wpAny_callSpecial?_slot (name := Str.ofString "__getitem__") ht.typeIs PyProof.Rows.slot_tuple_getitem
    (wpAny_call_entry PyProof.Rows.slot_tuple_getitem ht.typeIs entry_tuple_getitem ?_ (args_tuple_getitem _ _)))
  show wpAny _ _ (Builtin.Tuple.tupleItemsOf (.ref t) >>= _) _ _ s
  refine wpAny_bind (tupleItemsOf_ ht ?_)
  refine wpAny_bind (wpAny_typeOf hTs ?_)
  rw [if_pos (by decide)]
  refine wpAny_bind (sliceApplied_rev hs ?_)
  have hno : ¬ ((((items.size : Int) - 1) == 0 && (-1 : Int) == 1 && items.size == items.size) = true) := by
    intro q
    rw [Bool.and_eq_true, Bool.and_eq_true] at q
    exact absurd q.1.2 (by decide)
  show wpAny _ _ (if (((items.size : Int) - 1) == 0 && (-1 : Int) == 1 && items.size == items.size) = true then _ else _) _ _ s
  rw [if_neg hno, pick_revT]
  first
    | exact wpAny_bind (m := Builtin.Tuple.tupleExact _) (wpAny_newObj_type (wpAny_pure ⟨_, rfl, wpAny_pure h⟩) htake)
    | exact wpAny_bind (m := Builtin.Tuple.tupleExact _) (wpAny_newObj_type (wpAny_bind (wpAny_pure (wpAny_pure ⟨_, rfl, wpAny_pure h⟩))) htake)
    | exact wpAny_bind (wpAny_bind (m := Builtin.Tuple.tupleExact _) (wpAny_newObj_type (wpAny_pure (wpAny_pure ⟨_, rfl, wpAny_pure h⟩)) htake))
    | exact wpAny_bind (wpAny_bind (m := Builtin.Tuple.tupleExact _) (wpAny_newObj_type (wpAny_pure ⟨_, rfl, wpAny_pure h⟩) htake))
end
section
variable {X : Cx} {m m1 : Md} {e c : Expr} {te tc : TE} {f g : Rho → Option D} {p2 pos : Pos}
def tRevU (K : PySem.W.Frag) (te tc : TE) : TE := fun σ H Q => te σ H fun x H1 => tc σ H1 fun y H2 => ∃ a xs, x = .ref a ∧ y = .int (-1) ∧ SqT K H2 a xs ∧ NewT xs.reverse H2 Q
theorem pe_revU (he : PE X e te) (hc : PE X c tc) : PE X (.Subscript e (.Slice none none (some c) p2) pos) (tRevU X.K te tc) := by
  refine ⟨fun pins s σ H Q I h => ?_⟩
  refine Subscript_ (thn (he.run pins s σ H _ I h) fun v s1 ⟨x, H1, I1, r1, q1⟩ => ?_)
  refine wpAny_Slice ?_
  rw [evalPart_none]
  refine wpAny_pure (wpAny_pure ?_)
  rw [evalPart_some]
  refine thn (hc.run pins s1 σ H1 _ I1 q1) fun u s2 ⟨y, H2, I2, r2, a, xs, ex, ei, sq, q2⟩ => ?_
  subst ei; subst ex
  cases r1
  obtain ⟨t, rfl⟩ := r2
  have I4 : Inv X pins σ H2 { s2 with heap := s2.heap.push { cls := .type "slice", data := .fields #[.none, .none, .int (-1) t] } } := I2.kept (t' := s2.toks) fun b ob q => Heap.get?_push_of_some _ q
  obtain ⟨its, rv, pl, hz⟩ := I4.tuple sq
  show wpAny (model X.prog X.w) X.A (subscriptTail e (.Slice none none (some c) p2) (.ref a) (.ref s2.heap.objs.size)) (EP X pins σ Q) X.xe { s2 with heap := s2.heap.push { cls := .type "slice", data := .fields #[.none, .none, .int (-1) t] } }
  refine tail_any (ops := [.ref a, .ref s2.heap.objs.size]) pl.typeIs PyProof.Rows.slot_tuple_getitem.lookup ?_ (by with_unfolding_all rfl)
  refine getItem_tuple_rev pl (Heap.IsSliceOf.new ..) ?_ (by rw [List.size_toArray, ← rv.length]; exact hz)
  refine ⟨.ref _, _, ?_, rfl, q2 _ (tupObj its.reverse.toArray) (I4.hok.fresh (Nat.le_refl _)) rfl rfl⟩
  have h1 : its.toArray.toList.reverse.toArray = its.reverse.toArray := by simp
  rw [h1]
  exact I4.laidT (its := its.reverse) (t' := s2.toks) (vals_rev rv) (by rw [List.length_reverse]; exact hz)
def revUD (d c : D) : Option D := match d, c with
  | .tuple ds, .int i => if i = -1 then some (.tuple ds.reverse) else none
  | _, _ => none
theorem de_revU (K' : PySem.W.Frag) (he : DE X m e te f) (hc : DE X m1 c tc g) (hK : X.K = K' := by rfl) : DE X .fz (.Subscript e (.Slice none none (some c) p2) pos) (tRevU K' te tc) (f2 revUD f g) := by
  subst hK
  refine ⟨pe_revU he.p hc.p, fun B F H σ ρ z Q r hf q => ?_⟩
  obtain ⟨d, h1, h2⟩ := bind_some hf
  obtain ⟨i, h3, h4⟩ := bind_some h2
  refine he.s B F H σ ρ d _ r h1 fun v F1 H1 x1 r1 => ?_
  refine hc.s B F1 H1 σ ρ i _ (r.ext x1) h3 fun w F2 H2 x2 r2 => ?_
  match d, i, h4, r1, r2 with
  | .tuple ds, .int i, h4, r1, r2 =>
    obtain ⟨hn, rfl⟩ := if_some (show (if i = -1 then some (PyData.tuple ds.reverse) else none) = some z from h4)
    obtain ⟨a, xs, rfl, s1, p1⟩ := (r1.mono x2).tup x2.s
    refine ⟨a, xs, rfl, by rw [r2.int, hn], s1.sq, newT_rep (x1.trans x2) p1.rev q⟩
@[simp] theorem revUD_e (ds : List D) : revUD (.tuple ds) (.int (-1)) = some (.tuple ds.reverse) := rfl
end
end Q
end

/-! part: HeadK30 -/
section
set_option Elab.async false
set_option linter.all false
set_option maxRecDepth 100000
set_option maxHeartbeats 0
namespace Hd
open PySem PySem.Spec PyProof.Rows L2
def top (i : Nat) : Stmt := PySem.Challenge.pw_playground_k30_plans_kings_and_orders.main.body.getD i (.Pass ⟨0, 0, 0, 0⟩)
abbrev s_need : Stmt := top 5
abbrev s_is_int : Stmt := top 6
abbrev s_is_seq : Stmt := top 7
abbrev s_is_within : Stmt := top 8
abbrev s_rank_key : Stmt := top 9
abbrev s_is_rising : Stmt := top 10
abbrev s_to_row : Stmt := top 11
abbrev s_to_ints : Stmt := top 12
abbrev s_to_int_pair : Stmt := top 13
abbrev s_to_sides : Stmt := top 15
abbrev s_is_match : Stmt := top 16
abbrev s_to_played : Stmt := top 17
abbrev s_day_pairs : Stmt := top 18
abbrev s_plan : Stmt := top 19
abbrev s_to_day : Stmt := top 20
abbrev s_to_plan : Stmt := top 21
abbrev s_is_plan : Stmt := top 22
abbrev s_fewest_days : Stmt := top 23
abbrev s_wins_of : Stmt := top 24
abbrev s_beat : Stmt := top 25
abbrev s_rules_over : Stmt := top 26
abbrev s_kings : Stmt := top 27
abbrev s_rings : Stmt := top 28
abbrev s_order : Stmt := top 29
abbrev s__law_cell : Stmt := top 31
abbrev s__law_numbers : Stmt := top 32
abbrev s__law_listed : Stmt := top 33
abbrev s__law_same : Stmt := top 34
abbrev s__law_orders : Stmt := top 35
abbrev s__law_played : Stmt := top 36
abbrev s__law_plan : Stmt := top 37
abbrev s__law_beat : Stmt := top 38
abbrev s_law : Stmt := top 39
def d_need : He.DefD := ⟨("need", none), "need", "need", defArgs s_need, defBody s_need, defScope s_need, [], []⟩
def d_is_int : He.DefD := ⟨("is_int", none), "is_int", "is_int", defArgs s_is_int, defBody s_is_int, defScope s_is_int, [], []⟩
def d_is_seq : He.DefD := ⟨("is_seq", none), "is_seq", "is_seq", defArgs s_is_seq, defBody s_is_seq, defScope s_is_seq, [], []⟩
def d_is_within : He.DefD := ⟨("is_within", none), "is_within", "is_within", defArgs s_is_within, defBody s_is_within, defScope s_is_within, [], []⟩
def d_rank_key : He.DefD := ⟨("rank_key", none), "rank_key", "rank_key", defArgs s_rank_key, defBody s_rank_key, defScope s_rank_key, [], []⟩
def d_is_rising : He.DefD := ⟨("is_rising", none), "is_rising", "is_rising", defArgs s_is_rising, defBody s_is_rising, defScope s_is_rising, [], []⟩
def d_to_row : He.DefD := ⟨("to_row", none), "to_row", "to_row", defArgs s_to_row, defBody s_to_row, defScope s_to_row, [], []⟩
def d_to_ints : He.DefD := ⟨("to_ints", none), "to_ints", "to_ints", defArgs s_to_ints, defBody s_to_ints, defScope s_to_ints, [], []⟩
def d_to_int_pair : He.DefD := ⟨("to_int_pair", none), "to_int_pair", "to_int_pair", defArgs s_to_int_pair, defBody s_to_int_pair, defScope s_to_int_pair, [], []⟩
def d_to_sides : He.DefD := ⟨("to_sides", none), "to_sides", "to_sides", defArgs s_to_sides, defBody s_to_sides, defScope s_to_sides, [], []⟩
def d_is_match : He.DefD := ⟨("is_match", none), "is_match", "is_match", defArgs s_is_match, defBody s_is_match, defScope s_is_match, [], []⟩
def d_to_played : He.DefD := ⟨("to_played", none), "to_played", "to_played", defArgs s_to_played, defBody s_to_played, defScope s_to_played, [], []⟩
def d_day_pairs : He.DefD := ⟨("day_pairs", none), "day_pairs", "day_pairs", defArgs s_day_pairs, defBody s_day_pairs, defScope s_day_pairs, [], []⟩
def d_plan : He.DefD := ⟨("plan", none), "plan", "plan", defArgs s_plan, defBody s_plan, defScope s_plan, [], []⟩
def d_to_day : He.DefD := ⟨("to_day", none), "to_day", "to_day", defArgs s_to_day, defBody s_to_day, defScope s_to_day, [], []⟩
def d_to_plan : He.DefD := ⟨("to_plan", none), "to_plan", "to_plan", defArgs s_to_plan, defBody s_to_plan, defScope s_to_plan, [], []⟩
def d_is_plan : He.DefD := ⟨("is_plan", none), "is_plan", "is_plan", defArgs s_is_plan, defBody s_is_plan, defScope s_is_plan, [], []⟩
def d_fewest_days : He.DefD := ⟨("fewest_days", none), "fewest_days", "fewest_days", defArgs s_fewest_days, defBody s_fewest_days, defScope s_fewest_days, [], []⟩
def d_wins_of : He.DefD := ⟨("wins_of", none), "wins_of", "wins_of", defArgs s_wins_of, defBody s_wins_of, defScope s_wins_of, [], []⟩
def d_beat : He.DefD := ⟨("beat", none), "beat", "beat", defArgs s_beat, defBody s_beat, defScope s_beat, [], []⟩
def d_rules_over : He.DefD := ⟨("rules_over", none), "rules_over", "rules_over", defArgs s_rules_over, defBody s_rules_over, defScope s_rules_over, [], []⟩
def d_kings : He.DefD := ⟨("kings", none), "kings", "kings", defArgs s_kings, defBody s_kings, defScope s_kings, [], []⟩
def d_rings : He.DefD := ⟨("rings", none), "rings", "rings", defArgs s_rings, defBody s_rings, defScope s_rings, [], []⟩
def d_order : He.DefD := ⟨("order", none), "order", "order", defArgs s_order, defBody s_order, defScope s_order, [], []⟩
def d__law_cell : He.DefD := ⟨("_law_cell", none), "_law_cell", "_law_cell", defArgs s__law_cell, defBody s__law_cell, defScope s__law_cell, [], []⟩
def d__law_numbers : He.DefD := ⟨("_law_numbers", none), "_law_numbers", "_law_numbers", defArgs s__law_numbers, defBody s__law_numbers, defScope s__law_numbers, [], []⟩
def d__law_listed : He.DefD := ⟨("_law_listed", none), "_law_listed", "_law_listed", defArgs s__law_listed, defBody s__law_listed, defScope s__law_listed, [], []⟩
def d__law_same : He.DefD := ⟨("_law_same", none), "_law_same", "_law_same", defArgs s__law_same, defBody s__law_same, defScope s__law_same, [], []⟩
def d__law_orders : He.DefD := ⟨("_law_orders", none), "_law_orders", "_law_orders", defArgs s__law_orders, defBody s__law_orders, defScope s__law_orders, [], []⟩
def d__law_played : He.DefD := ⟨("_law_played", none), "_law_played", "_law_played", defArgs s__law_played, defBody s__law_played, defScope s__law_played, [], []⟩
def d__law_plan : He.DefD := ⟨("_law_plan", none), "_law_plan", "_law_plan", defArgs s__law_plan, defBody s__law_plan, defScope s__law_plan, [], []⟩
def d__law_beat : He.DefD := ⟨("_law_beat", none), "_law_beat", "_law_beat", defArgs s__law_beat, defBody s__law_beat, defScope s__law_beat, [], []⟩
def d_law : He.DefD := ⟨("law", none), "law", "law", defArgs s_law, defBody s_law, defScope s_law, [], []⟩
def fn_0 : List He.DefD := [d_need, d_is_int, d_is_seq, d_is_within, d_rank_key, d_is_rising, d_to_row, d_to_ints, d_to_int_pair, d_to_sides, d_is_match, d_to_played, d_day_pairs, d_plan, d_to_day, d_to_plan, d_is_plan, d_fewest_days, d_wins_of, d_beat]
def fn_1 : List He.DefD := [d_rules_over, d_kings, d_rings, d_order, d__law_cell, d__law_numbers, d__law_listed, d__law_same, d__law_orders, d__law_played, d__law_plan, d__law_beat, d_law]
def fn : List He.DefD := fn_0 ++ fn_1
def fa_0 : List He.Fa := [.glo "need", .glo "is_int", .glo "is_seq", .glo "is_within", .glo "rank_key", .glo "is_rising", .glo "to_row", .glo "to_ints", .glo "to_int_pair", .glo "to_sides", .glo "is_match", .glo "to_played", .glo "day_pairs", .glo "plan", .glo "to_day", .glo "to_plan", .glo "is_plan", .glo "fewest_days", .glo "wins_of", .glo "beat"]
def fa_1 : List He.Fa := [.glo "rules_over", .glo "kings", .glo "rings", .glo "order", .glo "_law_cell", .glo "_law_numbers", .glo "_law_listed", .glo "_law_same", .glo "_law_orders", .glo "_law_played", .glo "_law_plan", .glo "_law_beat", .glo "law", .free "Exception", .free "isinstance", .free "bool", .free "int", .free "str", .free "all", .free "tuple"]
def fa_2 : List He.Fa := [.free "range", .free "sorted", .free "any", .free "list", .free "len", .free "set", .free "min"]
def fa : List He.Fa := fa_0 ++ fa_1 ++ fa_2
abbrev R : PySem.W.OpenRow := PySem.W.OpenLaw.row PySem.Challenge.rw_playground_k30_plans_kings_and_orders
def ck : List Q.Ck := [.typ "permutations" "itertools.permutations"]
abbrev hk : PySem.W.Hook := Q.hookQ 7 fa fn ck
def ob (s : PySem.W.SharedT) : He.AlD × Bool := Q.obsQ 7 fa fn ck (HandSHeadRun.getT s)
theorem ob_eq (s : PySem.W.SharedT) : ob s = hk.obs s.abs := Q.obsQ_eq (HandSHeadRun.getT_eq s)
def loose_0 : List PySem.Str := ["permutations", "PlayError", "BadValue", "need", "is_int", "is_seq", "is_within", "rank_key", "is_rising", "to_row", "to_ints", "to_int_pair", "to_sides", "is_match", "to_played", "day_pairs", "plan", "to_day", "to_plan", "is_plan"]
def loose_1 : List PySem.Str := ["fewest_days", "wins_of", "beat", "rules_over", "kings", "rings", "order", "_law_cell", "_law_numbers", "_law_listed", "_law_same", "_law_orders", "_law_played", "_law_plan", "_law_beat"]
def loose : List PySem.Str := loose_0 ++ loose_1
theorem run (w : World) : HandSHeadRun.RunEqI R (PySem.W.view R.prog [0, 39]) hk ob 6000 loose w := by
  unfold HandSHeadRun.RunEqI
  kernel_rfl
end Hd
end

/-! part: DenK30 -/
section
set_option Elab.async false
set_option linter.all false
set_option maxRecDepth 100000
set_option maxHeartbeats 0
namespace Hd
open PySem PySem.Spec PySem.Calls PyProof.Rows L2 Q
/-- what the head tells -/
structure Fx (K : PySem.W.Frag) (mg : Str → Option Value) : Prop where
  f__law_plan : ∃ fd, FunD K "_law_plan" "_law_plan" (defArgs s__law_plan) (defBody s__law_plan) (defScope s__law_plan) [] [] (He.ga K "_law_plan") fd
  f__law_played : ∃ fd, FunD K "_law_played" "_law_played" (defArgs s__law_played) (defBody s__law_played) (defScope s__law_played) [] [] (He.ga K "_law_played") fd
  f__law_beat : ∃ fd, FunD K "_law_beat" "_law_beat" (defArgs s__law_beat) (defBody s__law_beat) (defScope s__law_beat) [] [] (He.ga K "_law_beat") fd
  f__law_cell : ∃ fd, FunD K "_law_cell" "_law_cell" (defArgs s__law_cell) (defBody s__law_cell) (defScope s__law_cell) [] [] (He.ga K "_law_cell") fd
  f__law_numbers : ∃ fd, FunD K "_law_numbers" "_law_numbers" (defArgs s__law_numbers) (defBody s__law_numbers) (defScope s__law_numbers) [] [] (He.ga K "_law_numbers") fd
  f__law_same : ∃ fd, FunD K "_law_same" "_law_same" (defArgs s__law_same) (defBody s__law_same) (defScope s__law_same) [] [] (He.ga K "_law_same") fd
  f_need : ∃ fd, FunD K "need" "need" (defArgs s_need) (defBody s_need) (defScope s_need) [] [] (He.ga K "need") fd
  f_is_int : ∃ fd, FunD K "is_int" "is_int" (defArgs s_is_int) (defBody s_is_int) (defScope s_is_int) [] [] (He.ga K "is_int") fd
  f_is_within : ∃ fd, FunD K "is_within" "is_within" (defArgs s_is_within) (defBody s_is_within) (defScope s_is_within) [] [] (He.ga K "is_within") fd
  f_to_sides : ∃ fd, FunD K "to_sides" "to_sides" (defArgs s_to_sides) (defBody s_to_sides) (defScope s_to_sides) [] [] (He.ga K "to_sides") fd
  f_is_seq : ∃ fd, FunD K "is_seq" "is_seq" (defArgs s_is_seq) (defBody s_is_seq) (defScope s_is_seq) [] [] (He.ga K "is_seq") fd
  f_to_row : ∃ fd, FunD K "to_row" "to_row" (defArgs s_to_row) (defBody s_to_row) (defScope s_to_row) [] [] (He.ga K "to_row") fd
  f_to_ints : ∃ fd, FunD K "to_ints" "to_ints" (defArgs s_to_ints) (defBody s_to_ints) (defScope s_to_ints) [] [] (He.ga K "to_ints") fd
  f_to_int_pair : ∃ fd, FunD K "to_int_pair" "to_int_pair" (defArgs s_to_int_pair) (defBody s_to_int_pair) (defScope s_to_int_pair) [] [] (He.ga K "to_int_pair") fd
  f_rank_key : ∃ fd, FunD K "rank_key" "rank_key" (defArgs s_rank_key) (defBody s_rank_key) (defScope s_rank_key) [] [] (He.ga K "rank_key") fd
  f_is_rising : ∃ fd, FunD K "is_rising" "is_rising" (defArgs s_is_rising) (defBody s_is_rising) (defScope s_is_rising) [] [] (He.ga K "is_rising") fd
  f_to_day : ∃ fd, FunD K "to_day" "to_day" (defArgs s_to_day) (defBody s_to_day) (defScope s_to_day) [] [] (He.ga K "to_day") fd
  f_to_plan : ∃ fd, FunD K "to_plan" "to_plan" (defArgs s_to_plan) (defBody s_to_plan) (defScope s_to_plan) [] [] (He.ga K "to_plan") fd
  f_is_plan : ∃ fd, FunD K "is_plan" "is_plan" (defArgs s_is_plan) (defBody s_is_plan) (defScope s_is_plan) [] [] (He.ga K "is_plan") fd
  f_fewest_days : ∃ fd, FunD K "fewest_days" "fewest_days" (defArgs s_fewest_days) (defBody s_fewest_days) (defScope s_fewest_days) [] [] (He.ga K "fewest_days") fd
  f_wins_of : ∃ fd, FunD K "wins_of" "wins_of" (defArgs s_wins_of) (defBody s_wins_of) (defScope s_wins_of) [] [] (He.ga K "wins_of") fd
  f_is_match : ∃ fd, FunD K "is_match" "is_match" (defArgs s_is_match) (defBody s_is_match) (defScope s_is_match) [] [] (He.ga K "is_match") fd
  f_to_played : ∃ fd, FunD K "to_played" "to_played" (defArgs s_to_played) (defBody s_to_played) (defScope s_to_played) [] [] (He.ga K "to_played") fd
  f_beat : ∃ fd, FunD K "beat" "beat" (defArgs s_beat) (defBody s_beat) (defScope s_beat) [] [] (He.ga K "beat") fd
  f_rules_over : ∃ fd, FunD K "rules_over" "rules_over" (defArgs s_rules_over) (defBody s_rules_over) (defScope s_rules_over) [] [] (He.ga K "rules_over") fd
  f_kings : ∃ fd, FunD K "kings" "kings" (defArgs s_kings) (defBody s_kings) (defScope s_kings) [] [] (He.ga K "kings") fd
  f_rings : ∃ fd, FunD K "rings" "rings" (defArgs s_rings) (defBody s_rings) (defScope s_rings) [] [] (He.ga K "rings") fd
  f__law_orders : ∃ fd, FunD K "_law_orders" "_law_orders" (defArgs s__law_orders) (defBody s__law_orders) (defScope s__law_orders) [] [] (He.ga K "_law_orders") fd
  f_order : ∃ fd, FunD K "order" "order" (defArgs s_order) (defBody s_order) (defScope s_order) [] [] (He.ga K "order") fd
  f_day_pairs : ∃ fd, FunD K "day_pairs" "day_pairs" (defArgs s_day_pairs) (defBody s_day_pairs) (defScope s_day_pairs) [] [] (He.ga K "day_pairs") fd
  f_plan : ∃ fd, FunD K "plan" "plan" (defArgs s_plan) (defBody s_plan) (defScope s_plan) [] [] (He.ga K "plan") fd
  f__law_listed : ∃ fd, FunD K "_law_listed" "_law_listed" (defArgs s__law_listed) (defBody s__law_listed) (defScope s__law_listed) [] [] (He.ga K "_law_listed") fd
  f_law : ∃ fd, FunD K "law" "law" (defArgs s_law) (defBody s_law) (defScope s_law) [] [] (He.ga K "law") fd
  g__law_plan : mg "_law_plan" = some (.ref (He.ga K "_law_plan"))
  g__law_played : mg "_law_played" = some (.ref (He.ga K "_law_played"))
  g__law_beat : mg "_law_beat" = some (.ref (He.ga K "_law_beat"))
  g__law_cell : mg "_law_cell" = some (.ref (He.ga K "_law_cell"))
  g__law_numbers : mg "_law_numbers" = some (.ref (He.ga K "_law_numbers"))
  g__law_same : mg "_law_same" = some (.ref (He.ga K "_law_same"))
  g_need : mg "need" = some (.ref (He.ga K "need"))
  g_is_int : mg "is_int" = some (.ref (He.ga K "is_int"))
  g_is_within : mg "is_within" = some (.ref (He.ga K "is_within"))
  g_to_sides : mg "to_sides" = some (.ref (He.ga K "to_sides"))
  g_is_seq : mg "is_seq" = some (.ref (He.ga K "is_seq"))
  g_to_row : mg "to_row" = some (.ref (He.ga K "to_row"))
  g_to_ints : mg "to_ints" = some (.ref (He.ga K "to_ints"))
  g_to_int_pair : mg "to_int_pair" = some (.ref (He.ga K "to_int_pair"))
  g_rank_key : mg "rank_key" = some (.ref (He.ga K "rank_key"))
  g_is_rising : mg "is_rising" = some (.ref (He.ga K "is_rising"))
  g_to_day : mg "to_day" = some (.ref (He.ga K "to_day"))
  g_to_plan : mg "to_plan" = some (.ref (He.ga K "to_plan"))
  g_is_plan : mg "is_plan" = some (.ref (He.ga K "is_plan"))
  g_fewest_days : mg "fewest_days" = some (.ref (He.ga K "fewest_days"))
  g_wins_of : mg "wins_of" = some (.ref (He.ga K "wins_of"))
  g_is_match : mg "is_match" = some (.ref (He.ga K "is_match"))
  g_to_played : mg "to_played" = some (.ref (He.ga K "to_played"))
  g_beat : mg "beat" = some (.ref (He.ga K "beat"))
  g_rules_over : mg "rules_over" = some (.ref (He.ga K "rules_over"))
  g_kings : mg "kings" = some (.ref (He.ga K "kings"))
  g_rings : mg "rings" = some (.ref (He.ga K "rings"))
  g__law_orders : mg "_law_orders" = some (.ref (He.ga K "_law_orders"))
  g_order : mg "order" = some (.ref (He.ga K "order"))
  g_day_pairs : mg "day_pairs" = some (.ref (He.ga K "day_pairs"))
  g_plan : mg "plan" = some (.ref (He.ga K "plan"))
  g__law_listed : mg "_law_listed" = some (.ref (He.ga K "_law_listed"))
  g_law : mg "law" = some (.ref (He.ga K "law"))
  n_Exception : mg "Exception" = none
  n_isinstance : mg "isinstance" = none
  n_bool : mg "bool" = none
  n_int : mg "int" = none
  n_str : mg "str" = none
  n_all : mg "all" = none
  n_tuple : mg "tuple" = none
  n_range : mg "range" = none
  n_sorted : mg "sorted" = none
  n_any : mg "any" = none
  n_list : mg "list" = none
  n_len : mg "len" = none
  n_set : mg "set" = none
  n_min : mg "min" = none
  k_permutations : mg "permutations" = some (.type "itertools.permutations")
theorem fx_ok {K : PySem.W.Frag} {h : Heap} {mg : Str → Option Value} (X : K.In h) (G : h.Ns mainGlobals mg) (c : He.SaysD fa fn K) (c2 : (ck.all fun c => c.ok K) = true) : Fx K mg where
  f__law_plan := c.def_ 30 (d := d__law_plan) rfl
  f__law_played := c.def_ 29 (d := d__law_played) rfl
  f__law_beat := c.def_ 31 (d := d__law_beat) rfl
  f__law_cell := c.def_ 24 (d := d__law_cell) rfl
  f__law_numbers := c.def_ 25 (d := d__law_numbers) rfl
  f__law_same := c.def_ 27 (d := d__law_same) rfl
  f_need := c.def_ 0 (d := d_need) rfl
  f_is_int := c.def_ 1 (d := d_is_int) rfl
  f_is_within := c.def_ 3 (d := d_is_within) rfl
  f_to_sides := c.def_ 9 (d := d_to_sides) rfl
  f_is_seq := c.def_ 2 (d := d_is_seq) rfl
  f_to_row := c.def_ 6 (d := d_to_row) rfl
  f_to_ints := c.def_ 7 (d := d_to_ints) rfl
  f_to_int_pair := c.def_ 8 (d := d_to_int_pair) rfl
  f_rank_key := c.def_ 4 (d := d_rank_key) rfl
  f_is_rising := c.def_ 5 (d := d_is_rising) rfl
  f_to_day := c.def_ 14 (d := d_to_day) rfl
  f_to_plan := c.def_ 15 (d := d_to_plan) rfl
  f_is_plan := c.def_ 16 (d := d_is_plan) rfl
  f_fewest_days := c.def_ 17 (d := d_fewest_days) rfl
  f_wins_of := c.def_ 18 (d := d_wins_of) rfl
  f_is_match := c.def_ 10 (d := d_is_match) rfl
  f_to_played := c.def_ 11 (d := d_to_played) rfl
  f_beat := c.def_ 19 (d := d_beat) rfl
  f_rules_over := c.def_ 20 (d := d_rules_over) rfl
  f_kings := c.def_ 21 (d := d_kings) rfl
  f_rings := c.def_ 22 (d := d_rings) rfl
  f__law_orders := c.def_ 28 (d := d__law_orders) rfl
  f_order := c.def_ 23 (d := d_order) rfl
  f_day_pairs := c.def_ 12 (d := d_day_pairs) rfl
  f_plan := c.def_ 13 (d := d_plan) rfl
  f__law_listed := c.def_ 26 (d := d__law_listed) rfl
  f_law := c.def_ 32 (d := d_law) rfl
  g__law_plan := He.glo_ok X G (c.fact 30 (f := .glo "_law_plan") rfl)
  g__law_played := He.glo_ok X G (c.fact 29 (f := .glo "_law_played") rfl)
  g__law_beat := He.glo_ok X G (c.fact 31 (f := .glo "_law_beat") rfl)
  g__law_cell := He.glo_ok X G (c.fact 24 (f := .glo "_law_cell") rfl)
  g__law_numbers := He.glo_ok X G (c.fact 25 (f := .glo "_law_numbers") rfl)
  g__law_same := He.glo_ok X G (c.fact 27 (f := .glo "_law_same") rfl)
  g_need := He.glo_ok X G (c.fact 0 (f := .glo "need") rfl)
  g_is_int := He.glo_ok X G (c.fact 1 (f := .glo "is_int") rfl)
  g_is_within := He.glo_ok X G (c.fact 3 (f := .glo "is_within") rfl)
  g_to_sides := He.glo_ok X G (c.fact 9 (f := .glo "to_sides") rfl)
  g_is_seq := He.glo_ok X G (c.fact 2 (f := .glo "is_seq") rfl)
  g_to_row := He.glo_ok X G (c.fact 6 (f := .glo "to_row") rfl)
  g_to_ints := He.glo_ok X G (c.fact 7 (f := .glo "to_ints") rfl)
  g_to_int_pair := He.glo_ok X G (c.fact 8 (f := .glo "to_int_pair") rfl)
  g_rank_key := He.glo_ok X G (c.fact 4 (f := .glo "rank_key") rfl)
  g_is_rising := He.glo_ok X G (c.fact 5 (f := .glo "is_rising") rfl)
  g_to_day := He.glo_ok X G (c.fact 14 (f := .glo "to_day") rfl)
  g_to_plan := He.glo_ok X G (c.fact 15 (f := .glo "to_plan") rfl)
  g_is_plan := He.glo_ok X G (c.fact 16 (f := .glo "is_plan") rfl)
  g_fewest_days := He.glo_ok X G (c.fact 17 (f := .glo "fewest_days") rfl)
  g_wins_of := He.glo_ok X G (c.fact 18 (f := .glo "wins_of") rfl)
  g_is_match := He.glo_ok X G (c.fact 10 (f := .glo "is_match") rfl)
  g_to_played := He.glo_ok X G (c.fact 11 (f := .glo "to_played") rfl)
  g_beat := He.glo_ok X G (c.fact 19 (f := .glo "beat") rfl)
  g_rules_over := He.glo_ok X G (c.fact 20 (f := .glo "rules_over") rfl)
  g_kings := He.glo_ok X G (c.fact 21 (f := .glo "kings") rfl)
  g_rings := He.glo_ok X G (c.fact 22 (f := .glo "rings") rfl)
  g__law_orders := He.glo_ok X G (c.fact 28 (f := .glo "_law_orders") rfl)
  g_order := He.glo_ok X G (c.fact 23 (f := .glo "order") rfl)
  g_day_pairs := He.glo_ok X G (c.fact 12 (f := .glo "day_pairs") rfl)
  g_plan := He.glo_ok X G (c.fact 13 (f := .glo "plan") rfl)
  g__law_listed := He.glo_ok X G (c.fact 26 (f := .glo "_law_listed") rfl)
  g_law := He.glo_ok X G (c.fact 32 (f := .glo "law") rfl)
  n_Exception := He.free_ok X G (c.fact 33 (f := .free "Exception") rfl)
  n_isinstance := He.free_ok X G (c.fact 34 (f := .free "isinstance") rfl)
  n_bool := He.free_ok X G (c.fact 35 (f := .free "bool") rfl)
  n_int := He.free_ok X G (c.fact 36 (f := .free "int") rfl)
  n_str := He.free_ok X G (c.fact 37 (f := .free "str") rfl)
  n_all := He.free_ok X G (c.fact 38 (f := .free "all") rfl)
  n_tuple := He.free_ok X G (c.fact 39 (f := .free "tuple") rfl)
  n_range := He.free_ok X G (c.fact 40 (f := .free "range") rfl)
  n_sorted := He.free_ok X G (c.fact 41 (f := .free "sorted") rfl)
  n_any := He.free_ok X G (c.fact 42 (f := .free "any") rfl)
  n_list := He.free_ok X G (c.fact 43 (f := .free "list") rfl)
  n_len := He.free_ok X G (c.fact 44 (f := .free "len") rfl)
  n_set := He.free_ok X G (c.fact 45 (f := .free "set") rfl)
  n_min := He.free_ok X G (c.fact 46 (f := .free "min") rfl)
  k_permutations := ck_typ X G (ck_at c2 0 rfl)
section
variable {P : Program} {w : World} {K : PySem.W.Frag} {mg : Str → Option Value} {base : Heap}
abbrev N__law_plan : List Str := ["sides", "size", "days", "d", "pairs", "i", "j", "pair"]
theorem sc__law_plan : FnScope N__law_plan ["sides"] (defScope s__law_plan) := ⟨rfl, rfl, rfl, by decide +kernel, rfl, by decide +kernel, by decide +kernel⟩
def L__law_plan_1 : Bd := bAsg 4 (f2 addD (vF 4) (fLc (fIs rg2D (aCons (f2 addD (vF 5) (cD (.int 1))) (aCons (f2 subD (vF 1) (cD (.int 1))) (aNil)))) (sN 6) (fAndT (fT (f2 neD (vF 5) (vF 3))) (fAndT (fT (f2 neD (vF 6) (vF 3))) (fT (f2 eqD (f2 modD (f2 subD (f2 addD (vF 5) (vF 6)) (f2 mulD (cD (.int 2)) (vF 3))) (f2 subD (vF 1) (cD (.int 1)))) (cD (.int 0)))))) (fTup (aCons (vF 5) (aCons (vF 6) (aNil)))) [6]))
def L__law_plan_2 : Bd := bSeq (bAsg 4 (fLst (aCons (fTup (aCons (vF 3) (aCons (f2 subD (vF 1) (cD (.int 1))) (aNil)))) (aNil)))) (bSeq (bFor (fIs rg1D (aCons (f2 subD (vF 1) (cD (.int 1))) (aNil))) (sN 5) (L__law_plan_1)) (bApp 2 (fB tupD (aCons (fB sortedD (aCons (fLc (fI (vF 4)) (sN 7) (fT (f2 ltD (f2 ixD (vF 7) (cD (.int 1))) (vF 0))) (vF 7) [7]) (aNil))) (aNil)))))
theorem bi__law_plan : ∀ (kV doc pm : Value) (an : Option Addr) (cdv ct : Value) (us : List Value), us.length = (["sides"] : List Str).length → bindArgs (PySem.W.fnOf "_law_plan" "_law_plan" (defArgs s__law_plan) (defBody s__law_plan) (defScope s__law_plan) .none kV doc pm an cdv ct) ⟨us, []⟩ = pure ((["sides"] : List Str).zip us) :=
  fun _ _ _ _ _ _ us hl => match us, hl with | [_], _ => rfl
def b__law_plan : Bd := bSeq (bAsg 1 (fIf (fT (f2 eqD (f2 modD (vF 0) (cD (.int 2))) (cD (.int 0)))) (vF 0) (f2 addD (vF 0) (cD (.int 1))))) (bSeq (bOwn 2 (fLst (aNil))) (bSeq (bFor (fIs rg1D (aCons (f2 subD (vF 1) (cD (.int 1))) (aNil))) (sN 3) (L__law_plan_2)) (bRet (fB tupD (aCons (vP 2) (aNil))))))
def Ph__law_plan : List D → Option D := fnB (N__law_plan).length (["sides"] : List Str).length b__law_plan
theorem dd__law_plan (Z : Fx K mg) (cdv : Value) (A : Around) (outer : List Env) (s : Shared) (H : Hp) (E : XK) (hr : Room (0) (A.deeper (envOfC "_law_plan" (defScope s__law_plan) s.heap.objs.size (He.ga K "_law_plan") cdv))) :
    ∃ W t, DSs (cxOf CX0 P w K mg base N__law_plan "_law_plan" (defScope s__law_plan) (He.ga K "_law_plan") cdv A outer s H E).nox .fz W (defBody s__law_plan) t (b__law_plan) := ⟨_, _,
  dss_cons (ds_asg (i := 1) (de_if (dt_cmp (op_eqDK K hr.u64) ops_eq rfl (de_op op_modN ops_mod (de_v 0) (de_int)) (de_int)) (de_v 0) (de_op (op_addAK K) ops_addA (de_v 0) (de_int))) sc__law_plan.nd) (dss_cons (ds_own (i := 2) (de_lst (da_nil)) sc__law_plan.nd) (dss_cons (ds_for (di_rg1 rfl Z.n_range (da_cons (de_op op_sub ops_sub (de_v 1) (de_int)) (da_nil))) (dg_n sc__law_plan.nd (i := 3)) (dss_cons (ds_asg (i := 4) (DE.frz (de_lst (da_cons (de_tup (da_cons (de_v 3) (da_cons (de_op op_sub ops_sub (de_v 1) (de_int)) (da_nil)))) (da_nil)))) sc__law_plan.nd) (dss_cons (ds_for (di_rg1 rfl Z.n_range (da_cons (de_op op_sub ops_sub (de_v 1) (de_int)) (da_nil))) (dg_n sc__law_plan.nd (i := 5)) (dss_one (ds_asg (i := 4) (de_op (op_addAK K) ops_addA (de_v 4) (de_lc [("j", 6)] sc__law_plan.nd (di_rg2 rfl Z.n_range (da_cons (de_op (op_addAK K) ops_addA (de_v 5) (de_int)) (da_cons (de_op op_sub ops_sub (de_v 1) (de_int)) (da_nil)))) (blk_of (N := N__law_plan) (sc := defScope s__law_plan) (by decide +kernel)) (fun _ _ _ _ _ => dg_n sc__law_plan.nd (i := 6)) (fun _ _ _ _ _ => dts_one (dt_w (dw_and (dt_cmp (op_neDK K hr.u64) ops_ne rfl (de_v 5) (de_v 3)) (dw_and (dt_cmp (op_neDK K hr.u64) ops_ne rfl (de_v 6) (de_v 3)) (dw_and1 (dt_cmp (op_eqDK K hr.u64) ops_eq rfl (de_op op_modN ops_mod (de_op op_sub ops_sub (de_op (op_addAK K) ops_addA (de_v 5) (de_v 6)) (de_op op_mul ops_mul (de_int) (de_v 3))) (de_op op_sub ops_sub (de_v 1) (de_int))) (de_int))))))) (fun _ _ _ _ _ => de_tup (da_cons (de_v 5) (da_cons (de_v 6) (da_nil)))) (by decide))) sc__law_plan.nd))) (dss_one (ds_app (j := 2) (de_ct (cr_tupK K) cs_tup rfl Z.n_tuple bt_tuple (da_cons (de_cb (cr_srtK K hr.u70) cs_srt rfl Z.n_sorted bt_sorted (da_cons (de_lc [("pair", 7)] sc__law_plan.nd (di_anyK K (de_v 4)) (blk_of (N := N__law_plan) (sc := defScope s__law_plan) (by decide +kernel)) (fun _ _ _ _ _ => dg_n sc__law_plan.nd (i := 7)) (fun _ _ _ _ _ => dts_one (dt_cmp (op_lt_K K hr.u64) ops_lt rfl (de_ixK K (de_v 7) (de_int)) (de_v 0))) (fun _ _ _ _ _ => de_v 7) (by decide)) (da_nil))) (da_nil)))))))) (dss_one (ds_ret (de_ct (cr_tupK K) cs_tup rfl Z.n_tuple bt_tuple (da_cons (de_p 2) (da_nil)))))))⟩
theorem ok__law_plan (Z : Fx K mg) : Ok P w K mg base 1 "_law_plan" ["sides"] .fz Ph__law_plan := by
  obtain ⟨fd, F⟩ := Z.f__law_plan
  exact ok_fz (P := P) (w := w) (mg := mg) (base := base) (b := b__law_plan) (k := 0) (N := N__law_plan) F sc__law_plan bi__law_plan Z.g__law_plan (dd__law_plan Z)
abbrev N__law_played : List Str := ["numbers", "sides", "found", "n", "one", "other"]
theorem sc__law_played : FnScope N__law_played ["numbers", "sides"] (defScope s__law_played) := ⟨rfl, rfl, rfl, by decide +kernel, rfl, by decide +kernel, by decide +kernel⟩
def L__law_played_1 : Bd := bSeq (bAsg 4 (f2 modD (fB intD (aCons (vF 3) (aNil))) (f2 subD (vF 1) (cD (.int 1))))) (bSeq (bAsg 5 (f2 addD (f2 addD (vF 4) (cD (.int 1))) (f2 modD (fB intD (aCons (f2 fdivD (vF 3) (cD (.int 5))) (aNil))) (f2 subD (f2 subD (vF 1) (cD (.int 1))) (vF 4))))) (bApp 2 (fTup (aCons (vF 4) (aCons (vF 5) (aCons (fTup (aCons (f2 modD (fB intD (aCons (f2 fdivD (vF 3) (cD (.int 25))) (aNil))) (cD (.int 4))) (aCons (f2 modD (fB intD (aCons (f2 fdivD (vF 3) (cD (.int 100))) (aNil))) (cD (.int 4))) (aNil)))) (aNil)))))))
theorem bi__law_played : ∀ (kV doc pm : Value) (an : Option Addr) (cdv ct : Value) (us : List Value), us.length = (["numbers", "sides"] : List Str).length → bindArgs (PySem.W.fnOf "_law_played" "_law_played" (defArgs s__law_played) (defBody s__law_played) (defScope s__law_played) .none kV doc pm an cdv ct) ⟨us, []⟩ = pure ((["numbers", "sides"] : List Str).zip us) :=
  fun _ _ _ _ _ _ us hl => match us, hl with | [_, _], _ => rfl
def b__law_played : Bd := bSeq (bOwn 2 (fLst (aNil))) (bSeq (bFor (fI (vF 0)) (sN 3) (L__law_played_1)) (bRet (fB tupD (aCons (vP 2) (aNil)))))
def Ph__law_played : List D → Option D := fnB (N__law_played).length (["numbers", "sides"] : List Str).length b__law_played
theorem dd__law_played (Z : Fx K mg) (cdv : Value) (A : Around) (outer : List Env) (s : Shared) (H : Hp) (E : XK) (hr : Room (0) (A.deeper (envOfC "_law_played" (defScope s__law_played) s.heap.objs.size (He.ga K "_law_played") cdv))) :
    ∃ W t, DSs (cxOf CX0 P w K mg base N__law_played "_law_played" (defScope s__law_played) (He.ga K "_law_played") cdv A outer s H E).nox .fz W (defBody s__law_played) t (b__law_played) := ⟨_, _,
  dss_cons (ds_own (i := 2) (de_lst (da_nil)) sc__law_played.nd) (dss_cons (ds_for (di_anyK K (de_v 0)) (dg_n sc__law_played.nd (i := 3)) (dss_cons (ds_asg (i := 4) (de_op op_modN ops_mod (de_ct call_int1 cs_int rfl Z.n_int bt_int (da_cons (de_v 3) (da_nil))) (de_op op_sub ops_sub (de_v 1) (de_int))) sc__law_played.nd) (dss_cons (ds_asg (i := 5) (de_op (op_addAK K) ops_addA (de_op (op_addAK K) ops_addA (de_v 4) (de_int)) (de_op op_modN ops_mod (de_ct call_int1 cs_int rfl Z.n_int bt_int (da_cons (de_op op_fdivN ops_fdiv (de_v 3) (de_int)) (da_nil))) (de_op op_sub ops_sub (de_op op_sub ops_sub (de_v 1) (de_int)) (de_v 4)))) sc__law_played.nd) (dss_one (ds_app (j := 2) (de_tup (da_cons (de_v 4) (da_cons (de_v 5) (da_cons (de_tup (da_cons (de_op op_modN ops_mod (de_ct call_int1 cs_int rfl Z.n_int bt_int (da_cons (de_op op_fdivN ops_fdiv (de_v 3) (de_int)) (da_nil))) (de_int)) (da_cons (de_op op_modN ops_mod (de_ct call_int1 cs_int rfl Z.n_int bt_int (da_cons (de_op op_fdivN ops_fdiv (de_v 3) (de_int)) (da_nil))) (de_int)) (da_nil)))) (da_nil)))))))))) (dss_one (ds_ret (de_ct (cr_tupK K) cs_tup rfl Z.n_tuple bt_tuple (da_cons (de_p 2) (da_nil))))))⟩
theorem ok__law_played (Z : Fx K mg) : Ok P w K mg base 1 "_law_played" ["numbers", "sides"] .fz Ph__law_played := by
  obtain ⟨fd, F⟩ := Z.f__law_played
  exact ok_fz (P := P) (w := w) (mg := mg) (base := base) (b := b__law_played) (k := 0) (N := N__law_played) F sc__law_played bi__law_played Z.g__law_played (dd__law_played Z)
abbrev N__law_beat : List Str := ["played", "found", "one", "other", "goals", "pair"]
theorem sc__law_beat : FnScope N__law_beat ["played"] (defScope s__law_beat) := ⟨rfl, rfl, rfl, by decide +kernel, rfl, by decide +kernel, by decide +kernel⟩
def L__law_beat_1 : Bd := bSeq (bAsg 5 (fIf (fT (f2 gtD (f2 ixD (vF 4) (cD (.int 0))) (f2 ixD (vF 4) (cD (.int 1))))) (fTup (aCons (vF 2) (aCons (vF 3) (aNil)))) (fTup (aCons (vF 3) (aCons (vF 2) (aNil)))))) (bIf (fAndT (fT (f2 neD (f2 ixD (vF 4) (cD (.int 0))) (f2 ixD (vF 4) (cD (.int 1))))) (fT (f2 notInD (vF 5) (vP 1)))) (bApp 1 (vF 5)) (bNext))
theorem bi__law_beat : ∀ (kV doc pm : Value) (an : Option Addr) (cdv ct : Value) (us : List Value), us.length = (["played"] : List Str).length → bindArgs (PySem.W.fnOf "_law_beat" "_law_beat" (defArgs s__law_beat) (defBody s__law_beat) (defScope s__law_beat) .none kV doc pm an cdv ct) ⟨us, []⟩ = pure ((["played"] : List Str).zip us) :=
  fun _ _ _ _ _ _ us hl => match us, hl with | [_], _ => rfl
def b__law_beat : Bd := bSeq (bOwn 1 (fLst (aNil))) (bSeq (bFor (fI (vF 0)) (sT 3 (sCons (sN 2) (sCons (sN 3) (sCons (sN 4) (sNil))))) (L__law_beat_1)) (bRet (fB sortedD (aCons (vP 1) (aNil)))))
def Ph__law_beat : List D → Option D := fnR (N__law_beat).length (["played"] : List Str).length b__law_beat
theorem dd__law_beat (Z : Fx K mg) (cdv : Value) (A : Around) (outer : List Env) (s : Shared) (H : Hp) (E : XK) (hr : Room (0) (A.deeper (envOfC "_law_beat" (defScope s__law_beat) s.heap.objs.size (He.ga K "_law_beat") cdv))) :
    ∃ W t, DSs (cxOf CX0 P w K mg base N__law_beat "_law_beat" (defScope s__law_beat) (He.ga K "_law_beat") cdv A outer s H E).nox .fr W (defBody s__law_beat) t (b__law_beat) := ⟨_, _,
  dss_cons (ds_own (i := 1) (de_lst (da_nil)) sc__law_beat.nd) (dss_cons (ds_for (di_anyK K (de_v 0)) (dg_tK K (n := 3) (dgs_cons (dg_n sc__law_beat.nd (i := 2)) (dgs_cons (dg_n sc__law_beat.nd (i := 3)) (dgs_cons (dg_n sc__law_beat.nd (i := 4)) (dgs_nil))))) (dss_cons (ds_asg (i := 5) (de_if (dt_cmp (op_gt_K K hr.u64) ops_gt rfl (de_ixK K (de_v 4) (de_int)) (de_ixK K (de_v 4) (de_int))) (de_tup (da_cons (de_v 2) (da_cons (de_v 3) (da_nil)))) (de_tup (da_cons (de_v 3) (da_cons (de_v 2) (da_nil))))) sc__law_beat.nd) (dss_one (ds_if (dt_w (dw_and (dt_cmp (op_neDK K hr.u64) ops_ne rfl (de_ixK K (de_v 4) (de_int)) (de_ixK K (de_v 4) (de_int))) (dw_and1 (dt_cmp (op_notIn_K K hr.u65) ops_notIn rfl (de_v 5) (de_p 1))))) (dss_one (ds_app (j := 1) (de_v 5))) (dss_nil))))) (dss_one (ds_ret (de_cb (cr_srtK K hr.u70) cs_srt rfl Z.n_sorted bt_sorted (da_cons (de_p 1) (da_nil))))))⟩
theorem ok__law_beat (Z : Fx K mg) : Ok P w K mg base 1 "_law_beat" ["played"] .fr Ph__law_beat := by
  obtain ⟨fd, F⟩ := Z.f__law_beat
  exact ok_fr (P := P) (w := w) (mg := mg) (base := base) (b := b__law_beat) (k := 0) (N := N__law_beat) F sc__law_beat bi__law_beat Z.g__law_beat (dd__law_beat Z)
abbrev N__law_cell : List Str := ["script", "spot"]
theorem sc__law_cell : FnScope N__law_cell ["script", "spot"] (defScope s__law_cell) := ⟨rfl, rfl, rfl, by decide +kernel, rfl, by decide +kernel, by decide +kernel⟩
theorem bi__law_cell : ∀ (kV doc pm : Value) (an : Option Addr) (cdv ct : Value) (us : List Value), us.length = (["script", "spot"] : List Str).length → bindArgs (PySem.W.fnOf "_law_cell" "_law_cell" (defArgs s__law_cell) (defBody s__law_cell) (defScope s__law_cell) .none kV doc pm an cdv ct) ⟨us, []⟩ = pure ((["script", "spot"] : List Str).zip us) :=
  fun _ _ _ _ _ _ us hl => match us, hl with | [_, _], _ => rfl
def b__law_cell : Bd := bSeq (bIf (fT (f2 ltD (vF 1) (fB lenD (aCons (vF 0) (aNil))))) (bRet (fB intD (aCons (f2 ixD (vF 0) (vF 1)) (aNil)))) (bNext)) (bRet (cD (.int 0)))
def Ph__law_cell : List D → Option D := fnB (N__law_cell).length (["script", "spot"] : List Str).length b__law_cell
theorem dd__law_cell (Z : Fx K mg) (cdv : Value) (A : Around) (outer : List Env) (s : Shared) (H : Hp) (E : XK) (hr : Room (0) (A.deeper (envOfC "_law_cell" (defScope s__law_cell) s.heap.objs.size (He.ga K "_law_cell") cdv))) :
    ∃ W t, DSs (cxOf CX0 P w K mg base N__law_cell "_law_cell" (defScope s__law_cell) (He.ga K "_law_cell") cdv A outer s H E).nox .fz W (defBody s__law_cell) t (b__law_cell) := ⟨_, _,
  dss_cons (ds_if (dt_cmp (op_lt_K K hr.u64) ops_lt rfl (de_v 1) (de_cb (call_lenK K) cs_len rfl Z.n_len bt_len (da_cons (de_v 0) (da_nil)))) (dss_one (ds_ret (de_ct call_int1 cs_int rfl Z.n_int bt_int (da_cons (de_ixK K (de_v 0) (de_v 1)) (da_nil))))) (dss_nil)) (dss_one (ds_ret (de_int)))⟩
theorem ok__law_cell (Z : Fx K mg) : Ok P w K mg base 1 "_law_cell" ["script", "spot"] .fz Ph__law_cell := by
  obtain ⟨fd, F⟩ := Z.f__law_cell
  exact ok_fz (P := P) (w := w) (mg := mg) (base := base) (b := b__law_cell) (k := 0) (N := N__law_cell) F sc__law_cell bi__law_cell Z.g__law_cell (dd__law_cell Z)
abbrev N__law_numbers : List Str := ["script", "spot", "size", "cell", "numbers", "remains", "k", "spun"]
theorem sc__law_numbers : FnScope N__law_numbers ["script", "spot", "size"] (defScope s__law_numbers) := ⟨rfl, rfl, rfl, by decide +kernel, rfl, by decide +kernel, by decide +kernel⟩
def L__law_numbers_1 : Bd := bIf (fT (f2 geD (vF 3) (f2 powD (cD (.int 10)) (cD (.int 18))))) (bSeq (bApp 4 (f2 modD (fB intD (aCons (vF 5) (aNil))) (f2 powD (cD (.int 10)) (cD (.int 9))))) (bAsg 5 (f2 fdivD (vF 5) (f2 powD (cD (.int 10)) (cD (.int 9)))))) (bSeq (bAsg 7 (f2 modD (fB intD (aCons (f2 addD (f2 addD (f2 mulD (vF 3) (cD (.int 48271))) (f2 mulD (f2 addD (vF 6) (cD (.int 1))) (cD (.int 69621)))) (vF 1)) (aNil))) (cD (.int 2147483647)))) (bApp 4 (f2 modD (f2 modD (fB intD (aCons (f2 addD (f2 mulD (vF 7) (cD (.int 16807))) (f2 mulD (f2 addD (vF 6) (cD (.int 3))) (cD (.int 40692)))) (aNil))) (cD (.int 2147483399))) (f2 powD (cD (.int 10)) (cD (.int 9))))))
theorem bi__law_numbers : ∀ (kV doc pm : Value) (an : Option Addr) (cdv ct : Value) (us : List Value), us.length = (["script", "spot", "size"] : List Str).length → bindArgs (PySem.W.fnOf "_law_numbers" "_law_numbers" (defArgs s__law_numbers) (defBody s__law_numbers) (defScope s__law_numbers) .none kV doc pm an cdv ct) ⟨us, []⟩ = pure ((["script", "spot", "size"] : List Str).zip us) :=
  fun _ _ _ _ _ _ us hl => match us, hl with | [_, _, _], _ => rfl
def b__law_numbers : Bd := bSeq (bAsg 3 (fB (Ph__law_cell) (aCons (vF 0) (aCons (vF 1) (aNil))))) (bSeq (bOwn 4 (fLst (aNil))) (bSeq (bAsg 5 (vF 3)) (bSeq (bFor (fIs rg1D (aCons (vF 2) (aNil))) (sN 6) (L__law_numbers_1)) (bRet (vO 4)))))
def Ph__law_numbers : List D → Option D := fnR (N__law_numbers).length (["script", "spot", "size"] : List Str).length b__law_numbers
theorem dd__law_numbers (Z : Fx K mg) (cdv : Value) (A : Around) (outer : List Env) (s : Shared) (H : Hp) (E : XK) (hr : Room (1) (A.deeper (envOfC "_law_numbers" (defScope s__law_numbers) s.heap.objs.size (He.ga K "_law_numbers") cdv))) :
    ∃ W t, DSs (cxOf CX0 P w K mg base N__law_numbers "_law_numbers" (defScope s__law_numbers) (He.ga K "_law_numbers") cdv A outer s H E).nox .fr W (defBody s__law_numbers) t (b__law_numbers) := ⟨_, _,
  dss_cons (ds_asg (i := 3) (de_fnK K (ok__law_cell Z) hr (by omega) rfl (da_cons (de_v 0) (da_cons (de_v 1) (da_nil)))) sc__law_numbers.nd) (dss_cons (ds_own (i := 4) (de_lst (da_nil)) sc__law_numbers.nd) (dss_cons (ds_asg (i := 5) (de_v 3) sc__law_numbers.nd) (dss_cons (ds_for (di_rg1 rfl Z.n_range (da_cons (de_v 2) (da_nil))) (dg_n sc__law_numbers.nd (i := 6)) (dss_one (ds_if (dt_cmp (op_ge_K K hr.u64) ops_ge rfl (de_v 3) (de_op op_pow ops_pow (de_int) (de_int))) (dss_cons (ds_app (j := 4) (de_op op_modN ops_mod (de_ct call_int1 cs_int rfl Z.n_int bt_int (da_cons (de_v 5) (da_nil))) (de_op op_pow ops_pow (de_int) (de_int)))) (dss_one (ds_asg (i := 5) (de_op op_fdivN ops_fdiv (de_v 5) (de_op op_pow ops_pow (de_int) (de_int))) sc__law_numbers.nd))) (dss_cons (ds_asg (i := 7) (de_op op_modN ops_mod (de_ct call_int1 cs_int rfl Z.n_int bt_int (da_cons (de_op (op_addAK K) ops_addA (de_op (op_addAK K) ops_addA (de_op op_mul ops_mul (de_v 3) (de_int)) (de_op op_mul ops_mul (de_op (op_addAK K) ops_addA (de_v 6) (de_int)) (de_int))) (de_v 1)) (da_nil))) (de_int)) sc__law_numbers.nd) (dss_one (ds_app (j := 4) (de_op op_modN ops_mod (de_op op_modN ops_mod (de_ct call_int1 cs_int rfl Z.n_int bt_int (da_cons (de_op (op_addAK K) ops_addA (de_op op_mul ops_mul (de_v 7) (de_int)) (de_op op_mul ops_mul (de_op (op_addAK K) ops_addA (de_v 6) (de_int)) (de_int))) (da_nil))) (de_int)) (de_op op_pow ops_pow (de_int) (de_int))))))))) (dss_one (ds_retOwn (i := 4))))))⟩
theorem ok__law_numbers (Z : Fx K mg) : Ok P w K mg base 2 "_law_numbers" ["script", "spot", "size"] .fr Ph__law_numbers := by
  obtain ⟨fd, F⟩ := Z.f__law_numbers
  exact ok_fr (P := P) (w := w) (mg := mg) (base := base) (b := b__law_numbers) (k := 1) (N := N__law_numbers) F sc__law_numbers bi__law_numbers Z.g__law_numbers (dd__law_numbers Z)
abbrev N__law_same : List Str := ["one", "other", "k"]
theorem sc__law_same : FnScope N__law_same ["one", "other"] (defScope s__law_same) := ⟨rfl, rfl, rfl, by decide +kernel, rfl, by decide +kernel, by decide +kernel⟩
theorem bi__law_same : ∀ (kV doc pm : Value) (an : Option Addr) (cdv ct : Value) (us : List Value), us.length = (["one", "other"] : List Str).length → bindArgs (PySem.W.fnOf "_law_same" "_law_same" (defArgs s__law_same) (defBody s__law_same) (defScope s__law_same) .none kV doc pm an cdv ct) ⟨us, []⟩ = pure ((["one", "other"] : List Str).zip us) :=
  fun _ _ _ _ _ _ us hl => match us, hl with | [_, _], _ => rfl
def b__law_same (φ : List D → Option D) : Bd := bSeq (bIf (fAndT (fTr (fIsi "tuple" (vF 0))) (fTr (fIsi "tuple" (vF 1)))) (bRet (fAnd (f2 eqD (fB lenD (aCons (vF 0) (aNil))) (fB lenD (aCons (vF 1) (aNil)))) (f2 eqD (fLc (fIs rg1D (aCons (fB lenD (aCons (vF 0) (aNil))) (aNil))) (sN 2) (fNotT (fTr (fB φ (aCons (f2 ixD (vF 0) (vF 2)) (aCons (f2 ixD (vF 1) (vF 2)) (aNil)))))) (vF 2) [2]) (fLst (aNil))))) (bNext)) (bSeq (bIf (fOrT (fT (f2 isND (vF 0) (cD .none))) (fT (f2 isND (vF 1) (cD .none)))) (bRet (fAnd (f2 isND (vF 0) (cD .none)) (f2 isND (vF 1) (cD .none)))) (bNext)) (bSeq (bIf (fOrT (fTr (fIsi "bool" (vF 0))) (fTr (fIsi "bool" (vF 1)))) (bRet (fAnd (fIsi "bool" (vF 0)) (fAnd (fIsi "bool" (vF 1)) (f2 eqD (vF 0) (vF 1))))) (bNext)) (bRet (fAnd (fIsi2 "int" "str" (vF 0)) (fAnd (f2 eqD (fIsi "int" (vF 0)) (fIsi "int" (vF 1))) (f2 eqD (vF 0) (vF 1)))))))
def Ph__law_same : Nat → List D → Option D
  | 0 => fun _ => none
  | n + 1 => fnB (N__law_same).length (["one", "other"] : List Str).length (b__law_same (Ph__law_same n))
theorem dd__law_same (Z : Fx K mg) {φ : List D → Option D} (n : Nat) (ih : Ok P w K mg base (n + 0) "_law_same" ["one", "other"] .fz φ) (cdv : Value) (A : Around) (outer : List Env) (s : Shared) (H : Hp) (E : XK) (hr : Room (n + 0) (A.deeper (envOfC "_law_same" (defScope s__law_same) s.heap.objs.size (He.ga K "_law_same") cdv))) :
    ∃ W t, DSs (cxOf CX0 P w K mg base N__law_same "_law_same" (defScope s__law_same) (He.ga K "_law_same") cdv A outer s H E).nox .fz W (defBody s__law_same) t (b__law_same φ) := ⟨_, _,
  dss_cons (ds_if (dt_w (dw_and (dt_truK K (de_isiK K rfl rfl Z.n_isinstance bt_isinstance rfl Z.n_tuple bt_tuple (de_v 0))) (dw_and1 (dt_truK K (de_isiK K rfl rfl Z.n_isinstance bt_isinstance rfl Z.n_tuple bt_tuple (de_v 1)))))) (dss_one (ds_ret (de_andK K (de_cmp (op_eqDK K hr.u64) ops_eq rfl (de_cb (call_lenK K) cs_len rfl Z.n_len bt_len (da_cons (de_v 0) (da_nil))) (de_cb (call_lenK K) cs_len rfl Z.n_len bt_len (da_cons (de_v 1) (da_nil)))) (de_one (de_cmp (op_eqDK K hr.u64) ops_eq rfl (de_lc [("k", 2)] sc__law_same.nd (di_rg1 rfl Z.n_range (da_cons (de_cb (call_lenK K) cs_len rfl Z.n_len bt_len (da_cons (de_v 0) (da_nil))) (da_nil))) (blk_of (N := N__law_same) (sc := defScope s__law_same) (by decide +kernel)) (fun _ _ _ _ _ => dg_n sc__law_same.nd (i := 2)) (fun _ _ _ _ _ => dts_one (dt_not (dt_truK K (de_fnK K ih hr (by omega) rfl (da_cons (de_ixK K (de_v 0) (de_v 2)) (da_cons (de_ixK K (de_v 1) (de_v 2)) (da_nil))))))) (fun _ _ _ _ _ => de_v 2) (by decide)) (de_lst (da_nil))))))) (dss_nil)) (dss_cons (ds_if (dt_w (dw_or (dt_cmp L2.op_isN ops_isN rfl (de_v 0) (de_non)) (dw_or1 (dt_cmp L2.op_isN ops_isN rfl (de_v 1) (de_non))))) (dss_one (ds_ret (de_andK K (de_cmp L2.op_isN ops_isN rfl (de_v 0) (de_non)) (de_one (de_cmp L2.op_isN ops_isN rfl (de_v 1) (de_non)))))) (dss_nil)) (dss_cons (ds_if (dt_w (dw_or (dt_truK K (de_isiK K rfl rfl Z.n_isinstance bt_isinstance rfl Z.n_bool bt_bool (de_v 0))) (dw_or1 (dt_truK K (de_isiK K rfl rfl Z.n_isinstance bt_isinstance rfl Z.n_bool bt_bool (de_v 1)))))) (dss_one (ds_ret (de_andK K (de_isiK K rfl rfl Z.n_isinstance bt_isinstance rfl Z.n_bool bt_bool (de_v 0)) (de_andK K (de_isiK K rfl rfl Z.n_isinstance bt_isinstance rfl Z.n_bool bt_bool (de_v 1)) (de_one (de_cmp (op_eqDK K hr.u64) ops_eq rfl (de_v 0) (de_v 1))))))) (dss_nil)) (dss_one (ds_ret (de_andK K (de_isi2K K rfl rfl Z.n_isinstance bt_isinstance rfl Z.n_int bt_int rfl Z.n_str bt_str (de_v 0)) (de_andK K (de_cmp (op_eqDK K hr.u64) ops_eq rfl (de_isiK K rfl rfl Z.n_isinstance bt_isinstance rfl Z.n_int bt_int (de_v 0)) (de_isiK K rfl rfl Z.n_isinstance bt_isinstance rfl Z.n_int bt_int (de_v 1))) (de_one (de_cmp (op_eqDK K hr.u64) ops_eq rfl (de_v 0) (de_v 1)))))))))⟩
theorem ok__law_same (Z : Fx K mg) : ∀ n : Nat, Ok P w K mg base (n + 0) "_law_same" ["one", "other"] .fz (Ph__law_same n)
  | 0 => by obtain ⟨fd, F⟩ := Z.f__law_same; exact ok_zero F bi__law_same Z.g__law_same
  | n + 1 => by
    obtain ⟨fd, F⟩ := Z.f__law_same
    have e : n + 1 + 0 = n + 0 + 1 := by omega
    rw [e]
    exact ok_fz (P := P) (w := w) (mg := mg) (base := base) (b := b__law_same (Ph__law_same n)) (k := n + 0) (N := N__law_same) F sc__law_same bi__law_same Z.g__law_same (dd__law_same Z n (ok__law_same Z n))
abbrev N_need : List Str := ["at", "value"]
theorem sc_need : FnScope N_need ["at", "value"] (defScope s_need) := ⟨rfl, rfl, rfl, by decide +kernel, rfl, by decide +kernel, by decide +kernel⟩
theorem bi_need : ∀ (kV doc pm : Value) (an : Option Addr) (cdv ct : Value) (us : List Value), us.length = (["at", "value"] : List Str).length → bindArgs (PySem.W.fnOf "need" "need" (defArgs s_need) (defBody s_need) (defScope s_need) .none kV doc pm an cdv ct) ⟨us, []⟩ = pure ((["at", "value"] : List Str).zip us) :=
  fun _ _ _ _ _ _ us hl => match us, hl with | [_, _], _ => rfl
def b_need : Bd := bSeq (bIf (fT (f2 isND (vF 1) (cD .none))) (bNever) (bNext)) (bRet (vF 1))
def Ph_need : List D → Option D := fnB (N_need).length (["at", "value"] : List Str).length b_need
theorem dd_need (Z : Fx K mg) (cdv : Value) (A : Around) (outer : List Env) (s : Shared) (H : Hp) (E : XK) (hr : Room (0) (A.deeper (envOfC "need" (defScope s_need) s.heap.objs.size (He.ga K "need") cdv))) :
    ∃ W t, DSs (cxOf CX0 P w K mg base N_need "need" (defScope s_need) (He.ga K "need") cdv A outer s H E).nox .fz W (defBody s_need) t (b_need) := ⟨_, _,
  dss_cons (ds_if (dt_cmp L2.op_isN ops_isN rfl (de_v 1) (de_non)) (dss_one (ds_never)) (dss_nil)) (dss_one (ds_ret (de_v 1)))⟩
theorem ok_need (Z : Fx K mg) : Ok P w K mg base 1 "need" ["at", "value"] .fz Ph_need := by
  obtain ⟨fd, F⟩ := Z.f_need
  exact ok_fz (P := P) (w := w) (mg := mg) (base := base) (b := b_need) (k := 0) (N := N_need) F sc_need bi_need Z.g_need (dd_need Z)
abbrev N_is_int : List Str := ["value"]
theorem sc_is_int : FnScope N_is_int ["value"] (defScope s_is_int) := ⟨rfl, rfl, rfl, by decide +kernel, rfl, by decide +kernel, by decide +kernel⟩
theorem bi_is_int : ∀ (kV doc pm : Value) (an : Option Addr) (cdv ct : Value) (us : List Value), us.length = (["value"] : List Str).length → bindArgs (PySem.W.fnOf "is_int" "is_int" (defArgs s_is_int) (defBody s_is_int) (defScope s_is_int) .none kV doc pm an cdv ct) ⟨us, []⟩ = pure ((["value"] : List Str).zip us) :=
  fun _ _ _ _ _ _ us hl => match us, hl with | [_], _ => rfl
def b_is_int : Bd := bRet (fAnd (fIsi "int" (vF 0)) (fNot (fIsi "bool" (vF 0))))
def Ph_is_int : List D → Option D := fnB (N_is_int).length (["value"] : List Str).length b_is_int
theorem dd_is_int (Z : Fx K mg) (cdv : Value) (A : Around) (outer : List Env) (s : Shared) (H : Hp) (E : XK) (hr : Room (0) (A.deeper (envOfC "is_int" (defScope s_is_int) s.heap.objs.size (He.ga K "is_int") cdv))) :
    ∃ W t, DSs (cxOf CX0 P w K mg base N_is_int "is_int" (defScope s_is_int) (He.ga K "is_int") cdv A outer s H E).nox .fz W (defBody s_is_int) t (b_is_int) := ⟨_, _,
  dss_one (ds_ret (de_andK K (de_isiK K rfl rfl Z.n_isinstance bt_isinstance rfl Z.n_int bt_int (de_v 0)) (de_one (de_notK K (de_isiK K rfl rfl Z.n_isinstance bt_isinstance rfl Z.n_bool bt_bool (de_v 0))))))⟩
theorem ok_is_int (Z : Fx K mg) : Ok P w K mg base 1 "is_int" ["value"] .fz Ph_is_int := by
  obtain ⟨fd, F⟩ := Z.f_is_int
  exact ok_fz (P := P) (w := w) (mg := mg) (base := base) (b := b_is_int) (k := 0) (N := N_is_int) F sc_is_int bi_is_int Z.g_is_int (dd_is_int Z)
abbrev N_is_within : List Str := ["value", "low", "high"]
theorem sc_is_within : FnScope N_is_within ["value", "low", "high"] (defScope s_is_within) := ⟨rfl, rfl, rfl, by decide +kernel, rfl, by decide +kernel, by decide +kernel⟩
theorem bi_is_within : ∀ (kV doc pm : Value) (an : Option Addr) (cdv ct : Value) (us : List Value), us.length = (["value", "low", "high"] : List Str).length → bindArgs (PySem.W.fnOf "is_within" "is_within" (defArgs s_is_within) (defBody s_is_within) (defScope s_is_within) .none kV doc pm an cdv ct) ⟨us, []⟩ = pure ((["value", "low", "high"] : List Str).zip us) :=
  fun _ _ _ _ _ _ us hl => match us, hl with | [_, _, _], _ => rfl
def b_is_within : Bd := bRet (fAnd (fB (Ph_is_int) (aCons (vF 0) (aNil))) (f3 leD leD (vF 1) (vF 0) (vF 2)))
def Ph_is_within : List D → Option D := fnB (N_is_within).length (["value", "low", "high"] : List Str).length b_is_within
theorem dd_is_within (Z : Fx K mg) (cdv : Value) (A : Around) (outer : List Env) (s : Shared) (H : Hp) (E : XK) (hr : Room (1) (A.deeper (envOfC "is_within" (defScope s_is_within) s.heap.objs.size (He.ga K "is_within") cdv))) :
    ∃ W t, DSs (cxOf CX0 P w K mg base N_is_within "is_within" (defScope s_is_within) (He.ga K "is_within") cdv A outer s H E).nox .fz W (defBody s_is_within) t (b_is_within) := ⟨_, _,
  dss_one (ds_ret (de_andK K (de_fnK K (ok_is_int Z) hr (by omega) rfl (da_cons (de_v 0) (da_nil))) (de_one (de_chain (op_le_K K hr.u64) (op_le_K K hr.u64) ops_le ops_le (de_v 1) (de_v 0) (de_v 2)))))⟩
theorem ok_is_within (Z : Fx K mg) : Ok P w K mg base 2 "is_within" ["value", "low", "high"] .fz Ph_is_within := by
  obtain ⟨fd, F⟩ := Z.f_is_within
  exact ok_fz (P := P) (w := w) (mg := mg) (base := base) (b := b_is_within) (k := 1) (N := N_is_within) F sc_is_within bi_is_within Z.g_is_within (dd_is_within Z)
abbrev N_to_sides : List Str := ["value"]
theorem sc_to_sides : FnScope N_to_sides ["value"] (defScope s_to_sides) := ⟨rfl, rfl, rfl, by decide +kernel, rfl, by decide +kernel, by decide +kernel⟩
theorem bi_to_sides : ∀ (kV doc pm : Value) (an : Option Addr) (cdv ct : Value) (us : List Value), us.length = (["value"] : List Str).length → bindArgs (PySem.W.fnOf "to_sides" "to_sides" (defArgs s_to_sides) (defBody s_to_sides) (defScope s_to_sides) .none kV doc pm an cdv ct) ⟨us, []⟩ = pure ((["value"] : List Str).zip us) :=
  fun _ _ _ _ _ _ us hl => match us, hl with | [_], _ => rfl
def b_to_sides : Bd := bRet (fIf (fTr (fB (Ph_is_within) (aCons (vF 0) (aCons (cD (.int 2)) (aCons (cD (.int 6)) (aNil)))))) (vF 0) (cD .none))
def Ph_to_sides : List D → Option D := fnB (N_to_sides).length (["value"] : List Str).length b_to_sides
theorem dd_to_sides (Z : Fx K mg) (cdv : Value) (A : Around) (outer : List Env) (s : Shared) (H : Hp) (E : XK) (hr : Room (2) (A.deeper (envOfC "to_sides" (defScope s_to_sides) s.heap.objs.size (He.ga K "to_sides") cdv))) :
    ∃ W t, DSs (cxOf CX0 P w K mg base N_to_sides "to_sides" (defScope s_to_sides) (He.ga K "to_sides") cdv A outer s H E).nox .fz W (defBody s_to_sides) t (b_to_sides) := ⟨_, _,
  dss_one (ds_ret (de_if (dt_truK K (de_fnK K (ok_is_within Z) hr (by omega) rfl (da_cons (de_v 0) (da_cons (de_int) (da_cons (de_int) (da_nil)))))) (de_v 0) (de_non)))⟩
theorem ok_to_sides (Z : Fx K mg) : Ok P w K mg base 3 "to_sides" ["value"] .fz Ph_to_sides := by
  obtain ⟨fd, F⟩ := Z.f_to_sides
  exact ok_fz (P := P) (w := w) (mg := mg) (base := base) (b := b_to_sides) (k := 2) (N := N_to_sides) F sc_to_sides bi_to_sides Z.g_to_sides (dd_to_sides Z)
abbrev N_is_seq : List Str := ["value"]
theorem sc_is_seq : FnScope N_is_seq ["value"] (defScope s_is_seq) := ⟨rfl, rfl, rfl, by decide +kernel, rfl, by decide +kernel, by decide +kernel⟩
theorem bi_is_seq : ∀ (kV doc pm : Value) (an : Option Addr) (cdv ct : Value) (us : List Value), us.length = (["value"] : List Str).length → bindArgs (PySem.W.fnOf "is_seq" "is_seq" (defArgs s_is_seq) (defBody s_is_seq) (defScope s_is_seq) .none kV doc pm an cdv ct) ⟨us, []⟩ = pure ((["value"] : List Str).zip us) :=
  fun _ _ _ _ _ _ us hl => match us, hl with | [_], _ => rfl
def b_is_seq : Bd := bRet (fIsi2 "list" "tuple" (vF 0))
def Ph_is_seq : List D → Option D := fnB (N_is_seq).length (["value"] : List Str).length b_is_seq
theorem dd_is_seq (Z : Fx K mg) (cdv : Value) (A : Around) (outer : List Env) (s : Shared) (H : Hp) (E : XK) (hr : Room (0) (A.deeper (envOfC "is_seq" (defScope s_is_seq) s.heap.objs.size (He.ga K "is_seq") cdv))) :
    ∃ W t, DSs (cxOf CX0 P w K mg base N_is_seq "is_seq" (defScope s_is_seq) (He.ga K "is_seq") cdv A outer s H E).nox .fz W (defBody s_is_seq) t (b_is_seq) := ⟨_, _,
  dss_one (ds_ret (de_isi2K K rfl rfl Z.n_isinstance bt_isinstance rfl Z.n_list bt_list rfl Z.n_tuple bt_tuple (de_v 0)))⟩
theorem ok_is_seq (Z : Fx K mg) : Ok P w K mg base 1 "is_seq" ["value"] .fz Ph_is_seq := by
  obtain ⟨fd, F⟩ := Z.f_is_seq
  exact ok_fz (P := P) (w := w) (mg := mg) (base := base) (b := b_is_seq) (k := 0) (N := N_is_seq) F sc_is_seq bi_is_seq Z.g_is_seq (dd_is_seq Z)
abbrev N_to_row : List Str := ["value", "least", "most"]
theorem sc_to_row : FnScope N_to_row ["value", "least", "most"] (defScope s_to_row) := ⟨rfl, rfl, rfl, by decide +kernel, rfl, by decide +kernel, by decide +kernel⟩
theorem bi_to_row : ∀ (kV doc pm : Value) (an : Option Addr) (cdv ct : Value) (us : List Value), us.length = (["value", "least", "most"] : List Str).length → bindArgs (PySem.W.fnOf "to_row" "to_row" (defArgs s_to_row) (defBody s_to_row) (defScope s_to_row) .none kV doc pm an cdv ct) ⟨us, []⟩ = pure ((["value", "least", "most"] : List Str).zip us) :=
  fun _ _ _ _ _ _ us hl => match us, hl with | [_, _, _], _ => rfl
def b_to_row : Bd := bSeq (bIf (fOrT (fNotT (fTr (fB (Ph_is_seq) (aCons (vF 0) (aNil))))) (fNotT (fT (f3 leD leD (vF 1) (fB lenD (aCons (vF 0) (aNil))) (vF 2))))) (bRet (cD .none)) (bNext)) (bRet (fB tupD (aCons (vF 0) (aNil))))
def Ph_to_row : List D → Option D := fnB (N_to_row).length (["value", "least", "most"] : List Str).length b_to_row
theorem dd_to_row (Z : Fx K mg) (cdv : Value) (A : Around) (outer : List Env) (s : Shared) (H : Hp) (E : XK) (hr : Room (1) (A.deeper (envOfC "to_row" (defScope s_to_row) s.heap.objs.size (He.ga K "to_row") cdv))) :
    ∃ W t, DSs (cxOf CX0 P w K mg base N_to_row "to_row" (defScope s_to_row) (He.ga K "to_row") cdv A outer s H E).nox .fz W (defBody s_to_row) t (b_to_row) := ⟨_, _,
  dss_cons (ds_if (dt_w (dw_or (dt_not (dt_truK K (de_fnK K (ok_is_seq Z) hr (by omega) rfl (da_cons (de_v 0) (da_nil))))) (dw_or1 (dt_not (dt_chain (op_le_K K hr.u64) (op_le_K K hr.u64) ops_le ops_le (de_v 1) (de_cb (call_lenK K) cs_len rfl Z.n_len bt_len (da_cons (de_v 0) (da_nil))) (de_v 2)))))) (dss_one (ds_ret (de_non))) (dss_nil)) (dss_one (ds_ret (de_ct (cr_tupK K) cs_tup rfl Z.n_tuple bt_tuple (da_cons (de_v 0) (da_nil)))))⟩
theorem ok_to_row (Z : Fx K mg) : Ok P w K mg base 2 "to_row" ["value", "least", "most"] .fz Ph_to_row := by
  obtain ⟨fd, F⟩ := Z.f_to_row
  exact ok_fz (P := P) (w := w) (mg := mg) (base := base) (b := b_to_row) (k := 1) (N := N_to_row) F sc_to_row bi_to_row Z.g_to_row (dd_to_row Z)
abbrev N_to_ints : List Str := ["value", "low", "high", "least", "most", "row", "member"]
theorem sc_to_ints : FnScope N_to_ints ["value", "low", "high", "least", "most"] (defScope s_to_ints) := ⟨rfl, rfl, rfl, by decide +kernel, rfl, by decide +kernel, by decide +kernel⟩
theorem bi_to_ints : ∀ (kV doc pm : Value) (an : Option Addr) (cdv ct : Value) (us : List Value), us.length = (["value", "low", "high", "least", "most"] : List Str).length → bindArgs (PySem.W.fnOf "to_ints" "to_ints" (defArgs s_to_ints) (defBody s_to_ints) (defScope s_to_ints) .none kV doc pm an cdv ct) ⟨us, []⟩ = pure ((["value", "low", "high", "least", "most"] : List Str).zip us) :=
  fun _ _ _ _ _ _ us hl => match us, hl with | [_, _, _, _, _], _ => rfl
def b_to_ints : Bd := bSeq (bAsg 5 (fB (Ph_to_row) (aCons (vF 0) (aCons (vF 3) (aCons (vF 4) (aNil)))))) (bSeq (bIf (fOrT (fT (f2 isND (vF 5) (cD .none))) (fNotT (fTr (fB allD (aCons (fLc (fI (vF 5)) (sN 6) (fYes) (fB (Ph_is_within) (aCons (vF 6) (aCons (vF 1) (aCons (vF 2) (aNil))))) [6]) (aNil)))))) (bRet (cD .none)) (bNext)) (bRet (vF 5)))
def Ph_to_ints : List D → Option D := fnB (N_to_ints).length (["value", "low", "high", "least", "most"] : List Str).length b_to_ints
theorem dd_to_ints (Z : Fx K mg) (cdv : Value) (A : Around) (outer : List Env) (s : Shared) (H : Hp) (E : XK) (hr : Room (2) (A.deeper (envOfC "to_ints" (defScope s_to_ints) s.heap.objs.size (He.ga K "to_ints") cdv))) :
    ∃ W t, DSs (cxOf CX0 P w K mg base N_to_ints "to_ints" (defScope s_to_ints) (He.ga K "to_ints") cdv A outer s H E).nox .fz W (defBody s_to_ints) t (b_to_ints) := ⟨_, _,
  dss_cons (ds_asg (i := 5) (de_fnK K (ok_to_row Z) hr (by omega) rfl (da_cons (de_v 0) (da_cons (de_v 3) (da_cons (de_v 4) (da_nil))))) sc_to_ints.nd) (dss_cons (ds_if (dt_w (dw_or (dt_cmp L2.op_isN ops_isN rfl (de_v 5) (de_non)) (dw_or1 (dt_not (dt_truK K (de_cb (cr_allK K rfl) cs_all rfl Z.n_all bt_all (da_cons (de_lc [("member", 6)] sc_to_ints.nd (di_anyK K (de_v 5)) (blk_of (N := N_to_ints) (sc := defScope s_to_ints) (by decide +kernel)) (fun _ _ _ _ _ => dg_n sc_to_ints.nd (i := 6)) (fun _ _ _ _ _ => dts_nil) (fun _ _ _ _ _ => de_fnK K (ok_is_within Z) hr (by omega) rfl (da_cons (de_v 6) (da_cons (de_v 1) (da_cons (de_v 2) (da_nil))))) (by decide)) (da_nil)))))))) (dss_one (ds_ret (de_non))) (dss_nil)) (dss_one (ds_ret (de_v 5))))⟩
theorem ok_to_ints (Z : Fx K mg) : Ok P w K mg base 3 "to_ints" ["value", "low", "high", "least", "most"] .fz Ph_to_ints := by
  obtain ⟨fd, F⟩ := Z.f_to_ints
  exact ok_fz (P := P) (w := w) (mg := mg) (base := base) (b := b_to_ints) (k := 2) (N := N_to_ints) F sc_to_ints bi_to_ints Z.g_to_ints (dd_to_ints Z)
abbrev N_to_int_pair : List Str := ["value", "low", "high"]
theorem sc_to_int_pair : FnScope N_to_int_pair ["value", "low", "high"] (defScope s_to_int_pair) := ⟨rfl, rfl, rfl, by decide +kernel, rfl, by decide +kernel, by decide +kernel⟩
theorem bi_to_int_pair : ∀ (kV doc pm : Value) (an : Option Addr) (cdv ct : Value) (us : List Value), us.length = (["value", "low", "high"] : List Str).length → bindArgs (PySem.W.fnOf "to_int_pair" "to_int_pair" (defArgs s_to_int_pair) (defBody s_to_int_pair) (defScope s_to_int_pair) .none kV doc pm an cdv ct) ⟨us, []⟩ = pure ((["value", "low", "high"] : List Str).zip us) :=
  fun _ _ _ _ _ _ us hl => match us, hl with | [_, _, _], _ => rfl
def b_to_int_pair : Bd := bRet (fB (Ph_to_ints) (aCons (vF 0) (aCons (vF 1) (aCons (vF 2) (aCons (cD (.int 2)) (aCons (cD (.int 2)) (aNil)))))))
def Ph_to_int_pair : List D → Option D := fnB (N_to_int_pair).length (["value", "low", "high"] : List Str).length b_to_int_pair
theorem dd_to_int_pair (Z : Fx K mg) (cdv : Value) (A : Around) (outer : List Env) (s : Shared) (H : Hp) (E : XK) (hr : Room (3) (A.deeper (envOfC "to_int_pair" (defScope s_to_int_pair) s.heap.objs.size (He.ga K "to_int_pair") cdv))) :
    ∃ W t, DSs (cxOf CX0 P w K mg base N_to_int_pair "to_int_pair" (defScope s_to_int_pair) (He.ga K "to_int_pair") cdv A outer s H E).nox .fz W (defBody s_to_int_pair) t (b_to_int_pair) := ⟨_, _,
  dss_one (ds_ret (de_fnK K (ok_to_ints Z) hr (by omega) rfl (da_cons (de_v 0) (da_cons (de_v 1) (da_cons (de_v 2) (da_cons (de_int) (da_cons (de_int) (da_nil))))))))⟩
theorem ok_to_int_pair (Z : Fx K mg) : Ok P w K mg base 4 "to_int_pair" ["value", "low", "high"] .fz Ph_to_int_pair := by
  obtain ⟨fd, F⟩ := Z.f_to_int_pair
  exact ok_fz (P := P) (w := w) (mg := mg) (base := base) (b := b_to_int_pair) (k := 3) (N := N_to_int_pair) F sc_to_int_pair bi_to_int_pair Z.g_to_int_pair (dd_to_int_pair Z)
abbrev N_rank_key : List Str := ["value", "member"]
theorem sc_rank_key : FnScope N_rank_key ["value"] (defScope s_rank_key) := ⟨rfl, rfl, rfl, by decide +kernel, rfl, by decide +kernel, by decide +kernel⟩
theorem bi_rank_key : ∀ (kV doc pm : Value) (an : Option Addr) (cdv ct : Value) (us : List Value), us.length = (["value"] : List Str).length → bindArgs (PySem.W.fnOf "rank_key" "rank_key" (defArgs s_rank_key) (defBody s_rank_key) (defScope s_rank_key) .none kV doc pm an cdv ct) ⟨us, []⟩ = pure ((["value"] : List Str).zip us) :=
  fun _ _ _ _ _ _ us hl => match us, hl with | [_], _ => rfl
def b_rank_key (φ : List D → Option D) : Bd := bSeq (bIf (fT (f2 isND (vF 0) (cD .none))) (bRet (fTup (aCons (cD (.int 0)) (aNil)))) (bNext)) (bSeq (bIf (fTr (fIsi "bool" (vF 0))) (bRet (fTup (aCons (cD (.int 1)) (aCons (fB intD (aCons (vF 0) (aNil))) (aNil))))) (bNext)) (bSeq (bIf (fTr (fIsi "int" (vF 0))) (bRet (fTup (aCons (cD (.int 2)) (aCons (vF 0) (aNil))))) (bNext)) (bSeq (bIf (fTr (fIsi "str" (vF 0))) (bRet (fTup (aCons (cD (.int 3)) (aCons (vF 0) (aNil))))) (bNext)) (bRet (fTupS (aCons (cD (.int 4)) (aStar (fLc (fI (vF 0)) (sN 1) (fYes) (fB φ (aCons (vF 1) (aNil))) [1]) (aNil))))))))
def Ph_rank_key : Nat → List D → Option D
  | 0 => fun _ => none
  | n + 1 => fnB (N_rank_key).length (["value"] : List Str).length (b_rank_key (Ph_rank_key n))
theorem dd_rank_key (Z : Fx K mg) {φ : List D → Option D} (n : Nat) (ih : Ok P w K mg base (n + 0) "rank_key" ["value"] .fz φ) (cdv : Value) (A : Around) (outer : List Env) (s : Shared) (H : Hp) (E : XK) (hr : Room (n + 0) (A.deeper (envOfC "rank_key" (defScope s_rank_key) s.heap.objs.size (He.ga K "rank_key") cdv))) :
    ∃ W t, DSs (cxOf CX0 P w K mg base N_rank_key "rank_key" (defScope s_rank_key) (He.ga K "rank_key") cdv A outer s H E).nox .fz W (defBody s_rank_key) t (b_rank_key φ) := ⟨_, _,
  dss_cons (ds_if (dt_cmp L2.op_isN ops_isN rfl (de_v 0) (de_non)) (dss_one (ds_ret (de_tup (da_cons (de_int) (da_nil))))) (dss_nil)) (dss_cons (ds_if (dt_truK K (de_isiK K rfl rfl Z.n_isinstance bt_isinstance rfl Z.n_bool bt_bool (de_v 0))) (dss_one (ds_ret (de_tup (da_cons (de_int) (da_cons (de_ct call_int1 cs_int rfl Z.n_int bt_int (da_cons (de_v 0) (da_nil))) (da_nil)))))) (dss_nil)) (dss_cons (ds_if (dt_truK K (de_isiK K rfl rfl Z.n_isinstance bt_isinstance rfl Z.n_int bt_int (de_v 0))) (dss_one (ds_ret (de_tup (da_cons (de_int) (da_cons (de_v 0) (da_nil)))))) (dss_nil)) (dss_cons (ds_if (dt_truK K (de_isiK K rfl rfl Z.n_isinstance bt_isinstance rfl Z.n_str bt_str (de_v 0))) (dss_one (ds_ret (de_tup (da_cons (de_int) (da_cons (de_v 0) (da_nil)))))) (dss_nil)) (dss_one (ds_ret (de_tupS (das_cons (de_int) (das_starK K (de_lc [("member", 1)] sc_rank_key.nd (di_anyK K (de_v 0)) (blk_of (N := N_rank_key) (sc := defScope s_rank_key) (by decide +kernel)) (fun _ _ _ _ _ => dg_n sc_rank_key.nd (i := 1)) (fun _ _ _ _ _ => dts_nil) (fun _ _ _ _ _ => de_fnK K ih hr (by omega) rfl (da_cons (de_v 1) (da_nil))) (by decide)) (das_nil)))))))))⟩
theorem ok_rank_key (Z : Fx K mg) : ∀ n : Nat, Ok P w K mg base (n + 0) "rank_key" ["value"] .fz (Ph_rank_key n)
  | 0 => by obtain ⟨fd, F⟩ := Z.f_rank_key; exact ok_zero F bi_rank_key Z.g_rank_key
  | n + 1 => by
    obtain ⟨fd, F⟩ := Z.f_rank_key
    have e : n + 1 + 0 = n + 0 + 1 := by omega
    rw [e]
    exact ok_fz (P := P) (w := w) (mg := mg) (base := base) (b := b_rank_key (Ph_rank_key n)) (k := n + 0) (N := N_rank_key) F sc_rank_key bi_rank_key Z.g_rank_key (dd_rank_key Z n (ok_rank_key Z n))
abbrev N_is_rising : List Str := ["values", "keys", "value", "at"]
theorem sc_is_rising : FnScope N_is_rising ["values"] (defScope s_is_rising) := ⟨rfl, rfl, rfl, by decide +kernel, rfl, by decide +kernel, by decide +kernel⟩
theorem bi_is_rising : ∀ (kV doc pm : Value) (an : Option Addr) (cdv ct : Value) (us : List Value), us.length = (["values"] : List Str).length → bindArgs (PySem.W.fnOf "is_rising" "is_rising" (defArgs s_is_rising) (defBody s_is_rising) (defScope s_is_rising) .none kV doc pm an cdv ct) ⟨us, []⟩ = pure ((["values"] : List Str).zip us) :=
  fun _ _ _ _ _ _ us hl => match us, hl with | [_], _ => rfl
def b_is_rising : Bd := bSeq (bAsg 1 (fLc (fI (vF 0)) (sN 2) (fYes) (fB (Ph_rank_key 4) (aCons (vF 2) (aNil))) [2])) (bRet (fB allD (aCons (fLc (fIs rg1D (aCons (f2 subD (fB lenD (aCons (vF 1) (aNil))) (cD (.int 1))) (aNil))) (sN 3) (fYes) (f2 ltD (f2 ixD (vF 1) (vF 3)) (f2 ixD (vF 1) (f2 addD (vF 3) (cD (.int 1))))) [3]) (aNil))))
def Ph_is_rising : List D → Option D := fnB (N_is_rising).length (["values"] : List Str).length b_is_rising
theorem dd_is_rising (Z : Fx K mg) (cdv : Value) (A : Around) (outer : List Env) (s : Shared) (H : Hp) (E : XK) (hr : Room (4) (A.deeper (envOfC "is_rising" (defScope s_is_rising) s.heap.objs.size (He.ga K "is_rising") cdv))) :
    ∃ W t, DSs (cxOf CX0 P w K mg base N_is_rising "is_rising" (defScope s_is_rising) (He.ga K "is_rising") cdv A outer s H E).nox .fz W (defBody s_is_rising) t (b_is_rising) := ⟨_, _,
  dss_cons (ds_asg (i := 1) (DE.frz (de_lc [("value", 2)] sc_is_rising.nd (di_anyK K (de_v 0)) (blk_of (N := N_is_rising) (sc := defScope s_is_rising) (by decide +kernel)) (fun _ _ _ _ _ => dg_n sc_is_rising.nd (i := 2)) (fun _ _ _ _ _ => dts_nil) (fun _ _ _ _ _ => de_fnK K (ok_rank_key Z 4) hr (by omega) rfl (da_cons (de_v 2) (da_nil))) (by decide))) sc_is_rising.nd) (dss_one (ds_ret (de_cb (cr_allK K rfl) cs_all rfl Z.n_all bt_all (da_cons (de_lc [("at", 3)] sc_is_rising.nd (di_rg1 rfl Z.n_range (da_cons (de_op op_sub ops_sub (de_cb (call_lenK K) cs_len rfl Z.n_len bt_len (da_cons (de_v 1) (da_nil))) (de_int)) (da_nil))) (blk_of (N := N_is_rising) (sc := defScope s_is_rising) (by decide +kernel)) (fun _ _ _ _ _ => dg_n sc_is_rising.nd (i := 3)) (fun _ _ _ _ _ => dts_nil) (fun _ _ _ _ _ => de_cmp (op_lt_K K hr.u64) ops_lt rfl (de_ixK K (de_v 1) (de_v 3)) (de_ixK K (de_v 1) (de_op (op_addAK K) ops_addA (de_v 3) (de_int)))) (by decide)) (da_nil)))))⟩
theorem ok_is_rising (Z : Fx K mg) : Ok P w K mg base 5 "is_rising" ["values"] .fz Ph_is_rising := by
  obtain ⟨fd, F⟩ := Z.f_is_rising
  exact ok_fz (P := P) (w := w) (mg := mg) (base := base) (b := b_is_rising) (k := 4) (N := N_is_rising) F sc_is_rising bi_is_rising Z.g_is_rising (dd_is_rising Z)
abbrev N_to_day : List Str := ["sides", "value", "row", "pairs", "playing", "member", "pair"]
theorem sc_to_day : FnScope N_to_day ["sides", "value"] (defScope s_to_day) := ⟨rfl, rfl, rfl, by decide +kernel, rfl, by decide +kernel, by decide +kernel⟩
def L_to_day_1 : Bd := bSeq (bAsg 6 (fB (Ph_to_int_pair) (aCons (vF 5) (aCons (cD (.int 0)) (aCons (f2 subD (vF 0) (cD (.int 1))) (aNil)))))) (bSeq (bIf (fOrT (fT (f2 isND (vF 6) (cD .none))) (fOrT (fNotT (fT (f2 ltD (f2 ixD (vF 6) (cD (.int 0))) (f2 ixD (vF 6) (cD (.int 1)))))) (fOrT (fT (f2 inD (f2 ixD (vF 6) (cD (.int 0))) (vP 4))) (fT (f2 inD (f2 ixD (vF 6) (cD (.int 1))) (vP 4)))))) (bRet (cD .none)) (bNext)) (bSeq (bApp 3 (vF 6)) (bExtA 4 (vF 6))))
theorem bi_to_day : ∀ (kV doc pm : Value) (an : Option Addr) (cdv ct : Value) (us : List Value), us.length = (["sides", "value"] : List Str).length → bindArgs (PySem.W.fnOf "to_day" "to_day" (defArgs s_to_day) (defBody s_to_day) (defScope s_to_day) .none kV doc pm an cdv ct) ⟨us, []⟩ = pure ((["sides", "value"] : List Str).zip us) :=
  fun _ _ _ _ _ _ us hl => match us, hl with | [_, _], _ => rfl
def b_to_day : Bd := bSeq (bAsg 2 (fB (Ph_to_row) (aCons (vF 1) (aCons (cD (.int 0)) (aCons (cD (.int 3)) (aNil)))))) (bSeq (bIf (fT (f2 isND (vF 2) (cD .none))) (bRet (cD .none)) (bNext)) (bSeq (bOwn 3 (fLst (aNil))) (bSeq (bOwn 4 (fLst (aNil))) (bSeq (bFor (fI (vF 2)) (sN 5) (L_to_day_1)) (bRet (fIf (fTr (fBP .fz (Ph_is_rising) (aCons (vP 3) (aNil)))) (fB tupD (aCons (vP 3) (aNil))) (cD .none)))))))
def Ph_to_day : List D → Option D := fnB (N_to_day).length (["sides", "value"] : List Str).length b_to_day
theorem dd_to_day (Z : Fx K mg) (cdv : Value) (A : Around) (outer : List Env) (s : Shared) (H : Hp) (E : XK) (hr : Room (5) (A.deeper (envOfC "to_day" (defScope s_to_day) s.heap.objs.size (He.ga K "to_day") cdv))) :
    ∃ W t, DSs (cxOf CX0 P w K mg base N_to_day "to_day" (defScope s_to_day) (He.ga K "to_day") cdv A outer s H E).nox .fz W (defBody s_to_day) t (b_to_day) := ⟨_, _,
  dss_cons (ds_asg (i := 2) (de_fnK K (ok_to_row Z) hr (by omega) rfl (da_cons (de_v 1) (da_cons (de_int) (da_cons (de_int) (da_nil))))) sc_to_day.nd) (dss_cons (ds_if (dt_cmp L2.op_isN ops_isN rfl (de_v 2) (de_non)) (dss_one (ds_ret (de_non))) (dss_nil)) (dss_cons (ds_own (i := 3) (de_lst (da_nil)) sc_to_day.nd) (dss_cons (ds_own (i := 4) (de_lst (da_nil)) sc_to_day.nd) (dss_cons (ds_for (di_anyK K (de_v 2)) (dg_n sc_to_day.nd (i := 5)) (dss_cons (ds_asg (i := 6) (de_fnK K (ok_to_int_pair Z) hr (by omega) rfl (da_cons (de_v 5) (da_cons (de_int) (da_cons (de_op op_sub ops_sub (de_v 0) (de_int)) (da_nil))))) sc_to_day.nd) (dss_cons (ds_if (dt_w (dw_or (dt_cmp L2.op_isN ops_isN rfl (de_v 6) (de_non)) (dw_or (dt_not (dt_cmp (op_lt_K K hr.u64) ops_lt rfl (de_ixK K (de_v 6) (de_int)) (de_ixK K (de_v 6) (de_int)))) (dw_or (dt_cmp (op_in_K K hr.u65) ops_in rfl (de_ixK K (de_v 6) (de_int)) (de_p 4)) (dw_or1 (dt_cmp (op_in_K K hr.u65) ops_in rfl (de_ixK K (de_v 6) (de_int)) (de_p 4))))))) (dss_one (ds_ret (de_non))) (dss_nil)) (dss_cons (ds_app (j := 3) (de_v 6)) (dss_one (ds_extA K (j := 4) (de_v 6))))))) (dss_one (ds_ret (de_if (dt_truK K (de_fnPK K (.inl rfl) (ok_is_rising Z) hr (by omega) rfl (da_cons (de_p 3) (da_nil)))) (de_ct (cr_tupK K) cs_tup rfl Z.n_tuple bt_tuple (da_cons (de_p 3) (da_nil))) (de_non))))))))⟩
theorem ok_to_day (Z : Fx K mg) : Ok P w K mg base 6 "to_day" ["sides", "value"] .fz Ph_to_day := by
  obtain ⟨fd, F⟩ := Z.f_to_day
  exact ok_fz (P := P) (w := w) (mg := mg) (base := base) (b := b_to_day) (k := 5) (N := N_to_day) F sc_to_day bi_to_day Z.g_to_day (dd_to_day Z)
abbrev N_to_plan : List Str := ["sides", "value", "days", "met", "member", "day", "pair"]
theorem sc_to_plan : FnScope N_to_plan ["sides", "value"] (defScope s_to_plan) := ⟨rfl, rfl, rfl, by decide +kernel, rfl, by decide +kernel, by decide +kernel⟩
def L_to_plan_1 : Bd := bSeq (bAsg 5 (fB (Ph_to_day) (aCons (vF 0) (aCons (vF 4) (aNil))))) (bSeq (bIf (fOrT (fT (f2 isND (vF 5) (cD .none))) (fTr (fB anyD (aCons (fLc (fI (vF 5)) (sN 6) (fYes) (f2 inD (vF 6) (vP 3)) [6]) (aNil))))) (bRet (cD .none)) (bNext)) (bSeq (bApp 2 (vF 5)) (bExtA 3 (vF 5))))
theorem bi_to_plan : ∀ (kV doc pm : Value) (an : Option Addr) (cdv ct : Value) (us : List Value), us.length = (["sides", "value"] : List Str).length → bindArgs (PySem.W.fnOf "to_plan" "to_plan" (defArgs s_to_plan) (defBody s_to_plan) (defScope s_to_plan) .none kV doc pm an cdv ct) ⟨us, []⟩ = pure ((["sides", "value"] : List Str).zip us) :=
  fun _ _ _ _ _ _ us hl => match us, hl with | [_, _], _ => rfl
def b_to_plan : Bd := bSeq (bIf (fNotT (fTr (fB (Ph_is_seq) (aCons (vF 1) (aNil))))) (bRet (cD .none)) (bNext)) (bSeq (bOwn 2 (fLst (aNil))) (bSeq (bOwn 3 (fLst (aNil))) (bSeq (bFor (fI (vF 1)) (sN 4) (L_to_plan_1)) (bRet (fIf (fT (f2 eqD (fB lenD (aCons (vP 3) (aNil))) (f2 fdivD (f2 mulD (vF 0) (f2 subD (vF 0) (cD (.int 1)))) (cD (.int 2))))) (fB tupD (aCons (vP 2) (aNil))) (cD .none))))))
def Ph_to_plan : List D → Option D := fnB (N_to_plan).length (["sides", "value"] : List Str).length b_to_plan
theorem dd_to_plan (Z : Fx K mg) (cdv : Value) (A : Around) (outer : List Env) (s : Shared) (H : Hp) (E : XK) (hr : Room (6) (A.deeper (envOfC "to_plan" (defScope s_to_plan) s.heap.objs.size (He.ga K "to_plan") cdv))) :
    ∃ W t, DSs (cxOf CX0 P w K mg base N_to_plan "to_plan" (defScope s_to_plan) (He.ga K "to_plan") cdv A outer s H E).nox .fz W (defBody s_to_plan) t (b_to_plan) := ⟨_, _,
  dss_cons (ds_if (dt_not (dt_truK K (de_fnK K (ok_is_seq Z) hr (by omega) rfl (da_cons (de_v 1) (da_nil))))) (dss_one (ds_ret (de_non))) (dss_nil)) (dss_cons (ds_own (i := 2) (de_lst (da_nil)) sc_to_plan.nd) (dss_cons (ds_own (i := 3) (de_lst (da_nil)) sc_to_plan.nd) (dss_cons (ds_for (di_anyK K (de_v 1)) (dg_n sc_to_plan.nd (i := 4)) (dss_cons (ds_asg (i := 5) (de_fnK K (ok_to_day Z) hr (by omega) rfl (da_cons (de_v 0) (da_cons (de_v 4) (da_nil)))) sc_to_plan.nd) (dss_cons (ds_if (dt_w (dw_or (dt_cmp L2.op_isN ops_isN rfl (de_v 5) (de_non)) (dw_or1 (dt_truK K (de_cb (cr_anyK K rfl) cs_any rfl Z.n_any bt_any (da_cons (de_lc [("pair", 6)] sc_to_plan.nd (di_anyK K (de_v 5)) (blk_of (N := N_to_plan) (sc := defScope s_to_plan) (by decide +kernel)) (fun _ _ _ _ _ => dg_n sc_to_plan.nd (i := 6)) (fun _ _ _ _ _ => dts_nil) (fun _ _ _ _ _ => de_cmp (op_in_K K hr.u65) ops_in rfl (de_v 6) (de_p 3)) (by decide)) (da_nil))))))) (dss_one (ds_ret (de_non))) (dss_nil)) (dss_cons (ds_app (j := 2) (de_v 5)) (dss_one (ds_extA K (j := 3) (de_v 5))))))) (dss_one (ds_ret (de_if (dt_cmp (op_eqDK K hr.u64) ops_eq rfl (de_cb (call_lenK K) cs_len rfl Z.n_len bt_len (da_cons (de_p 3) (da_nil))) (de_op op_fdivN ops_fdiv (de_op op_mul ops_mul (de_v 0) (de_op op_sub ops_sub (de_v 0) (de_int))) (de_int))) (de_ct (cr_tupK K) cs_tup rfl Z.n_tuple bt_tuple (da_cons (de_p 2) (da_nil))) (de_non)))))))⟩
theorem ok_to_plan (Z : Fx K mg) : Ok P w K mg base 7 "to_plan" ["sides", "value"] .fz Ph_to_plan := by
  obtain ⟨fd, F⟩ := Z.f_to_plan
  exact ok_fz (P := P) (w := w) (mg := mg) (base := base) (b := b_to_plan) (k := 6) (N := N_to_plan) F sc_to_plan bi_to_plan Z.g_to_plan (dd_to_plan Z)
abbrev N_is_plan : List Str := ["sides", "value"]
theorem sc_is_plan : FnScope N_is_plan ["sides", "value"] (defScope s_is_plan) := ⟨rfl, rfl, rfl, by decide +kernel, rfl, by decide +kernel, by decide +kernel⟩
theorem bi_is_plan : ∀ (kV doc pm : Value) (an : Option Addr) (cdv ct : Value) (us : List Value), us.length = (["sides", "value"] : List Str).length → bindArgs (PySem.W.fnOf "is_plan" "is_plan" (defArgs s_is_plan) (defBody s_is_plan) (defScope s_is_plan) .none kV doc pm an cdv ct) ⟨us, []⟩ = pure ((["sides", "value"] : List Str).zip us) :=
  fun _ _ _ _ _ _ us hl => match us, hl with | [_, _], _ => rfl
def b_is_plan : Bd := bSeq (bAsg 0 (fB (Ph_need) (aCons (cD (.int 1)) (aCons (fB (Ph_to_sides) (aCons (vF 0) (aNil))) (aNil))))) (bRet (f2 notND (fB (Ph_to_plan) (aCons (vF 0) (aCons (vF 1) (aNil)))) (cD .none)))
def Ph_is_plan : List D → Option D := fnB (N_is_plan).length (["sides", "value"] : List Str).length b_is_plan
theorem dd_is_plan (Z : Fx K mg) (cdv : Value) (A : Around) (outer : List Env) (s : Shared) (H : Hp) (E : XK) (hr : Room (7) (A.deeper (envOfC "is_plan" (defScope s_is_plan) s.heap.objs.size (He.ga K "is_plan") cdv))) :
    ∃ W t, DSs (cxOf CX0 P w K mg base N_is_plan "is_plan" (defScope s_is_plan) (He.ga K "is_plan") cdv A outer s H E).nox .fz W (defBody s_is_plan) t (b_is_plan) := ⟨_, _,
  dss_cons (ds_asg (i := 0) (de_fnK K (ok_need Z) hr (by omega) rfl (da_cons (de_int) (da_cons (de_fnK K (ok_to_sides Z) hr (by omega) rfl (da_cons (de_v 0) (da_nil))) (da_nil)))) sc_is_plan.nd) (dss_one (ds_ret (de_cmp L2.op_notN ops_notN rfl (de_fnK K (ok_to_plan Z) hr (by omega) rfl (da_cons (de_v 0) (da_cons (de_v 1) (da_nil)))) (de_non))))⟩
theorem ok_is_plan (Z : Fx K mg) : Ok P w K mg base 8 "is_plan" ["sides", "value"] .fz Ph_is_plan := by
  obtain ⟨fd, F⟩ := Z.f_is_plan
  exact ok_fz (P := P) (w := w) (mg := mg) (base := base) (b := b_is_plan) (k := 7) (N := N_is_plan) F sc_is_plan bi_is_plan Z.g_is_plan (dd_is_plan Z)
abbrev N_fewest_days : List Str := ["sides"]
theorem sc_fewest_days : FnScope N_fewest_days ["sides"] (defScope s_fewest_days) := ⟨rfl, rfl, rfl, by decide +kernel, rfl, by decide +kernel, by decide +kernel⟩
theorem bi_fewest_days : ∀ (kV doc pm : Value) (an : Option Addr) (cdv ct : Value) (us : List Value), us.length = (["sides"] : List Str).length → bindArgs (PySem.W.fnOf "fewest_days" "fewest_days" (defArgs s_fewest_days) (defBody s_fewest_days) (defScope s_fewest_days) .none kV doc pm an cdv ct) ⟨us, []⟩ = pure ((["sides"] : List Str).zip us) :=
  fun _ _ _ _ _ _ us hl => match us, hl with | [_], _ => rfl
def b_fewest_days : Bd := bSeq (bAsg 0 (fB (Ph_need) (aCons (cD (.int 1)) (aCons (fB (Ph_to_sides) (aCons (vF 0) (aNil))) (aNil))))) (bRet (f2 addD (f2 subD (vF 0) (cD (.int 1))) (f2 modD (vF 0) (cD (.int 2)))))
def Ph_fewest_days : List D → Option D := fnB (N_fewest_days).length (["sides"] : List Str).length b_fewest_days
theorem dd_fewest_days (Z : Fx K mg) (cdv : Value) (A : Around) (outer : List Env) (s : Shared) (H : Hp) (E : XK) (hr : Room (3) (A.deeper (envOfC "fewest_days" (defScope s_fewest_days) s.heap.objs.size (He.ga K "fewest_days") cdv))) :
    ∃ W t, DSs (cxOf CX0 P w K mg base N_fewest_days "fewest_days" (defScope s_fewest_days) (He.ga K "fewest_days") cdv A outer s H E).nox .fz W (defBody s_fewest_days) t (b_fewest_days) := ⟨_, _,
  dss_cons (ds_asg (i := 0) (de_fnK K (ok_need Z) hr (by omega) rfl (da_cons (de_int) (da_cons (de_fnK K (ok_to_sides Z) hr (by omega) rfl (da_cons (de_v 0) (da_nil))) (da_nil)))) sc_fewest_days.nd) (dss_one (ds_ret (de_op (op_addAK K) ops_addA (de_op op_sub ops_sub (de_v 0) (de_int)) (de_op op_modN ops_mod (de_v 0) (de_int)))))⟩
theorem ok_fewest_days (Z : Fx K mg) : Ok P w K mg base 4 "fewest_days" ["sides"] .fz Ph_fewest_days := by
  obtain ⟨fd, F⟩ := Z.f_fewest_days
  exact ok_fz (P := P) (w := w) (mg := mg) (base := base) (b := b_fewest_days) (k := 3) (N := N_fewest_days) F sc_fewest_days bi_fewest_days Z.g_fewest_days (dd_fewest_days Z)
abbrev N_wins_of : List Str := ["played", "pairs", "one", "other", "goals"]
theorem sc_wins_of : FnScope N_wins_of ["played"] (defScope s_wins_of) := ⟨rfl, rfl, rfl, by decide +kernel, rfl, by decide +kernel, by decide +kernel⟩
def L_wins_of_1 : Bd := bIf (fT (f2 gtD (f2 ixD (vF 4) (cD (.int 0))) (f2 ixD (vF 4) (cD (.int 1))))) (bApp 1 (fTup (aCons (vF 2) (aCons (vF 3) (aNil))))) (bIf (fT (f2 ltD (f2 ixD (vF 4) (cD (.int 0))) (f2 ixD (vF 4) (cD (.int 1))))) (bApp 1 (fTup (aCons (vF 3) (aCons (vF 2) (aNil))))) (bNext))
theorem bi_wins_of : ∀ (kV doc pm : Value) (an : Option Addr) (cdv ct : Value) (us : List Value), us.length = (["played"] : List Str).length → bindArgs (PySem.W.fnOf "wins_of" "wins_of" (defArgs s_wins_of) (defBody s_wins_of) (defScope s_wins_of) .none kV doc pm an cdv ct) ⟨us, []⟩ = pure ((["played"] : List Str).zip us) :=
  fun _ _ _ _ _ _ us hl => match us, hl with | [_], _ => rfl
def b_wins_of : Bd := bSeq (bOwn 1 (fLst (aNil))) (bSeq (bFor (fI (vF 0)) (sT 3 (sCons (sN 2) (sCons (sN 3) (sCons (sN 4) (sNil))))) (L_wins_of_1)) (bRet (fB tupD (aCons (f1 srtSetD (vP 1)) (aNil)))))
def Ph_wins_of : List D → Option D := fnB (N_wins_of).length (["played"] : List Str).length b_wins_of
theorem dd_wins_of (Z : Fx K mg) (cdv : Value) (A : Around) (outer : List Env) (s : Shared) (H : Hp) (E : XK) (hr : Room (0) (A.deeper (envOfC "wins_of" (defScope s_wins_of) s.heap.objs.size (He.ga K "wins_of") cdv))) :
    ∃ W t, DSs (cxOf CX0 P w K mg base N_wins_of "wins_of" (defScope s_wins_of) (He.ga K "wins_of") cdv A outer s H E).nox .fz W (defBody s_wins_of) t (b_wins_of) := ⟨_, _,
  dss_cons (ds_own (i := 1) (de_lst (da_nil)) sc_wins_of.nd) (dss_cons (ds_for (di_anyK K (de_v 0)) (dg_tK K (n := 3) (dgs_cons (dg_n sc_wins_of.nd (i := 2)) (dgs_cons (dg_n sc_wins_of.nd (i := 3)) (dgs_cons (dg_n sc_wins_of.nd (i := 4)) (dgs_nil))))) (dss_one (ds_if (dt_cmp (op_gt_K K hr.u64) ops_gt rfl (de_ixK K (de_v 4) (de_int)) (de_ixK K (de_v 4) (de_int))) (dss_one (ds_app (j := 1) (de_tup (da_cons (de_v 2) (da_cons (de_v 3) (da_nil)))))) (dss_one (ds_if (dt_cmp (op_lt_K K hr.u64) ops_lt rfl (de_ixK K (de_v 4) (de_int)) (de_ixK K (de_v 4) (de_int))) (dss_one (ds_app (j := 1) (de_tup (da_cons (de_v 3) (da_cons (de_v 2) (da_nil)))))) (dss_nil)))))) (dss_one (ds_ret (de_ct (cr_tupK K) cs_tup rfl Z.n_tuple bt_tuple (da_cons (de_srtSet rfl Z.n_sorted rfl Z.n_set hr.u64 (de_p 1)) (da_nil))))))⟩
theorem ok_wins_of (Z : Fx K mg) : Ok P w K mg base 1 "wins_of" ["played"] .fz Ph_wins_of := by
  obtain ⟨fd, F⟩ := Z.f_wins_of
  exact ok_fz (P := P) (w := w) (mg := mg) (base := base) (b := b_wins_of) (k := 0) (N := N_wins_of) F sc_wins_of bi_wins_of Z.g_wins_of (dd_wins_of Z)
abbrev N_is_match : List Str := ["sides", "one", "other"]
theorem sc_is_match : FnScope N_is_match ["sides", "one", "other"] (defScope s_is_match) := ⟨rfl, rfl, rfl, by decide +kernel, rfl, by decide +kernel, by decide +kernel⟩
theorem bi_is_match : ∀ (kV doc pm : Value) (an : Option Addr) (cdv ct : Value) (us : List Value), us.length = (["sides", "one", "other"] : List Str).length → bindArgs (PySem.W.fnOf "is_match" "is_match" (defArgs s_is_match) (defBody s_is_match) (defScope s_is_match) .none kV doc pm an cdv ct) ⟨us, []⟩ = pure ((["sides", "one", "other"] : List Str).zip us) :=
  fun _ _ _ _ _ _ us hl => match us, hl with | [_, _, _], _ => rfl
def b_is_match : Bd := bRet (fAnd (fB (Ph_is_within) (aCons (vF 1) (aCons (cD (.int 0)) (aCons (f2 subD (vF 0) (cD (.int 1))) (aNil))))) (fAnd (fB (Ph_is_within) (aCons (vF 2) (aCons (cD (.int 0)) (aCons (f2 subD (vF 0) (cD (.int 1))) (aNil))))) (f2 ltD (vF 1) (vF 2))))
def Ph_is_match : List D → Option D := fnB (N_is_match).length (["sides", "one", "other"] : List Str).length b_is_match
theorem dd_is_match (Z : Fx K mg) (cdv : Value) (A : Around) (outer : List Env) (s : Shared) (H : Hp) (E : XK) (hr : Room (2) (A.deeper (envOfC "is_match" (defScope s_is_match) s.heap.objs.size (He.ga K "is_match") cdv))) :
    ∃ W t, DSs (cxOf CX0 P w K mg base N_is_match "is_match" (defScope s_is_match) (He.ga K "is_match") cdv A outer s H E).nox .fz W (defBody s_is_match) t (b_is_match) := ⟨_, _,
  dss_one (ds_ret (de_andK K (de_fnK K (ok_is_within Z) hr (by omega) rfl (da_cons (de_v 1) (da_cons (de_int) (da_cons (de_op op_sub ops_sub (de_v 0) (de_int)) (da_nil))))) (de_andK K (de_fnK K (ok_is_within Z) hr (by omega) rfl (da_cons (de_v 2) (da_cons (de_int) (da_cons (de_op op_sub ops_sub (de_v 0) (de_int)) (da_nil))))) (de_one (de_cmp (op_lt_K K hr.u64) ops_lt rfl (de_v 1) (de_v 2))))))⟩
theorem ok_is_match (Z : Fx K mg) : Ok P w K mg base 3 "is_match" ["sides", "one", "other"] .fz Ph_is_match := by
  obtain ⟨fd, F⟩ := Z.f_is_match
  exact ok_fz (P := P) (w := w) (mg := mg) (base := base) (b := b_is_match) (k := 2) (N := N_is_match) F sc_is_match bi_is_match Z.g_is_match (dd_is_match Z)
abbrev N_to_played : List Str := ["sides", "value", "row", "games", "member", "game", "goals"]
theorem sc_to_played : FnScope N_to_played ["sides", "value"] (defScope s_to_played) := ⟨rfl, rfl, rfl, by decide +kernel, rfl, by decide +kernel, by decide +kernel⟩
def L_to_played_1 : Bd := bSeq (bAsg 5 (fB (Ph_to_row) (aCons (vF 4) (aCons (cD (.int 3)) (aCons (cD (.int 3)) (aNil)))))) (bSeq (bIf (fOrT (fT (f2 isND (vF 5) (cD .none))) (fNotT (fTr (fB (Ph_is_match) (aCons (vF 0) (aCons (f2 ixD (vF 5) (cD (.int 0))) (aCons (f2 ixD (vF 5) (cD (.int 1))) (aNil)))))))) (bRet (cD .none)) (bNext)) (bSeq (bAsg 6 (fB (Ph_to_int_pair) (aCons (f2 ixD (vF 5) (cD (.int 2))) (aCons (cD (.int 0)) (aCons (cD (.int 20)) (aNil)))))) (bSeq (bIf (fT (f2 isND (vF 6) (cD .none))) (bRet (cD .none)) (bNext)) (bApp 3 (fTup (aCons (f2 ixD (vF 5) (cD (.int 0))) (aCons (f2 ixD (vF 5) (cD (.int 1))) (aCons (vF 6) (aNil)))))))))
theorem bi_to_played : ∀ (kV doc pm : Value) (an : Option Addr) (cdv ct : Value) (us : List Value), us.length = (["sides", "value"] : List Str).length → bindArgs (PySem.W.fnOf "to_played" "to_played" (defArgs s_to_played) (defBody s_to_played) (defScope s_to_played) .none kV doc pm an cdv ct) ⟨us, []⟩ = pure ((["sides", "value"] : List Str).zip us) :=
  fun _ _ _ _ _ _ us hl => match us, hl with | [_, _], _ => rfl
def b_to_played : Bd := bSeq (bAsg 2 (fB (Ph_to_row) (aCons (vF 1) (aCons (cD (.int 0)) (aCons (cD (.int 30)) (aNil)))))) (bSeq (bIf (fT (f2 isND (vF 2) (cD .none))) (bRet (cD .none)) (bNext)) (bSeq (bOwn 3 (fLst (aNil))) (bSeq (bFor (fI (vF 2)) (sN 4) (L_to_played_1)) (bRet (fB tupD (aCons (vP 3) (aNil)))))))
def Ph_to_played : List D → Option D := fnB (N_to_played).length (["sides", "value"] : List Str).length b_to_played
theorem dd_to_played (Z : Fx K mg) (cdv : Value) (A : Around) (outer : List Env) (s : Shared) (H : Hp) (E : XK) (hr : Room (4) (A.deeper (envOfC "to_played" (defScope s_to_played) s.heap.objs.size (He.ga K "to_played") cdv))) :
    ∃ W t, DSs (cxOf CX0 P w K mg base N_to_played "to_played" (defScope s_to_played) (He.ga K "to_played") cdv A outer s H E).nox .fz W (defBody s_to_played) t (b_to_played) := ⟨_, _,
  dss_cons (ds_asg (i := 2) (de_fnK K (ok_to_row Z) hr (by omega) rfl (da_cons (de_v 1) (da_cons (de_int) (da_cons (de_int) (da_nil))))) sc_to_played.nd) (dss_cons (ds_if (dt_cmp L2.op_isN ops_isN rfl (de_v 2) (de_non)) (dss_one (ds_ret (de_non))) (dss_nil)) (dss_cons (ds_own (i := 3) (de_lst (da_nil)) sc_to_played.nd) (dss_cons (ds_for (di_anyK K (de_v 2)) (dg_n sc_to_played.nd (i := 4)) (dss_cons (ds_asg (i := 5) (de_fnK K (ok_to_row Z) hr (by omega) rfl (da_cons (de_v 4) (da_cons (de_int) (da_cons (de_int) (da_nil))))) sc_to_played.nd) (dss_cons (ds_if (dt_w (dw_or (dt_cmp L2.op_isN ops_isN rfl (de_v 5) (de_non)) (dw_or1 (dt_not (dt_truK K (de_fnK K (ok_is_match Z) hr (by omega) rfl (da_cons (de_v 0) (da_cons (de_ixK K (de_v 5) (de_int)) (da_cons (de_ixK K (de_v 5) (de_int)) (da_nil)))))))))) (dss_one (ds_ret (de_non))) (dss_nil)) (dss_cons (ds_asg (i := 6) (de_fnK K (ok_to_int_pair Z) hr (by omega) rfl (da_cons (de_ixK K (de_v 5) (de_int)) (da_cons (de_int) (da_cons (de_int) (da_nil))))) sc_to_played.nd) (dss_cons (ds_if (dt_cmp L2.op_isN ops_isN rfl (de_v 6) (de_non)) (dss_one (ds_ret (de_non))) (dss_nil)) (dss_one (ds_app (j := 3) (de_tup (da_cons (de_ixK K (de_v 5) (de_int)) (da_cons (de_ixK K (de_v 5) (de_int)) (da_cons (de_v 6) (da_nil)))))))))))) (dss_one (ds_ret (de_ct (cr_tupK K) cs_tup rfl Z.n_tuple bt_tuple (da_cons (de_p 3) (da_nil))))))))⟩
theorem ok_to_played (Z : Fx K mg) : Ok P w K mg base 5 "to_played" ["sides", "value"] .fz Ph_to_played := by
  obtain ⟨fd, F⟩ := Z.f_to_played
  exact ok_fz (P := P) (w := w) (mg := mg) (base := base) (b := b_to_played) (k := 4) (N := N_to_played) F sc_to_played bi_to_played Z.g_to_played (dd_to_played Z)
abbrev N_beat : List Str := ["sides", "played"]
theorem sc_beat : FnScope N_beat ["sides", "played"] (defScope s_beat) := ⟨rfl, rfl, rfl, by decide +kernel, rfl, by decide +kernel, by decide +kernel⟩
theorem bi_beat : ∀ (kV doc pm : Value) (an : Option Addr) (cdv ct : Value) (us : List Value), us.length = (["sides", "played"] : List Str).length → bindArgs (PySem.W.fnOf "beat" "beat" (defArgs s_beat) (defBody s_beat) (defScope s_beat) .none kV doc pm an cdv ct) ⟨us, []⟩ = pure ((["sides", "played"] : List Str).zip us) :=
  fun _ _ _ _ _ _ us hl => match us, hl with | [_, _], _ => rfl
def b_beat : Bd := bSeq (bAsg 0 (fB (Ph_need) (aCons (cD (.int 1)) (aCons (fB (Ph_to_sides) (aCons (vF 0) (aNil))) (aNil))))) (bSeq (bAsg 1 (fB (Ph_need) (aCons (cD (.int 2)) (aCons (fB (Ph_to_played) (aCons (vF 0) (aCons (vF 1) (aNil)))) (aNil))))) (bRet (fB (Ph_wins_of) (aCons (vF 1) (aNil)))))
def Ph_beat : List D → Option D := fnB (N_beat).length (["sides", "played"] : List Str).length b_beat
theorem dd_beat (Z : Fx K mg) (cdv : Value) (A : Around) (outer : List Env) (s : Shared) (H : Hp) (E : XK) (hr : Room (5) (A.deeper (envOfC "beat" (defScope s_beat) s.heap.objs.size (He.ga K "beat") cdv))) :
    ∃ W t, DSs (cxOf CX0 P w K mg base N_beat "beat" (defScope s_beat) (He.ga K "beat") cdv A outer s H E).nox .fz W (defBody s_beat) t (b_beat) := ⟨_, _,
  dss_cons (ds_asg (i := 0) (de_fnK K (ok_need Z) hr (by omega) rfl (da_cons (de_int) (da_cons (de_fnK K (ok_to_sides Z) hr (by omega) rfl (da_cons (de_v 0) (da_nil))) (da_nil)))) sc_beat.nd) (dss_cons (ds_asg (i := 1) (de_fnK K (ok_need Z) hr (by omega) rfl (da_cons (de_int) (da_cons (de_fnK K (ok_to_played Z) hr (by omega) rfl (da_cons (de_v 0) (da_cons (de_v 1) (da_nil)))) (da_nil)))) sc_beat.nd) (dss_one (ds_ret (de_fnK K (ok_wins_of Z) hr (by omega) rfl (da_cons (de_v 1) (da_nil))))))⟩
theorem ok_beat (Z : Fx K mg) : Ok P w K mg base 6 "beat" ["sides", "played"] .fz Ph_beat := by
  obtain ⟨fd, F⟩ := Z.f_beat
  exact ok_fz (P := P) (w := w) (mg := mg) (base := base) (b := b_beat) (k := 5) (N := N_beat) F sc_beat bi_beat Z.g_beat (dd_beat Z)
abbrev N_rules_over : List Str := ["sides", "wins", "side", "other", "between"]
theorem sc_rules_over : FnScope N_rules_over ["sides", "wins", "side", "other"] (defScope s_rules_over) := ⟨rfl, rfl, rfl, by decide +kernel, rfl, by decide +kernel, by decide +kernel⟩
theorem bi_rules_over : ∀ (kV doc pm : Value) (an : Option Addr) (cdv ct : Value) (us : List Value), us.length = (["sides", "wins", "side", "other"] : List Str).length → bindArgs (PySem.W.fnOf "rules_over" "rules_over" (defArgs s_rules_over) (defBody s_rules_over) (defScope s_rules_over) .none kV doc pm an cdv ct) ⟨us, []⟩ = pure ((["sides", "wins", "side", "other"] : List Str).zip us) :=
  fun _ _ _ _ _ _ us hl => match us, hl with | [_, _, _, _], _ => rfl
def b_rules_over : Bd := bSeq (bIf (fT (f2 inD (fTup (aCons (vF 2) (aCons (vF 3) (aNil)))) (vF 1))) (bRet (cD (.bool true))) (bNext)) (bRet (fB anyD (aCons (fLc (fIs rg1D (aCons (vF 0) (aNil))) (sN 4) (fYes) (fAnd (f2 inD (fTup (aCons (vF 2) (aCons (vF 4) (aNil)))) (vF 1)) (f2 inD (fTup (aCons (vF 4) (aCons (vF 3) (aNil)))) (vF 1))) [4]) (aNil))))
def Ph_rules_over : List D → Option D := fnB (N_rules_over).length (["sides", "wins", "side", "other"] : List Str).length b_rules_over
theorem dd_rules_over (Z : Fx K mg) (cdv : Value) (A : Around) (outer : List Env) (s : Shared) (H : Hp) (E : XK) (hr : Room (0) (A.deeper (envOfC "rules_over" (defScope s_rules_over) s.heap.objs.size (He.ga K "rules_over") cdv))) :
    ∃ W t, DSs (cxOf CX0 P w K mg base N_rules_over "rules_over" (defScope s_rules_over) (He.ga K "rules_over") cdv A outer s H E).nox .fz W (defBody s_rules_over) t (b_rules_over) := ⟨_, _,
  dss_cons (ds_if (dt_cmp (op_in_K K hr.u65) ops_in rfl (de_tup (da_cons (de_v 2) (da_cons (de_v 3) (da_nil)))) (de_v 1)) (dss_one (ds_ret (de_bl))) (dss_nil)) (dss_one (ds_ret (de_cb (cr_anyK K rfl) cs_any rfl Z.n_any bt_any (da_cons (de_lc [("between", 4)] sc_rules_over.nd (di_rg1 rfl Z.n_range (da_cons (de_v 0) (da_nil))) (blk_of (N := N_rules_over) (sc := defScope s_rules_over) (by decide +kernel)) (fun _ _ _ _ _ => dg_n sc_rules_over.nd (i := 4)) (fun _ _ _ _ _ => dts_nil) (fun _ _ _ _ _ => de_andK K (de_cmp (op_in_K K hr.u65) ops_in rfl (de_tup (da_cons (de_v 2) (da_cons (de_v 4) (da_nil)))) (de_v 1)) (de_one (de_cmp (op_in_K K hr.u65) ops_in rfl (de_tup (da_cons (de_v 4) (da_cons (de_v 3) (da_nil)))) (de_v 1)))) (by decide)) (da_nil)))))⟩
theorem ok_rules_over (Z : Fx K mg) : Ok P w K mg base 1 "rules_over" ["sides", "wins", "side", "other"] .fz Ph_rules_over := by
  obtain ⟨fd, F⟩ := Z.f_rules_over
  exact ok_fz (P := P) (w := w) (mg := mg) (base := base) (b := b_rules_over) (k := 0) (N := N_rules_over) F sc_rules_over bi_rules_over Z.g_rules_over (dd_rules_over Z)
abbrev N_kings : List Str := ["sides", "played", "wins", "told", "side", "other"]
theorem sc_kings : FnScope N_kings ["sides", "played"] (defScope s_kings) := ⟨rfl, rfl, rfl, by decide +kernel, rfl, by decide +kernel, by decide +kernel⟩
def L_kings_1 : Bd := bIf (fTr (fB allD (aCons (fLc (fIs rg1D (aCons (vF 0) (aNil))) (sN 5) (fYes) (fOr (f2 eqD (vF 5) (vF 4)) (fB (Ph_rules_over) (aCons (vF 0) (aCons (vF 2) (aCons (vF 4) (aCons (vF 5) (aNil))))))) [5]) (aNil)))) (bApp 3 (vF 4)) (bNext)
theorem bi_kings : ∀ (kV doc pm : Value) (an : Option Addr) (cdv ct : Value) (us : List Value), us.length = (["sides", "played"] : List Str).length → bindArgs (PySem.W.fnOf "kings" "kings" (defArgs s_kings) (defBody s_kings) (defScope s_kings) .none kV doc pm an cdv ct) ⟨us, []⟩ = pure ((["sides", "played"] : List Str).zip us) :=
  fun _ _ _ _ _ _ us hl => match us, hl with | [_, _], _ => rfl
def b_kings : Bd := bSeq (bAsg 0 (fB (Ph_need) (aCons (cD (.int 1)) (aCons (fB (Ph_to_sides) (aCons (vF 0) (aNil))) (aNil))))) (bSeq (bAsg 1 (fB (Ph_need) (aCons (cD (.int 2)) (aCons (fB (Ph_to_played) (aCons (vF 0) (aCons (vF 1) (aNil)))) (aNil))))) (bSeq (bAsg 2 (fB (Ph_wins_of) (aCons (vF 1) (aNil)))) (bSeq (bOwn 3 (fLst (aNil))) (bSeq (bFor (fIs rg1D (aCons (vF 0) (aNil))) (sN 4) (L_kings_1)) (bRet (fB tupD (aCons (vP 3) (aNil))))))))
def Ph_kings : List D → Option D := fnB (N_kings).length (["sides", "played"] : List Str).length b_kings
theorem dd_kings (Z : Fx K mg) (cdv : Value) (A : Around) (outer : List Env) (s : Shared) (H : Hp) (E : XK) (hr : Room (5) (A.deeper (envOfC "kings" (defScope s_kings) s.heap.objs.size (He.ga K "kings") cdv))) :
    ∃ W t, DSs (cxOf CX0 P w K mg base N_kings "kings" (defScope s_kings) (He.ga K "kings") cdv A outer s H E).nox .fz W (defBody s_kings) t (b_kings) := ⟨_, _,
  dss_cons (ds_asg (i := 0) (de_fnK K (ok_need Z) hr (by omega) rfl (da_cons (de_int) (da_cons (de_fnK K (ok_to_sides Z) hr (by omega) rfl (da_cons (de_v 0) (da_nil))) (da_nil)))) sc_kings.nd) (dss_cons (ds_asg (i := 1) (de_fnK K (ok_need Z) hr (by omega) rfl (da_cons (de_int) (da_cons (de_fnK K (ok_to_played Z) hr (by omega) rfl (da_cons (de_v 0) (da_cons (de_v 1) (da_nil)))) (da_nil)))) sc_kings.nd) (dss_cons (ds_asg (i := 2) (de_fnK K (ok_wins_of Z) hr (by omega) rfl (da_cons (de_v 1) (da_nil))) sc_kings.nd) (dss_cons (ds_own (i := 3) (de_lst (da_nil)) sc_kings.nd) (dss_cons (ds_for (di_rg1 rfl Z.n_range (da_cons (de_v 0) (da_nil))) (dg_n sc_kings.nd (i := 4)) (dss_one (ds_if (dt_truK K (de_cb (cr_allK K rfl) cs_all rfl Z.n_all bt_all (da_cons (de_lc [("other", 5)] sc_kings.nd (di_rg1 rfl Z.n_range (da_cons (de_v 0) (da_nil))) (blk_of (N := N_kings) (sc := defScope s_kings) (by decide +kernel)) (fun _ _ _ _ _ => dg_n sc_kings.nd (i := 5)) (fun _ _ _ _ _ => dts_nil) (fun _ _ _ _ _ => de_orK K (de_cmp (op_eqDK K hr.u64) ops_eq rfl (de_v 5) (de_v 4)) (de_one (de_fnK K (ok_rules_over Z) hr (by omega) rfl (da_cons (de_v 0) (da_cons (de_v 2) (da_cons (de_v 4) (da_cons (de_v 5) (da_nil)))))))) (by decide)) (da_nil)))) (dss_one (ds_app (j := 3) (de_v 4))) (dss_nil)))) (dss_one (ds_ret (de_ct (cr_tupK K) cs_tup rfl Z.n_tuple bt_tuple (da_cons (de_p 3) (da_nil)))))))))⟩
theorem ok_kings (Z : Fx K mg) : Ok P w K mg base 6 "kings" ["sides", "played"] .fz Ph_kings := by
  obtain ⟨fd, F⟩ := Z.f_kings
  exact ok_fz (P := P) (w := w) (mg := mg) (base := base) (b := b_kings) (k := 5) (N := N_kings) F sc_kings bi_kings Z.g_kings (dd_kings Z)
abbrev N_rings : List Str := ["sides", "played", "wins", "told", "a", "b", "c"]
theorem sc_rings : FnScope N_rings ["sides", "played"] (defScope s_rings) := ⟨rfl, rfl, rfl, by decide +kernel, rfl, by decide +kernel, by decide +kernel⟩
def L_rings_1 : Bd := bIf (fAndT (fT (f2 ltD (vF 4) (vF 5))) (fAndT (fT (f2 inD (fTup (aCons (vF 5) (aCons (vF 6) (aNil)))) (vF 2))) (fT (f2 inD (fTup (aCons (vF 6) (aCons (vF 4) (aNil)))) (vF 2))))) (bApp 3 (fTup (aCons (vF 4) (aCons (vF 5) (aCons (vF 6) (aNil)))))) (bNext)
def L_rings_2 : Bd := bFor (fIs rg2D (aCons (f2 addD (vF 4) (cD (.int 1))) (aCons (vF 0) (aNil)))) (sN 6) (L_rings_1)
theorem bi_rings : ∀ (kV doc pm : Value) (an : Option Addr) (cdv ct : Value) (us : List Value), us.length = (["sides", "played"] : List Str).length → bindArgs (PySem.W.fnOf "rings" "rings" (defArgs s_rings) (defBody s_rings) (defScope s_rings) .none kV doc pm an cdv ct) ⟨us, []⟩ = pure ((["sides", "played"] : List Str).zip us) :=
  fun _ _ _ _ _ _ us hl => match us, hl with | [_, _], _ => rfl
def b_rings : Bd := bSeq (bAsg 0 (fB (Ph_need) (aCons (cD (.int 1)) (aCons (fB (Ph_to_sides) (aCons (vF 0) (aNil))) (aNil))))) (bSeq (bAsg 1 (fB (Ph_need) (aCons (cD (.int 2)) (aCons (fB (Ph_to_played) (aCons (vF 0) (aCons (vF 1) (aNil)))) (aNil))))) (bSeq (bAsg 2 (fB (Ph_wins_of) (aCons (vF 1) (aNil)))) (bSeq (bOwn 3 (fLst (aNil))) (bSeq (bFor (fI (vF 2)) (sT 2 (sCons (sN 4) (sCons (sN 5) (sNil)))) (L_rings_2)) (bRet (fB tupD (aCons (fB sortedD (aCons (vP 3) (aNil))) (aNil))))))))
def Ph_rings : List D → Option D := fnB (N_rings).length (["sides", "played"] : List Str).length b_rings
theorem dd_rings (Z : Fx K mg) (cdv : Value) (A : Around) (outer : List Env) (s : Shared) (H : Hp) (E : XK) (hr : Room (5) (A.deeper (envOfC "rings" (defScope s_rings) s.heap.objs.size (He.ga K "rings") cdv))) :
    ∃ W t, DSs (cxOf CX0 P w K mg base N_rings "rings" (defScope s_rings) (He.ga K "rings") cdv A outer s H E).nox .fz W (defBody s_rings) t (b_rings) := ⟨_, _,
  dss_cons (ds_asg (i := 0) (de_fnK K (ok_need Z) hr (by omega) rfl (da_cons (de_int) (da_cons (de_fnK K (ok_to_sides Z) hr (by omega) rfl (da_cons (de_v 0) (da_nil))) (da_nil)))) sc_rings.nd) (dss_cons (ds_asg (i := 1) (de_fnK K (ok_need Z) hr (by omega) rfl (da_cons (de_int) (da_cons (de_fnK K (ok_to_played Z) hr (by omega) rfl (da_cons (de_v 0) (da_cons (de_v 1) (da_nil)))) (da_nil)))) sc_rings.nd) (dss_cons (ds_asg (i := 2) (de_fnK K (ok_wins_of Z) hr (by omega) rfl (da_cons (de_v 1) (da_nil))) sc_rings.nd) (dss_cons (ds_own (i := 3) (de_lst (da_nil)) sc_rings.nd) (dss_cons (ds_for (di_anyK K (de_v 2)) (dg_tK K (n := 2) (dgs_cons (dg_n sc_rings.nd (i := 4)) (dgs_cons (dg_n sc_rings.nd (i := 5)) (dgs_nil)))) (dss_one (ds_for (di_rg2 rfl Z.n_range (da_cons (de_op (op_addAK K) ops_addA (de_v 4) (de_int)) (da_cons (de_v 0) (da_nil)))) (dg_n sc_rings.nd (i := 6)) (dss_one (ds_if (dt_w (dw_and (dt_cmp (op_lt_K K hr.u64) ops_lt rfl (de_v 4) (de_v 5)) (dw_and (dt_cmp (op_in_K K hr.u65) ops_in rfl (de_tup (da_cons (de_v 5) (da_cons (de_v 6) (da_nil)))) (de_v 2)) (dw_and1 (dt_cmp (op_in_K K hr.u65) ops_in rfl (de_tup (da_cons (de_v 6) (da_cons (de_v 4) (da_nil)))) (de_v 2)))))) (dss_one (ds_app (j := 3) (de_tup (da_cons (de_v 4) (da_cons (de_v 5) (da_cons (de_v 6) (da_nil))))))) (dss_nil)))))) (dss_one (ds_ret (de_ct (cr_tupK K) cs_tup rfl Z.n_tuple bt_tuple (da_cons (de_cb (cr_srtK K hr.u70) cs_srt rfl Z.n_sorted bt_sorted (da_cons (de_p 3) (da_nil))) (da_nil)))))))))⟩
theorem ok_rings (Z : Fx K mg) : Ok P w K mg base 6 "rings" ["sides", "played"] .fz Ph_rings := by
  obtain ⟨fd, F⟩ := Z.f_rings
  exact ok_fz (P := P) (w := w) (mg := mg) (base := base) (b := b_rings) (k := 5) (N := N_rings) F sc_rings bi_rings Z.g_rings (dd_rings Z)
abbrev N__law_orders : List Str := ["some", "rows", "k", "longer", "row", "one"]
theorem sc__law_orders : FnScope N__law_orders ["some"] (defScope s__law_orders) := ⟨rfl, rfl, rfl, by decide +kernel, rfl, by decide +kernel, by decide +kernel⟩
def L__law_orders_1 : Bd := bAsg 3 (f2 addD (vF 3) (fLc (fI (vF 0)) (sN 5) (fT (f2 notInD (vF 5) (vF 4))) (f2 addD (vF 4) (fTup (aCons (vF 5) (aNil)))) [5]))
def L__law_orders_2 : Bd := bSeq (bAsg 3 (fLst (aNil))) (bSeq (bFor (fI (vF 1)) (sN 4) (L__law_orders_1)) (bAsg 1 (vF 3)))
theorem bi__law_orders : ∀ (kV doc pm : Value) (an : Option Addr) (cdv ct : Value) (us : List Value), us.length = (["some"] : List Str).length → bindArgs (PySem.W.fnOf "_law_orders" "_law_orders" (defArgs s__law_orders) (defBody s__law_orders) (defScope s__law_orders) .none kV doc pm an cdv ct) ⟨us, []⟩ = pure ((["some"] : List Str).zip us) :=
  fun _ _ _ _ _ _ us hl => match us, hl with | [_], _ => rfl
def b__law_orders : Bd := bSeq (bAsg 1 (fLst (aCons (fTup (aNil)) (aNil)))) (bSeq (bFor (fIs rg1D (aCons (fB lenD (aCons (vF 0) (aNil))) (aNil))) (sN 2) (L__law_orders_2)) (bRet (vF 1)))
def Ph__law_orders : List D → Option D := fnB (N__law_orders).length (["some"] : List Str).length b__law_orders
theorem dd__law_orders (Z : Fx K mg) (cdv : Value) (A : Around) (outer : List Env) (s : Shared) (H : Hp) (E : XK) (hr : Room (0) (A.deeper (envOfC "_law_orders" (defScope s__law_orders) s.heap.objs.size (He.ga K "_law_orders") cdv))) :
    ∃ W t, DSs (cxOf CX0 P w K mg base N__law_orders "_law_orders" (defScope s__law_orders) (He.ga K "_law_orders") cdv A outer s H E).nox .fz W (defBody s__law_orders) t (b__law_orders) := ⟨_, _,
  dss_cons (ds_asg (i := 1) (DE.frz (de_lst (da_cons (de_tup (da_nil)) (da_nil)))) sc__law_orders.nd) (dss_cons (ds_for (di_rg1 rfl Z.n_range (da_cons (de_cb (call_lenK K) cs_len rfl Z.n_len bt_len (da_cons (de_v 0) (da_nil))) (da_nil))) (dg_n sc__law_orders.nd (i := 2)) (dss_cons (ds_asg (i := 3) (DE.frz (de_lst (da_nil))) sc__law_orders.nd) (dss_cons (ds_for (di_anyK K (de_v 1)) (dg_n sc__law_orders.nd (i := 4)) (dss_one (ds_asg (i := 3) (de_op (op_addAK K) ops_addA (de_v 3) (de_lc [("one", 5)] sc__law_orders.nd (di_anyK K (de_v 0)) (blk_of (N := N__law_orders) (sc := defScope s__law_orders) (by decide +kernel)) (fun _ _ _ _ _ => dg_n sc__law_orders.nd (i := 5)) (fun _ _ _ _ _ => dts_one (dt_cmp (op_notIn_K K hr.u65) ops_notIn rfl (de_v 5) (de_v 4))) (fun _ _ _ _ _ => de_op (op_addAK K) ops_addA (de_v 4) (de_tup (da_cons (de_v 5) (da_nil)))) (by decide))) sc__law_orders.nd))) (dss_one (ds_asg (i := 1) (de_v 3) sc__law_orders.nd))))) (dss_one (ds_ret (de_v 1))))⟩
theorem ok__law_orders (Z : Fx K mg) : Ok P w K mg base 1 "_law_orders" ["some"] .fz Ph__law_orders := by
  obtain ⟨fd, F⟩ := Z.f__law_orders
  exact ok_fz (P := P) (w := w) (mg := mg) (base := base) (b := b__law_orders) (k := 0) (N := N__law_orders) F sc__law_orders bi__law_orders Z.g__law_orders (dd__law_orders Z)
abbrev N_order : List Str := ["sides", "played", "wins", "row", "at"]
theorem sc_order : FnScope N_order ["sides", "played"] (defScope s_order) := ⟨rfl, rfl, rfl, by decide +kernel, rfl, by decide +kernel, by decide +kernel⟩
def L_order_1 : Bd := bIf (fTr (fB allD (aCons (fLc (fIs rg1D (aCons (f2 subD (vF 0) (cD (.int 1))) (aNil))) (sN 4) (fYes) (f2 inD (fTup (aCons (f2 ixD (vF 3) (vF 4)) (aCons (f2 ixD (vF 3) (f2 addD (vF 4) (cD (.int 1)))) (aNil)))) (vF 2)) [4]) (aNil)))) (bRet (vF 3)) (bNext)
theorem bi_order : ∀ (kV doc pm : Value) (an : Option Addr) (cdv ct : Value) (us : List Value), us.length = (["sides", "played"] : List Str).length → bindArgs (PySem.W.fnOf "order" "order" (defArgs s_order) (defBody s_order) (defScope s_order) .none kV doc pm an cdv ct) ⟨us, []⟩ = pure ((["sides", "played"] : List Str).zip us) :=
  fun _ _ _ _ _ _ us hl => match us, hl with | [_, _], _ => rfl
def b_order : Bd := bSeq (bAsg 0 (fB (Ph_need) (aCons (cD (.int 1)) (aCons (fB (Ph_to_sides) (aCons (vF 0) (aNil))) (aNil))))) (bSeq (bAsg 1 (fB (Ph_need) (aCons (cD (.int 2)) (aCons (fB (Ph_to_played) (aCons (vF 0) (aCons (vF 1) (aNil)))) (aNil))))) (bSeq (bAsg 2 (fB (Ph_wins_of) (aCons (vF 1) (aNil)))) (bSeq (bFor (fI1 prmRD (vF 0)) (sN 3) (L_order_1)) (bRet (cD .none)))))
def Ph_order : List D → Option D := fnB (N_order).length (["sides", "played"] : List Str).length b_order
theorem dd_order (Z : Fx K mg) (cdv : Value) (A : Around) (outer : List Env) (s : Shared) (H : Hp) (E : XK) (hr : Room (5) (A.deeper (envOfC "order" (defScope s_order) s.heap.objs.size (He.ga K "order") cdv))) :
    ∃ W t, DSs (cxOf CX0 P w K mg base N_order "order" (defScope s_order) (He.ga K "order") cdv A outer s H E).nox .fz W (defBody s_order) t (b_order) := ⟨_, _,
  dss_cons (ds_asg (i := 0) (de_fnK K (ok_need Z) hr (by omega) rfl (da_cons (de_int) (da_cons (de_fnK K (ok_to_sides Z) hr (by omega) rfl (da_cons (de_v 0) (da_nil))) (da_nil)))) sc_order.nd) (dss_cons (ds_asg (i := 1) (de_fnK K (ok_need Z) hr (by omega) rfl (da_cons (de_int) (da_cons (de_fnK K (ok_to_played Z) hr (by omega) rfl (da_cons (de_v 0) (da_cons (de_v 1) (da_nil)))) (da_nil)))) sc_order.nd) (dss_cons (ds_asg (i := 2) (de_fnK K (ok_wins_of Z) hr (by omega) rfl (da_cons (de_v 1) (da_nil))) sc_order.nd) (dss_cons (ds_for (di_prmR rfl Z.k_permutations rfl Z.n_range (de_v 0)) (dg_n sc_order.nd (i := 3)) (dss_one (ds_if (dt_truK K (de_cb (cr_allK K rfl) cs_all rfl Z.n_all bt_all (da_cons (de_lc [("at", 4)] sc_order.nd (di_rg1 rfl Z.n_range (da_cons (de_op op_sub ops_sub (de_v 0) (de_int)) (da_nil))) (blk_of (N := N_order) (sc := defScope s_order) (by decide +kernel)) (fun _ _ _ _ _ => dg_n sc_order.nd (i := 4)) (fun _ _ _ _ _ => dts_nil) (fun _ _ _ _ _ => de_cmp (op_in_K K hr.u65) ops_in rfl (de_tup (da_cons (de_ixK K (de_v 3) (de_v 4)) (da_cons (de_ixK K (de_v 3) (de_op (op_addAK K) ops_addA (de_v 4) (de_int))) (da_nil)))) (de_v 2)) (by decide)) (da_nil)))) (dss_one (ds_ret (de_v 3))) (dss_nil)))) (dss_one (ds_ret (de_non))))))⟩
theorem ok_order (Z : Fx K mg) : Ok P w K mg base 6 "order" ["sides", "played"] .fz Ph_order := by
  obtain ⟨fd, F⟩ := Z.f_order
  exact ok_fz (P := P) (w := w) (mg := mg) (base := base) (b := b_order) (k := 5) (N := N_order) F sc_order bi_order Z.g_order (dd_order Z)
abbrev N_day_pairs : List Str := ["many", "day", "pairs", "one", "other"]
theorem sc_day_pairs : FnScope N_day_pairs ["many", "day"] (defScope s_day_pairs) := ⟨rfl, rfl, rfl, by decide +kernel, rfl, by decide +kernel, by decide +kernel⟩
def L_day_pairs_1 : Bd := bIf (fAndT (fT (f2 notInD (vF 1) (fTup (aCons (vF 3) (aCons (vF 4) (aNil)))))) (fT (f2 eqD (f2 modD (f2 subD (f2 addD (vF 3) (vF 4)) (f2 mulD (cD (.int 2)) (vF 1))) (f2 subD (vF 0) (cD (.int 1)))) (cD (.int 0))))) (bApp 2 (fTup (aCons (vF 3) (aCons (vF 4) (aNil))))) (bNext)
def L_day_pairs_2 : Bd := bFor (fIs rg2D (aCons (f2 addD (vF 3) (cD (.int 1))) (aCons (f2 subD (vF 0) (cD (.int 1))) (aNil)))) (sN 4) (L_day_pairs_1)
theorem bi_day_pairs : ∀ (kV doc pm : Value) (an : Option Addr) (cdv ct : Value) (us : List Value), us.length = (["many", "day"] : List Str).length → bindArgs (PySem.W.fnOf "day_pairs" "day_pairs" (defArgs s_day_pairs) (defBody s_day_pairs) (defScope s_day_pairs) .none kV doc pm an cdv ct) ⟨us, []⟩ = pure ((["many", "day"] : List Str).zip us) :=
  fun _ _ _ _ _ _ us hl => match us, hl with | [_, _], _ => rfl
def b_day_pairs : Bd := bSeq (bOwn 2 (fLst (aCons (fTup (aCons (vF 1) (aCons (f2 subD (vF 0) (cD (.int 1))) (aNil)))) (aNil)))) (bSeq (bFor (fIs rg1D (aCons (f2 subD (vF 0) (cD (.int 1))) (aNil))) (sN 3) (L_day_pairs_2)) (bRet (fB sortedD (aCons (vP 2) (aNil)))))
def Ph_day_pairs : List D → Option D := fnR (N_day_pairs).length (["many", "day"] : List Str).length b_day_pairs
theorem dd_day_pairs (Z : Fx K mg) (cdv : Value) (A : Around) (outer : List Env) (s : Shared) (H : Hp) (E : XK) (hr : Room (0) (A.deeper (envOfC "day_pairs" (defScope s_day_pairs) s.heap.objs.size (He.ga K "day_pairs") cdv))) :
    ∃ W t, DSs (cxOf CX0 P w K mg base N_day_pairs "day_pairs" (defScope s_day_pairs) (He.ga K "day_pairs") cdv A outer s H E).nox .fr W (defBody s_day_pairs) t (b_day_pairs) := ⟨_, _,
  dss_cons (ds_own (i := 2) (de_lst (da_cons (de_tup (da_cons (de_v 1) (da_cons (de_op op_sub ops_sub (de_v 0) (de_int)) (da_nil)))) (da_nil))) sc_day_pairs.nd) (dss_cons (ds_for (di_rg1 rfl Z.n_range (da_cons (de_op op_sub ops_sub (de_v 0) (de_int)) (da_nil))) (dg_n sc_day_pairs.nd (i := 3)) (dss_one (ds_for (di_rg2 rfl Z.n_range (da_cons (de_op (op_addAK K) ops_addA (de_v 3) (de_int)) (da_cons (de_op op_sub ops_sub (de_v 0) (de_int)) (da_nil)))) (dg_n sc_day_pairs.nd (i := 4)) (dss_one (ds_if (dt_w (dw_and (dt_cmp (op_notIn_K K hr.u65) ops_notIn rfl (de_v 1) (de_tup (da_cons (de_v 3) (da_cons (de_v 4) (da_nil))))) (dw_and1 (dt_cmp (op_eqDK K hr.u64) ops_eq rfl (de_op op_modN ops_mod (de_op op_sub ops_sub (de_op (op_addAK K) ops_addA (de_v 3) (de_v 4)) (de_op op_mul ops_mul (de_int) (de_v 1))) (de_op op_sub ops_sub (de_v 0) (de_int))) (de_int))))) (dss_one (ds_app (j := 2) (de_tup (da_cons (de_v 3) (da_cons (de_v 4) (da_nil)))))) (dss_nil)))))) (dss_one (ds_ret (de_cb (cr_srtK K hr.u70) cs_srt rfl Z.n_sorted bt_sorted (da_cons (de_p 2) (da_nil))))))⟩
theorem ok_day_pairs (Z : Fx K mg) : Ok P w K mg base 1 "day_pairs" ["many", "day"] .fr Ph_day_pairs := by
  obtain ⟨fd, F⟩ := Z.f_day_pairs
  exact ok_fr (P := P) (w := w) (mg := mg) (base := base) (b := b_day_pairs) (k := 0) (N := N_day_pairs) F sc_day_pairs bi_day_pairs Z.g_day_pairs (dd_day_pairs Z)
abbrev N_plan : List Str := ["sides", "many", "days", "day", "pair"]
theorem sc_plan : FnScope N_plan ["sides"] (defScope s_plan) := ⟨rfl, rfl, rfl, by decide +kernel, rfl, by decide +kernel, by decide +kernel⟩
def L_plan_1 : Bd := bApp 2 (fB tupD (aCons (fLc (fI (fB (Ph_day_pairs) (aCons (vF 1) (aCons (vF 3) (aNil))))) (sN 4) (fT (f2 ltD (f2 ixD (vF 4) (cD (.int 1))) (vF 0))) (vF 4) [4]) (aNil)))
theorem bi_plan : ∀ (kV doc pm : Value) (an : Option Addr) (cdv ct : Value) (us : List Value), us.length = (["sides"] : List Str).length → bindArgs (PySem.W.fnOf "plan" "plan" (defArgs s_plan) (defBody s_plan) (defScope s_plan) .none kV doc pm an cdv ct) ⟨us, []⟩ = pure ((["sides"] : List Str).zip us) :=
  fun _ _ _ _ _ _ us hl => match us, hl with | [_], _ => rfl
def b_plan : Bd := bSeq (bAsg 0 (fB (Ph_need) (aCons (cD (.int 1)) (aCons (fB (Ph_to_sides) (aCons (vF 0) (aNil))) (aNil))))) (bSeq (bAsg 1 (f2 addD (vF 0) (f2 modD (vF 0) (cD (.int 2))))) (bSeq (bOwn 2 (fLst (aNil))) (bSeq (bFor (fIs rg1D (aCons (f2 subD (vF 1) (cD (.int 1))) (aNil))) (sN 3) (L_plan_1)) (bRet (fB tupD (aCons (vP 2) (aNil)))))))
def Ph_plan : List D → Option D := fnB (N_plan).length (["sides"] : List Str).length b_plan
theorem dd_plan (Z : Fx K mg) (cdv : Value) (A : Around) (outer : List Env) (s : Shared) (H : Hp) (E : XK) (hr : Room (3) (A.deeper (envOfC "plan" (defScope s_plan) s.heap.objs.size (He.ga K "plan") cdv))) :
    ∃ W t, DSs (cxOf CX0 P w K mg base N_plan "plan" (defScope s_plan) (He.ga K "plan") cdv A outer s H E).nox .fz W (defBody s_plan) t (b_plan) := ⟨_, _,
  dss_cons (ds_asg (i := 0) (de_fnK K (ok_need Z) hr (by omega) rfl (da_cons (de_int) (da_cons (de_fnK K (ok_to_sides Z) hr (by omega) rfl (da_cons (de_v 0) (da_nil))) (da_nil)))) sc_plan.nd) (dss_cons (ds_asg (i := 1) (de_op (op_addAK K) ops_addA (de_v 0) (de_op op_modN ops_mod (de_v 0) (de_int))) sc_plan.nd) (dss_cons (ds_own (i := 2) (de_lst (da_nil)) sc_plan.nd) (dss_cons (ds_for (di_rg1 rfl Z.n_range (da_cons (de_op op_sub ops_sub (de_v 1) (de_int)) (da_nil))) (dg_n sc_plan.nd (i := 3)) (dss_one (ds_app (j := 2) (de_ct (cr_tupK K) cs_tup rfl Z.n_tuple bt_tuple (da_cons (de_lc [("pair", 4)] sc_plan.nd (di_anyK K (DE.frz (de_fnK K (ok_day_pairs Z) hr (by omega) rfl (da_cons (de_v 1) (da_cons (de_v 3) (da_nil)))))) (blk_of (N := N_plan) (sc := defScope s_plan) (by decide +kernel)) (fun _ _ _ _ _ => dg_n sc_plan.nd (i := 4)) (fun _ _ _ _ _ => dts_one (dt_cmp (op_lt_K K hr.u64) ops_lt rfl (de_ixK K (de_v 4) (de_int)) (de_v 0))) (fun _ _ _ _ _ => de_v 4) (by decide)) (da_nil)))))) (dss_one (ds_ret (de_ct (cr_tupK K) cs_tup rfl Z.n_tuple bt_tuple (da_cons (de_p 2) (da_nil))))))))⟩
theorem ok_plan (Z : Fx K mg) : Ok P w K mg base 4 "plan" ["sides"] .fz Ph_plan := by
  obtain ⟨fd, F⟩ := Z.f_plan
  exact ok_fz (P := P) (w := w) (mg := mg) (base := base) (b := b_plan) (k := 3) (N := N_plan) F sc_plan bi_plan Z.g_plan (dd_plan Z)
abbrev N__law_listed : List Str := ["value", "one"]
theorem sc__law_listed : FnScope N__law_listed ["value"] (defScope s__law_listed) := ⟨rfl, rfl, rfl, by decide +kernel, rfl, by decide +kernel, by decide +kernel⟩
theorem bi__law_listed : ∀ (kV doc pm : Value) (an : Option Addr) (cdv ct : Value) (us : List Value), us.length = (["value"] : List Str).length → bindArgs (PySem.W.fnOf "_law_listed" "_law_listed" (defArgs s__law_listed) (defBody s__law_listed) (defScope s__law_listed) .none kV doc pm an cdv ct) ⟨us, []⟩ = pure ((["value"] : List Str).zip us) :=
  fun _ _ _ _ _ _ us hl => match us, hl with | [_], _ => rfl
def b__law_listed (φ : List D → Option D) : Bd := bSeq (bIf (fTr (fIsi "tuple" (vF 0))) (bRet (fLc (fI (vF 0)) (sN 1) (fYes) (fB φ (aCons (vF 1) (aNil))) [1])) (bNext)) (bRet (vF 0))
def Ph__law_listed : Nat → List D → Option D
  | 0 => fun _ => none
  | n + 1 => fnB (N__law_listed).length (["value"] : List Str).length (b__law_listed (Ph__law_listed n))
theorem dd__law_listed (Z : Fx K mg) {φ : List D → Option D} (n : Nat) (ih : Ok P w K mg base (n + 0) "_law_listed" ["value"] .fz φ) (cdv : Value) (A : Around) (outer : List Env) (s : Shared) (H : Hp) (E : XK) (hr : Room (n + 0) (A.deeper (envOfC "_law_listed" (defScope s__law_listed) s.heap.objs.size (He.ga K "_law_listed") cdv))) :
    ∃ W t, DSs (cxOf CX0 P w K mg base N__law_listed "_law_listed" (defScope s__law_listed) (He.ga K "_law_listed") cdv A outer s H E).nox .fz W (defBody s__law_listed) t (b__law_listed φ) := ⟨_, _,
  dss_cons (ds_if (dt_truK K (de_isiK K rfl rfl Z.n_isinstance bt_isinstance rfl Z.n_tuple bt_tuple (de_v 0))) (dss_one (ds_ret (DE.frz (de_lc [("one", 1)] sc__law_listed.nd (di_anyK K (de_v 0)) (blk_of (N := N__law_listed) (sc := defScope s__law_listed) (by decide +kernel)) (fun _ _ _ _ _ => dg_n sc__law_listed.nd (i := 1)) (fun _ _ _ _ _ => dts_nil) (fun _ _ _ _ _ => de_fnK K ih hr (by omega) rfl (da_cons (de_v 1) (da_nil))) (by decide))))) (dss_nil)) (dss_one (ds_ret (de_v 0)))⟩
theorem ok__law_listed (Z : Fx K mg) : ∀ n : Nat, Ok P w K mg base (n + 0) "_law_listed" ["value"] .fz (Ph__law_listed n)
  | 0 => by obtain ⟨fd, F⟩ := Z.f__law_listed; exact ok_zero F bi__law_listed Z.g__law_listed
  | n + 1 => by
    obtain ⟨fd, F⟩ := Z.f__law_listed
    have e : n + 1 + 0 = n + 0 + 1 := by omega
    rw [e]
    exact ok_fz (P := P) (w := w) (mg := mg) (base := base) (b := b__law_listed (Ph__law_listed n)) (k := n + 0) (N := N__law_listed) F sc__law_listed bi__law_listed Z.g__law_listed (dd__law_listed Z n (ok__law_listed Z n))
abbrev N_law : List Str := ["script", "sides", "due", "split", "turned", "wrongs", "played", "won", "tops", "one", "rounds", "a", "rows", "b", "row", "wrong", "pair", "other", "c", "k", "mid"]
theorem sc_law : FnScope N_law ["script"] (defScope s_law) := ⟨rfl, rfl, rfl, by decide +kernel, rfl, by decide +kernel, by decide +kernel⟩
def L_law_1 : Bd := bAsg 6 (f2 addD (vF 6) (fLc (fIs rg2D (aCons (f2 addD (vF 9) (cD (.int 1))) (aCons (vF 1) (aNil)))) (sN 17) (fYes) (fTup (aCons (vF 9) (aCons (vF 17) (aCons (fIf (fT (f2 eqD (f2 modD (fB intD (aCons (f2 fdivD (fB (Ph__law_cell) (aCons (vF 0) (aCons (cD (.int 4)) (aNil)))) (f2 addD (f2 addD (cD (.int 1)) (f2 mulD (cD (.int 3)) (vF 9))) (vF 17))) (aNil))) (cD (.int 2))) (cD (.int 0)))) (fTup (aCons (cD (.int 3)) (aCons (cD (.int 1)) (aNil)))) (fTup (aCons (cD (.int 0)) (aCons (cD (.int 2)) (aNil))))) (aNil))))) [17]))
def L_law_2 : Bd := bIf (fT (f2 eqD (fLc (fIs rg1D (aCons (vF 1) (aNil))) (sN 17) (fAndT (fT (f2 neD (vF 17) (vF 9))) (fAndT (fT (f2 notInD (fTup (aCons (vF 9) (aCons (vF 17) (aNil)))) (vF 7))) (fT (f2 eqD (fLc (fIs rg1D (aCons (vF 1) (aNil))) (sN 20) (fAndT (fT (f2 inD (fTup (aCons (vF 9) (aCons (vF 20) (aNil)))) (vF 7))) (fT (f2 inD (fTup (aCons (vF 20) (aCons (vF 17) (aNil)))) (vF 7)))) (vF 20) [20]) (fLst (aNil)))))) (vF 17) [17]) (fLst (aNil)))) (bApp 8 (vF 9)) (bNext)
def L_law_3 : Bd := bAsg 10 (f2 addD (vF 10) (fLc (fIs rg1D (aCons (vF 1) (aNil))) (sN 18) (fAndT (fT (f2 ltD (vF 11) (fB min2D (aCons (vF 13) (aCons (vF 18) (aNil)))))) (fAndT (fT (f2 inD (fTup (aCons (vF 11) (aCons (vF 13) (aNil)))) (vF 7))) (fAndT (fT (f2 inD (fTup (aCons (vF 13) (aCons (vF 18) (aNil)))) (vF 7))) (fT (f2 inD (fTup (aCons (vF 18) (aCons (vF 11) (aNil)))) (vF 7)))))) (fTup (aCons (vF 11) (aCons (vF 13) (aCons (vF 18) (aNil))))) [18]))
def L_law_4 : Bd := bFor (fIs rg1D (aCons (vF 1) (aNil))) (sN 13) (L_law_3)
theorem bi_law : ∀ (kV doc pm : Value) (an : Option Addr) (cdv ct : Value) (us : List Value), us.length = (["script"] : List Str).length → bindArgs (PySem.W.fnOf "law" "law" (defArgs s_law) (defBody s_law) (defScope s_law) .none kV doc pm an cdv ct) ⟨us, []⟩ = pure ((["script"] : List Str).zip us) :=
  fun _ _ _ _ _ _ us hl => match us, hl with | [_], _ => rfl
def b_law : Bd := bSeq (bAsg 1 (f2 addD (cD (.int 2)) (f2 modD (fB (Ph__law_cell) (aCons (vF 0) (aCons (cD (.int 0)) (aNil)))) (cD (.int 5))))) (bSeq (bAsg 2 (fB (Ph__law_plan) (aCons (vF 1) (aNil)))) (bSeq (bIf (fOrT (fNotT (fTr (fB (Ph__law_same 4) (aCons (fB (Ph_plan) (aCons (vF 1) (aNil))) (aCons (vF 2) (aNil)))))) (fOrT (fT (f2 notBD (fB (Ph_is_plan) (aCons (vF 1) (aCons (fB (Ph__law_listed 4) (aCons (vF 2) (aNil))) (aNil)))) (cD (.bool true)))) (fT (f2 neD (fB (Ph_fewest_days) (aCons (vF 1) (aNil))) (fB lenD (aCons (vF 2) (aNil))))))) (bRet (cD (.bool false))) (bNext)) (bSeq (bAsg 3 (f2 addD (fSl (vF 2) (oNo) (oIs (f1 negD (cD (.int 1))))) (fB tupD (aCons (fLc (fI (f2 ixD (vF 2) (f1 negD (cD (.int 1))))) (sN 16) (fYes) (fTup (aCons (vF 16) (aNil))) [16]) (aNil))))) (bSeq (bAsg 4 (f2 addD (fTup (aCons (f2 addD (fTup (aCons (f2 revUD (f2 ixD (f2 ixD (vF 2) (cD (.int 0))) (cD (.int 0))) (f1 negD (cD (.int 1)))) (aNil))) (fSl (f2 ixD (vF 2) (cD (.int 0))) (oIs (cD (.int 1))) (oNo))) (aNil))) (fSl (vF 2) (oIs (cD (.int 1))) (oNo)))) (bSeq (bIf (fOrT (fT (f2 notBD (fB (Ph_is_plan) (aCons (vF 1) (aCons (vF 3) (aNil)))) (cD (.bool true)))) (fOrT (fT (f2 notBD (fB (Ph_is_plan) (aCons (vF 1) (aCons (f2 revUD (vF 2) (f1 negD (cD (.int 1)))) (aNil)))) (cD (.bool true)))) (fOrT (fT (f2 notBD (fB (Ph_is_plan) (aCons (vF 1) (aCons (f2 addD (vF 2) (fTup (aCons (fTup (aNil)) (aNil)))) (aNil)))) (cD (.bool true)))) (fT (f2 notBD (fB (Ph_is_plan) (aCons (vF 1) (aCons (vF 4) (aNil)))) (cD (.bool false))))))) (bRet (cD (.bool false))) (bNext)) (bSeq (bAsg 5 (fLst (aCons (cD (.int 7)) (aCons (fSl (vF 2) (oIs (cD (.int 1))) (oNo)) (aCons (f2 addD (vF 2) (fSl (vF 2) (oNo) (oIs (cD (.int 1))))) (aCons (f2 addD (fSl (vF 2) (oNo) (oIs (f1 negD (cD (.int 1))))) (fTup (aCons (fSl (f2 ixD (vF 2) (f1 negD (cD (.int 1)))) (oIs (cD (.int 1))) (oNo)) (aNil)))) (aCons (f2 addD (fSl (vF 2) (oNo) (oIs (f1 negD (cD (.int 1))))) (fTup (aCons (f2 addD (f2 ixD (vF 2) (f1 negD (cD (.int 1)))) (fTup (aCons (fTup (aCons (vF 1) (aCons (f2 addD (vF 1) (cD (.int 1))) (aNil)))) (aNil)))) (aNil)))) (aNil)))))))) (bSeq (bIf (fT (f2 gtD (vF 1) (cD (.int 3)))) (bAsg 5 (f2 addD (vF 5) (fLst (aCons (f2 addD (fTup (aCons (fB tupD (aCons (fB sortedD (aCons (f2 addD (f2 ixD (vF 2) (cD (.int 0))) (f2 ixD (vF 2) (cD (.int 1)))) (aNil))) (aNil))) (aNil))) (fSl (vF 2) (oIs (cD (.int 2))) (oNo))) (aCons (f2 addD (fTup (aCons (f2 revUD (f2 ixD (vF 2) (cD (.int 0))) (f1 negD (cD (.int 1)))) (aNil))) (fSl (vF 2) (oIs (cD (.int 1))) (oNo))) (aNil)))))) (bNext)) (bSeq (bIf (fT (f2 neD (fLc (fI (vF 5)) (sN 15) (fT (f2 notBD (fB (Ph_is_plan) (aCons (vF 1) (aCons (vF 15) (aNil)))) (cD (.bool false)))) (vF 15) [15]) (fLst (aNil)))) (bRet (cD (.bool false))) (bNext)) (bSeq (bAsg 6 (fB (Ph__law_played) (aCons (fB (Ph__law_numbers) (aCons (vF 0) (aCons (cD (.int 1)) (aCons (f2 modD (fB (Ph__law_cell) (aCons (vF 0) (aCons (cD (.int 2)) (aNil)))) (cD (.int 12))) (aNil))))) (aCons (vF 1) (aNil))))) (bSeq (bIf (fT (f2 eqD (f2 modD (fB (Ph__law_cell) (aCons (vF 0) (aCons (cD (.int 3)) (aNil)))) (cD (.int 3))) (cD (.int 0)))) (bSeq (bAsg 6 (fLst (aNil))) (bSeq (bFor (fIs rg1D (aCons (vF 1) (aNil))) (sN 9) (L_law_1)) (bAsg 6 (fB tupD (aCons (vF 6) (aNil)))))) (bNext)) (bSeq (bAsg 7 (fB (Ph__law_beat) (aCons (vF 6) (aNil)))) (bSeq (bIf (fNotT (fTr (fB (Ph__law_same 4) (aCons (fB (Ph_beat) (aCons (vF 1) (aCons (fB (Ph__law_listed 4) (aCons (vF 6) (aNil))) (aNil)))) (aCons (fB tupD (aCons (vF 7) (aNil))) (aNil)))))) (bRet (cD (.bool false))) (bNext)) (bSeq (bOwn 8 (fLst (aNil))) (bSeq (bFor (fIs rg1D (aCons (vF 1) (aNil))) (sN 9) (L_law_2)) (bSeq (bIf (fNotT (fTr (fB (Ph__law_same 4) (aCons (fB (Ph_kings) (aCons (vF 1) (aCons (vF 6) (aNil)))) (aCons (fB tupD (aCons (vP 8) (aNil))) (aNil)))))) (bRet (cD (.bool false))) (bNext)) (bSeq (bAsg 10 (fLst (aNil))) (bSeq (bFor (fIs rg1D (aCons (vF 1) (aNil))) (sN 11) (L_law_4)) (bSeq (bIf (fNotT (fTr (fB (Ph__law_same 4) (aCons (fB (Ph_rings) (aCons (vF 1) (aCons (vF 6) (aNil)))) (aCons (fB tupD (aCons (vF 10) (aNil))) (aNil)))))) (bRet (cD (.bool false))) (bNext)) (bSeq (bAsg 12 (fLc (fI (fB (Ph__law_orders) (aCons (fLr1 (vF 1)) (aNil)))) (sN 14) (fT (f2 eqD (fLc (fIs rg1D (aCons (f2 subD (vF 1) (cD (.int 1))) (aNil))) (sN 19) (fT (f2 notInD (fTup (aCons (f2 ixD (vF 14) (vF 19)) (aCons (f2 ixD (vF 14) (f2 addD (vF 19) (cD (.int 1)))) (aNil)))) (vF 7))) (vF 19) [19]) (fLst (aNil)))) (vF 14) [14])) (bSeq (bIf (fNotT (fTr (fB (Ph__law_same 4) (aCons (fB (Ph_order) (aCons (vF 1) (aCons (vF 6) (aNil)))) (aCons (fIf (fT (f2 neD (vF 12) (fLst (aNil)))) (f2 ixD (vF 12) (cD (.int 0))) (cD .none)) (aNil)))))) (bRet (cD (.bool false))) (bNext)) (bRet (fOr (f2 gtD (f2 modD (fB (Ph__law_cell) (aCons (vF 0) (aCons (cD (.int 3)) (aNil)))) (cD (.int 3))) (cD (.int 0))) (fAnd (f2 neD (vP 8) (fLst (aNil))) (f2 neD (vF 12) (fLst (aNil))))))))))))))))))))))))))
def Ph_law : List D → Option D := fnB (N_law).length (["script"] : List Str).length b_law
theorem dd_law (Z : Fx K mg) (cdv : Value) (A : Around) (outer : List Env) (s : Shared) (H : Hp) (E : XK) (hr : Room (8) (A.deeper (envOfC "law" (defScope s_law) s.heap.objs.size (He.ga K "law") cdv))) :
    ∃ W t, DSs (cxOf CX0 P w K mg base N_law "law" (defScope s_law) (He.ga K "law") cdv A outer s H E).nox .fz W (defBody s_law) t (b_law) := ⟨_, _,
  dss_cons (ds_asg (i := 1) (de_op (op_addAK K) ops_addA (de_int) (de_op op_modN ops_mod (de_fnK K (ok__law_cell Z) hr (by omega) rfl (da_cons (de_v 0) (da_cons (de_int) (da_nil)))) (de_int))) sc_law.nd) (dss_cons (ds_asg (i := 2) (de_fnK K (ok__law_plan Z) hr (by omega) rfl (da_cons (de_v 1) (da_nil))) sc_law.nd) (dss_cons (ds_if (dt_w (dw_or (dt_not (dt_truK K (de_fnK K (ok__law_same Z 4) hr (by omega) rfl (da_cons (de_fnK K (ok_plan Z) hr (by omega) rfl (da_cons (de_v 1) (da_nil))) (da_cons (de_v 2) (da_nil)))))) (dw_or (dt_cmp op_notBl ops_notB rfl (de_fnK K (ok_is_plan Z) hr (by omega) rfl (da_cons (de_v 1) (da_cons (de_fnK K (ok__law_listed Z 4) hr (by omega) rfl (da_cons (de_v 2) (da_nil))) (da_nil)))) (de_bl)) (dw_or1 (dt_cmp (op_neDK K hr.u64) ops_ne rfl (de_fnK K (ok_fewest_days Z) hr (by omega) rfl (da_cons (de_v 1) (da_nil))) (de_cb (call_lenK K) cs_len rfl Z.n_len bt_len (da_cons (de_v 2) (da_nil)))))))) (dss_one (ds_ret (de_bl))) (dss_nil)) (dss_cons (ds_asg (i := 3) (de_op (op_addAK K) ops_addA (de_slK K (de_v 2) (do_no) (do_is (de_neg (de_int)))) (de_ct (cr_tupK K) cs_tup rfl Z.n_tuple bt_tuple (da_cons (de_lc [("pair", 16)] sc_law.nd (di_anyK K (de_ixK K (de_v 2) (de_neg (de_int)))) (blk_of (N := N_law) (sc := defScope s_law) (by decide +kernel)) (fun _ _ _ _ _ => dg_n sc_law.nd (i := 16)) (fun _ _ _ _ _ => dts_nil) (fun _ _ _ _ _ => de_tup (da_cons (de_v 16) (da_nil))) (by decide)) (da_nil)))) sc_law.nd) (dss_cons (ds_asg (i := 4) (de_op (op_addAK K) ops_addA (de_tup (da_cons (de_op (op_addAK K) ops_addA (de_tup (da_cons (de_revU K (de_ixK K (de_ixK K (de_v 2) (de_int)) (de_int)) (de_neg (de_int))) (da_nil))) (de_slK K (de_ixK K (de_v 2) (de_int)) (do_is (de_int)) (do_no))) (da_nil))) (de_slK K (de_v 2) (do_is (de_int)) (do_no))) sc_law.nd) (dss_cons (ds_if (dt_w (dw_or (dt_cmp op_notBl ops_notB rfl (de_fnK K (ok_is_plan Z) hr (by omega) rfl (da_cons (de_v 1) (da_cons (de_v 3) (da_nil)))) (de_bl)) (dw_or (dt_cmp op_notBl ops_notB rfl (de_fnK K (ok_is_plan Z) hr (by omega) rfl (da_cons (de_v 1) (da_cons (de_revU K (de_v 2) (de_neg (de_int))) (da_nil)))) (de_bl)) (dw_or (dt_cmp op_notBl ops_notB rfl (de_fnK K (ok_is_plan Z) hr (by omega) rfl (da_cons (de_v 1) (da_cons (de_op (op_addAK K) ops_addA (de_v 2) (de_tup (da_cons (de_tup (da_nil)) (da_nil)))) (da_nil)))) (de_bl)) (dw_or1 (dt_cmp op_notBl ops_notB rfl (de_fnK K (ok_is_plan Z) hr (by omega) rfl (da_cons (de_v 1) (da_cons (de_v 4) (da_nil)))) (de_bl))))))) (dss_one (ds_ret (de_bl))) (dss_nil)) (dss_cons (ds_asg (i := 5) (DE.frz (de_lst (da_cons (de_int) (da_cons (de_slK K (de_v 2) (do_is (de_int)) (do_no)) (da_cons (de_op (op_addAK K) ops_addA (de_v 2) (de_slK K (de_v 2) (do_no) (do_is (de_int)))) (da_cons (de_op (op_addAK K) ops_addA (de_slK K (de_v 2) (do_no) (do_is (de_neg (de_int)))) (de_tup (da_cons (de_slK K (de_ixK K (de_v 2) (de_neg (de_int))) (do_is (de_int)) (do_no)) (da_nil)))) (da_cons (de_op (op_addAK K) ops_addA (de_slK K (de_v 2) (do_no) (do_is (de_neg (de_int)))) (de_tup (da_cons (de_op (op_addAK K) ops_addA (de_ixK K (de_v 2) (de_neg (de_int))) (de_tup (da_cons (de_tup (da_cons (de_v 1) (da_cons (de_op (op_addAK K) ops_addA (de_v 1) (de_int)) (da_nil)))) (da_nil)))) (da_nil)))) (da_nil)))))))) sc_law.nd) (dss_cons (ds_if (dt_cmp (op_gt_K K hr.u64) ops_gt rfl (de_v 1) (de_int)) (dss_one (ds_asg (i := 5) (de_op (op_addAK K) ops_addA (de_v 5) (de_lst (da_cons (de_op (op_addAK K) ops_addA (de_tup (da_cons (de_ct (cr_tupK K) cs_tup rfl Z.n_tuple bt_tuple (da_cons (de_cb (cr_srtK K hr.u70) cs_srt rfl Z.n_sorted bt_sorted (da_cons (de_op (op_addAK K) ops_addA (de_ixK K (de_v 2) (de_int)) (de_ixK K (de_v 2) (de_int))) (da_nil))) (da_nil))) (da_nil))) (de_slK K (de_v 2) (do_is (de_int)) (do_no))) (da_cons (de_op (op_addAK K) ops_addA (de_tup (da_cons (de_revU K (de_ixK K (de_v 2) (de_int)) (de_neg (de_int))) (da_nil))) (de_slK K (de_v 2) (do_is (de_int)) (do_no))) (da_nil))))) sc_law.nd)) (dss_nil)) (dss_cons (ds_if (dt_cmp (op_neDK K hr.u64) ops_ne rfl (de_lc [("wrong", 15)] sc_law.nd (di_anyK K (de_v 5)) (blk_of (N := N_law) (sc := defScope s_law) (by decide +kernel)) (fun _ _ _ _ _ => dg_n sc_law.nd (i := 15)) (fun _ _ _ _ _ => dts_one (dt_cmp op_notBl ops_notB rfl (de_fnK K (ok_is_plan Z) hr (by omega) rfl (da_cons (de_v 1) (da_cons (de_v 15) (da_nil)))) (de_bl))) (fun _ _ _ _ _ => de_v 15) (by decide)) (de_lst (da_nil))) (dss_one (ds_ret (de_bl))) (dss_nil)) (dss_cons (ds_asg (i := 6) (de_fnK K (ok__law_played Z) hr (by omega) rfl (da_cons (DE.frz (de_fnK K (ok__law_numbers Z) hr (by omega) rfl (da_cons (de_v 0) (da_cons (de_int) (da_cons (de_op op_modN ops_mod (de_fnK K (ok__law_cell Z) hr (by omega) rfl (da_cons (de_v 0) (da_cons (de_int) (da_nil)))) (de_int)) (da_nil)))))) (da_cons (de_v 1) (da_nil)))) sc_law.nd) (dss_cons (ds_if (dt_cmp (op_eqDK K hr.u64) ops_eq rfl (de_op op_modN ops_mod (de_fnK K (ok__law_cell Z) hr (by omega) rfl (da_cons (de_v 0) (da_cons (de_int) (da_nil)))) (de_int)) (de_int)) (dss_cons (ds_asg (i := 6) (DE.frz (de_lst (da_nil))) sc_law.nd) (dss_cons (ds_for (di_rg1 rfl Z.n_range (da_cons (de_v 1) (da_nil))) (dg_n sc_law.nd (i := 9)) (dss_one (ds_asg (i := 6) (de_op (op_addAK K) ops_addA (de_v 6) (de_lc [("other", 17)] sc_law.nd (di_rg2 rfl Z.n_range (da_cons (de_op (op_addAK K) ops_addA (de_v 9) (de_int)) (da_cons (de_v 1) (da_nil)))) (blk_of (N := N_law) (sc := defScope s_law) (by decide +kernel)) (fun _ _ _ _ _ => dg_n sc_law.nd (i := 17)) (fun _ _ _ _ _ => dts_nil) (fun _ _ _ _ _ => de_tup (da_cons (de_v 9) (da_cons (de_v 17) (da_cons (de_if (dt_cmp (op_eqDK K hr.u64) ops_eq rfl (de_op op_modN ops_mod (de_ct call_int1 cs_int rfl Z.n_int bt_int (da_cons (de_op op_fdivN ops_fdiv (de_fnK K (ok__law_cell Z) hr (by omega) rfl (da_cons (de_v 0) (da_cons (de_int) (da_nil)))) (de_op (op_addAK K) ops_addA (de_op (op_addAK K) ops_addA (de_int) (de_op op_mul ops_mul (de_int) (de_v 9))) (de_v 17))) (da_nil))) (de_int)) (de_int)) (de_tup (da_cons (de_int) (da_cons (de_int) (da_nil)))) (de_tup (da_cons (de_int) (da_cons (de_int) (da_nil))))) (da_nil))))) (by decide))) sc_law.nd))) (dss_one (ds_asg (i := 6) (de_ct (cr_tupK K) cs_tup rfl Z.n_tuple bt_tuple (da_cons (de_v 6) (da_nil))) sc_law.nd)))) (dss_nil)) (dss_cons (ds_asg (i := 7) (DE.frz (de_fnK K (ok__law_beat Z) hr (by omega) rfl (da_cons (de_v 6) (da_nil)))) sc_law.nd) (dss_cons (ds_if (dt_not (dt_truK K (de_fnK K (ok__law_same Z 4) hr (by omega) rfl (da_cons (de_fnK K (ok_beat Z) hr (by omega) rfl (da_cons (de_v 1) (da_cons (de_fnK K (ok__law_listed Z 4) hr (by omega) rfl (da_cons (de_v 6) (da_nil))) (da_nil)))) (da_cons (de_ct (cr_tupK K) cs_tup rfl Z.n_tuple bt_tuple (da_cons (de_v 7) (da_nil))) (da_nil)))))) (dss_one (ds_ret (de_bl))) (dss_nil)) (dss_cons (ds_own (i := 8) (de_lst (da_nil)) sc_law.nd) (dss_cons (ds_for (di_rg1 rfl Z.n_range (da_cons (de_v 1) (da_nil))) (dg_n sc_law.nd (i := 9)) (dss_one (ds_if (dt_cmp (op_eqDK K hr.u64) ops_eq rfl (de_lc [("other", 17)] sc_law.nd (di_rg1 rfl Z.n_range (da_cons (de_v 1) (da_nil))) (blk_of (N := N_law) (sc := defScope s_law) (by decide +kernel)) (fun _ _ _ _ _ => dg_n sc_law.nd (i := 17)) (fun _ _ _ _ _ => dts_one (dt_w (dw_and (dt_cmp (op_neDK K hr.u64) ops_ne rfl (de_v 17) (de_v 9)) (dw_and (dt_cmp (op_notIn_K K hr.u65) ops_notIn rfl (de_tup (da_cons (de_v 9) (da_cons (de_v 17) (da_nil)))) (de_v 7)) (dw_and1 (dt_cmp (op_eqDK K hr.u64) ops_eq rfl (de_lc [("mid", 20)] sc_law.nd (di_rg1 rfl Z.n_range (da_cons (de_v 1) (da_nil))) (blk_of (by with_unfolding_all rfl)) (fun _ _ _ _ _ => dg_n sc_law.nd (i := 20)) (fun _ _ _ _ _ => dts_one (dt_w (dw_and (dt_cmp (op_in_K K hr.u65) ops_in rfl (de_tup (da_cons (de_v 9) (da_cons (de_v 20) (da_nil)))) (de_v 7)) (dw_and1 (dt_cmp (op_in_K K hr.u65) ops_in rfl (de_tup (da_cons (de_v 20) (da_cons (de_v 17) (da_nil)))) (de_v 7)))))) (fun _ _ _ _ _ => de_v 20) (by decide)) (de_lst (da_nil)))))))) (fun _ _ _ _ _ => de_v 17) (by decide)) (de_lst (da_nil))) (dss_one (ds_app (j := 8) (de_v 9))) (dss_nil)))) (dss_cons (ds_if (dt_not (dt_truK K (de_fnK K (ok__law_same Z 4) hr (by omega) rfl (da_cons (de_fnK K (ok_kings Z) hr (by omega) rfl (da_cons (de_v 1) (da_cons (de_v 6) (da_nil)))) (da_cons (de_ct (cr_tupK K) cs_tup rfl Z.n_tuple bt_tuple (da_cons (de_p 8) (da_nil))) (da_nil)))))) (dss_one (ds_ret (de_bl))) (dss_nil)) (dss_cons (ds_asg (i := 10) (DE.frz (de_lst (da_nil))) sc_law.nd) (dss_cons (ds_for (di_rg1 rfl Z.n_range (da_cons (de_v 1) (da_nil))) (dg_n sc_law.nd (i := 11)) (dss_one (ds_for (di_rg1 rfl Z.n_range (da_cons (de_v 1) (da_nil))) (dg_n sc_law.nd (i := 13)) (dss_one (ds_asg (i := 10) (de_op (op_addAK K) ops_addA (de_v 10) (de_lc [("c", 18)] sc_law.nd (di_rg1 rfl Z.n_range (da_cons (de_v 1) (da_nil))) (blk_of (N := N_law) (sc := defScope s_law) (by decide +kernel)) (fun _ _ _ _ _ => dg_n sc_law.nd (i := 18)) (fun _ _ _ _ _ => dts_one (dt_w (dw_and (dt_cmp (op_lt_K K hr.u64) ops_lt rfl (de_v 11) (de_cb (call_min2 rfl) cs_min2 rfl Z.n_min bt_min (da_cons (de_v 13) (da_cons (de_v 18) (da_nil))))) (dw_and (dt_cmp (op_in_K K hr.u65) ops_in rfl (de_tup (da_cons (de_v 11) (da_cons (de_v 13) (da_nil)))) (de_v 7)) (dw_and (dt_cmp (op_in_K K hr.u65) ops_in rfl (de_tup (da_cons (de_v 13) (da_cons (de_v 18) (da_nil)))) (de_v 7)) (dw_and1 (dt_cmp (op_in_K K hr.u65) ops_in rfl (de_tup (da_cons (de_v 18) (da_cons (de_v 11) (da_nil)))) (de_v 7)))))))) (fun _ _ _ _ _ => de_tup (da_cons (de_v 11) (da_cons (de_v 13) (da_cons (de_v 18) (da_nil))))) (by decide))) sc_law.nd))))) (dss_cons (ds_if (dt_not (dt_truK K (de_fnK K (ok__law_same Z 4) hr (by omega) rfl (da_cons (de_fnK K (ok_rings Z) hr (by omega) rfl (da_cons (de_v 1) (da_cons (de_v 6) (da_nil)))) (da_cons (de_ct (cr_tupK K) cs_tup rfl Z.n_tuple bt_tuple (da_cons (de_v 10) (da_nil))) (da_nil)))))) (dss_one (ds_ret (de_bl))) (dss_nil)) (dss_cons (ds_asgLc (i := 12) [("row", 14)] sc_law.nd (di_anyK K (de_fnK K (ok__law_orders Z) hr (by omega) rfl (da_cons (DE.frz (de_lr1 rfl Z.n_list rfl Z.n_range (de_v 1))) (da_nil)))) (blk_of (N := N_law) (sc := defScope s_law) (by decide +kernel)) (fun _ _ _ _ _ => dg_n sc_law.nd (i := 14)) (fun _ _ _ _ _ => dts_one (dt_cmp (op_eqDK K hr.u64) ops_eq rfl (de_lc [("k", 19)] sc_law.nd (di_rg1 rfl Z.n_range (da_cons (de_op op_sub ops_sub (de_v 1) (de_int)) (da_nil))) (blk_of (by with_unfolding_all rfl)) (fun _ _ _ _ _ => dg_n sc_law.nd (i := 19)) (fun _ _ _ _ _ => dts_one (dt_cmp (op_notIn_K K hr.u65) ops_notIn rfl (de_tup (da_cons (de_ixK K (de_v 14) (de_v 19)) (da_cons (de_ixK K (de_v 14) (de_op (op_addAK K) ops_addA (de_v 19) (de_int))) (da_nil)))) (de_v 7))) (fun _ _ _ _ _ => de_v 19) (by decide)) (de_lst (da_nil)))) (fun _ _ _ _ _ => de_v 14) (by decide) (sw_true rfl rfl rfl (by decide +kernel))) (dss_cons (ds_if (dt_not (dt_truK K (de_fnK K (ok__law_same Z 4) hr (by omega) rfl (da_cons (de_fnK K (ok_order Z) hr (by omega) rfl (da_cons (de_v 1) (da_cons (de_v 6) (da_nil)))) (da_cons (de_if (dt_cmp (op_neDK K hr.u64) ops_ne rfl (de_v 12) (de_lst (da_nil))) (de_ixK K (de_v 12) (de_int)) (de_non)) (da_nil)))))) (dss_one (ds_ret (de_bl))) (dss_nil)) (dss_one (ds_ret (de_orK K (de_cmp (op_gt_K K hr.u64) ops_gt rfl (de_op op_modN ops_mod (de_fnK K (ok__law_cell Z) hr (by omega) rfl (da_cons (de_v 0) (da_cons (de_int) (da_nil)))) (de_int)) (de_int)) (de_one (de_andK K (de_cmp (op_neDK K hr.u64) ops_ne rfl (de_p 8) (de_lst (da_nil))) (de_one (de_cmp (op_neDK K hr.u64) ops_ne rfl (de_v 12) (de_lst (da_nil)))))))))))))))))))))))))))))⟩
theorem ok_law (Z : Fx K mg) {fd : FuncData} (F : FunD K "law" "law" (defArgs s_law) (defBody s_law) (defScope s_law) [] [] (He.ga K "law") fd) : FnOk P w K mg base CX0 9 (He.ga K "law") fd ["script"] (spM K .fz Ph_law) :=
  law_fz (P := P) (w := w) (mg := mg) (base := base) (b := b_law) (k := 8) (N := N_law) F sc_law (dd_law Z)
end
end Hd
open PySem PySem.W PySem.Calls PyProof.Rows
theorem law_from (hlaw : ∀ ns : List Int, ns.length ≤ 63 → Hd.Ph_law [.list (ns.map .int)] = some (.bool true)) : PySem.Challenge.rw_playground_k30_plans_kings_and_orders.Holds := by
  w_on; o_law
  refine HandSHeadRun.head_imp (r := OpenLaw.row PySem.Challenge.rw_playground_k30_plans_kings_and_orders) (q := view (OpenLaw.row PySem.Challenge.rw_playground_k30_plans_kings_and_orders).prog [0, 39]) (H := Hd.hk) (ob := Hd.ob) (M := 6000) (loose := Hd.loose) (d := HandSHeadRun.topDef (OpenLaw.row PySem.Challenge.rw_playground_k30_plans_kings_and_orders).prog 39) (kwd := []) Hd.ob_eq
    Hd.run (by kernel_rfl) (by kernel_rfl) (by kernel_rfl) (by rfl) (by first | assumption | decide +kernel) (by decide +kernel) ⟨rfl, rfl, rfl, rfl, rfl, by decide +kernel⟩ ?hw ?hc
  case hw => w_witness2
  case hc =>
    refine L2.walk_ofE (l := PySem.Challenge.rw_playground_k30_plans_kings_and_orders) (n := 63) (k := 9) (x := "script") (CX := L2.CX0) rfl (by decide) (by kernel_rfl) ⟨rfl, by decide, by decide⟩ ?F (fun _ _ _ _ z => z)
    intro w mg fa h Y G hmg0
    obtain ⟨K, KX, c, c2⟩ := Y
    have hmg : mg ("law" : PySem.Str) = some (.ref fa) := by
      have e : (HandSHeadRun.topDef (OpenLaw.row PySem.Challenge.rw_playground_k30_plans_kings_and_orders).prog 39).name = ("law" : PySem.Str) := by kernel_rfl
      rw [← e]
      exact hmg0
    have Z := Hd.fx_ok KX G c c2
    obtain ⟨fd, FB⟩ := Z.f_law
    have e := hmg.symm.trans Z.g_law
    cases e
    have b := L2.FunD.bindsA (ps := ["script"]) FB fun _ _ _ _ _ _ us hl => match us, hl with | [_], _ => rfl
    refine ⟨K, fd, Q.spM K .fz Hd.Ph_law, KX, fun s v => b s [v] rfl, fun H a ns hl hO hS => ?_, fun base _ _ => ?_⟩
    · exact ⟨H, [.list (ns.map .int)], .bool true, .refl _, .cons (.lst hS (Q.RepA.of_ints ns)) .nil, hlaw ns hl, fun v F' H' _ r => Q.Rep.bl_of r⟩
    · exact Hd.ok_law Z FB
end

/-! part: K30a -/
section
set_option Elab.async false
set_option linter.all false
set_option maxRecDepth 100000
set_option maxHeartbeats 400000
namespace Hd
open PySem PySem.Spec Q
theorem e_is_int (v : Int) : Ph_is_int [.int v] = some (.bool true) := by
  simp -implicitDefEqProofs [Ph_is_int, b_is_int]
theorem e_is_within (v a b : Int) : Ph_is_within [.int v, .int a, .int b] = some (.bool (decide (a ≤ v) && decide (v ≤ b))) := by
  simp -implicitDefEqProofs [Ph_is_within, b_is_within, e_is_int]
  split <;> simp_all <;> omega
theorem e_need_t (at_ : D) (ds : List D) : Ph_need [at_, .tuple ds] = some (.tuple ds) := by
  simp -implicitDefEqProofs [Ph_need, b_need]
theorem e_is_seq_l (ds : List D) : Ph_is_seq [.list ds] = some (.bool true) := by
  simp -implicitDefEqProofs [Ph_is_seq, b_is_seq]
theorem e_is_seq_t (ds : List D) : Ph_is_seq [.tuple ds] = some (.bool true) := by
  simp -implicitDefEqProofs [Ph_is_seq, b_is_seq]
theorem e_to_row_l (ds : List D) (a b : Int) (h : a ≤ ds.length ∧ (ds.length : Int) ≤ b) : Ph_to_row [.list ds, .int a, .int b] = some (.tuple ds) := by
  simp -implicitDefEqProofs [Ph_to_row, b_to_row, e_is_seq_l, h.1, h.2]
theorem e_to_row_t (ds : List D) (a b : Int) (h : a ≤ ds.length ∧ (ds.length : Int) ≤ b) : Ph_to_row [.tuple ds, .int a, .int b] = some (.tuple ds) := by
  simp -implicitDefEqProofs [Ph_to_row, b_to_row, e_is_seq_t, h.1, h.2]
theorem e_cell (ns : List Int) (k : Nat) : Ph__law_cell [.list (ns.map .int), .int k] = some (.int (ns.getD k 0)) := by
  simp -implicitDefEqProofs [Ph__law_cell, b__law_cell]
  split
  · rename_i h
    rw [atI_nat (by simpa using h)]
    simp -implicitDefEqProofs [h]
  · rename_i h
    simp -implicitDefEqProofs [List.getElem?_eq_none (Nat.not_lt.mp h)]
theorem e_to_ints_t (ns : List Int) (lo hi a b : Int) (h : a ≤ ns.length ∧ (ns.length : Int) ≤ b) (hb : ns.length ≤ 1000) (hi_ : ∀ n ∈ ns, lo ≤ n ∧ n ≤ hi) : Ph_to_ints [.tuple (ns.map .int), .int lo, .int hi, .int a, .int b] = some (.tuple (ns.map .int)) := by
  simp -implicitDefEqProofs [Ph_to_ints, b_to_ints, e_to_row_t (ns.map .int) a b (by simpa using h)]
  rw [lcL_all (g := fun n => .bool true) (by simp) (fun n hn => by simp [e_is_within, hi_ n hn])]
  rw [Option.bind_some, lcB_small (by simp; omega)]
  simp
theorem e_to_ints_l (ns : List Int) (lo hi a b : Int) (h : a ≤ ns.length ∧ (ns.length : Int) ≤ b) (hb : ns.length ≤ 1000) (hi_ : ∀ n ∈ ns, lo ≤ n ∧ n ≤ hi) : Ph_to_ints [.list (ns.map .int), .int lo, .int hi, .int a, .int b] = some (.tuple (ns.map .int)) := by
  simp -implicitDefEqProofs [Ph_to_ints, b_to_ints, e_to_row_l (ns.map .int) a b (by simpa using h)]
  rw [lcL_all (g := fun n => .bool true) (by simp) (fun n hn => by simp [e_is_within, hi_ n hn])]
  rw [Option.bind_some, lcB_small (by simp; omega)]
  simp
theorem e_numbers (ns : List Int) (spot : Nat) (k : Nat) (hk : k ≤ 1000) : ∃ l : List Int, l.length = k ∧ Ph__law_numbers [.list (ns.map .int), .int spot, .int k] = some (.list (l.map .int)) := by
  simp -implicitDefEqProofs [Ph__law_numbers, b__law_numbers, e_cell, rg1_n (k := k) (by omega)]
  generalize hc : ns[spot]?.getD 0 = c
  obtain ⟨ρ', h1, l, r, s6, s7, h2, h3⟩ := forL_ex (step := turnD (sN 6) L__law_numbers_1) (xs := List.range k) (mk := fun i => .int (i : Nat)) (fun (j : Nat) (ρ : Rho) => ∃ (l : List Int) (r : Int) (s6 s7 : Sl), l.length = j ∧ ρ = [.im (.list (ns.map .int)), .im (.int spot), .im (.int k), .im (.int c), .ow (.list (l.map .int)), .im (.int r), s6, s7])
    _ ⟨[], c, .un, .un, rfl, rfl⟩ (by
      rintro j ρ x ⟨l, r, s6, s7, rfl, rfl⟩ hx
      have hlt : l.length < k := by
        have := (List.getElem?_eq_some_iff.mp hx).1
        simpa using this
      have hs : l.length < sizeLine := by have := line_ge; omega
      by_cases h : (1000000000000000000 : Int) ≤ c
      · refine ⟨[.im (.list (ns.map .int)), .im (.int spot), .im (.int k), .im (.int c), .ow (.list ((l ++ [r % (10 ^ 9)]).map .int)), .im (.int (r / (10 ^ 9))), .im (.int x), s7], .inl ?_, _, _, _, _, by simp, rfl⟩
        simp -implicitDefEqProofs [L__law_numbers_1, h, hs]
      · refine ⟨[.im (.list (ns.map .int)), .im (.int spot), .im (.int k), .im (.int c), .ow (.list ((l ++ [((((c * 48271 + ((x : Int) + 1) * 69621 + spot) % 2147483647) * 16807 + ((x : Int) + 3) * 40692) % 2147483399) % (10 ^ 9)]).map .int)), .im (.int r), .im (.int x), .im (.int ((c * 48271 + ((x : Int) + 1) * 69621 + spot) % 2147483647))], .inl ?_, _, _, _, _, by simp, rfl⟩
        simp -implicitDefEqProofs [L__law_numbers_1, h, hs])
  rw [List.map_nil] at h1
  rw [h1]
  subst h3
  refine ⟨l, by simpa using h2, ?_⟩
  simp
/-! ### the rhymes -/
theorem e_listed_i (n : Nat) (i : Int) : Ph__law_listed (n + 1) [.int i] = some (.int i) := by
  simp -implicitDefEqProofs [Ph__law_listed, b__law_listed]
theorem e_listed (ws : List Int) (h : ws.length ≤ 1000) : Ph__law_listed 4 [.tuple (ws.map .int)] = some (.list (ws.map .int)) := by
  have e := e_listed_i 2
  rw [Ph__law_listed]
  generalize Ph__law_listed 3 = φ at *
  simp -implicitDefEqProofs [b__law_listed]
  rw [lcL_all (g := fun n => .int n) (by simp) (fun n hn => by simp [e]), Option.bind_some, Function.comp, lcB_small (by simp; omega)]
  simp
theorem e_same_i (n : Nat) (i j : Int) : Ph__law_same (n + 1) [.int i, .int j] = some (.bool (i == j)) := by
  simp -implicitDefEqProofs [Ph__law_same, b__law_same]
theorem e_same (ns ms : List Int) (h : ns.length ≤ 1000) : Ph__law_same 4 [.tuple (ns.map .int), .tuple (ms.map .int)] = some (.bool (decide (ns = ms))) := by
  have e := e_same_i 2
  rw [Ph__law_same]
  generalize Ph__law_same 3 = φ at *
  simp -implicitDefEqProofs [b__law_same, rg1_n (k := ns.length) (by omega)]
  by_cases hl : ns.length = ms.length
  · rw [lcL_map (p := fun k => !(ns.getD k 0 == ms.getD k 0)) (g := fun k => .int (k : Nat)) (fun k hk => by
      have hk' : k < ns.length := by simpa using hk
      simp [at_n ns hk', at_n ms (by omega : k < ms.length), e]) (fun k hk _ => by simp), Option.bind_some, lcB_small (by
        have := List.length_filter_le (fun k => !(ns.getD k 0 == ms.getD k 0)) (List.range ns.length)
        simp only [List.length_map, List.length_range] at *
        omega), Option.bind_some, eq_f0, same_filter hl]
    simp [hl]
  · have hne : ns ≠ ms := fun z => hl (by rw [z])
    have hl' : ¬ (ns.length : Int) = ms.length := by omega
    simp [hl', hne]
theorem e_listed_g : ∀ (n : Nat) (d : D), tame n d = true → Ph__law_listed n [d] = some (lstd n d)
  | 0, d, h => by cases d <;> cases h
  | n + 1, .int i, _ => e_listed_i n i
  | n + 1, .bool i, _ => by simp -implicitDefEqProofs [Ph__law_listed, b__law_listed]; rfl
  | n + 1, .none, _ => by simp -implicitDefEqProofs [Ph__law_listed, b__law_listed]; rfl
  | n + 1, .str s, _ => by simp -implicitDefEqProofs [Ph__law_listed, b__law_listed]; rfl
  | n + 1, .list s, h => by cases h
  | n + 1, .dict s, h => by cases h
  | n + 1, .tuple ds, h => by
    obtain ⟨h1, h2⟩ := tame_t h
    have ih : ∀ d ∈ ds, Ph__law_listed n [d] = some (lstd n d) := fun d hd => e_listed_g n d (h2 d hd)
    rw [Ph__law_listed]
    generalize Ph__law_listed n = φ at *
    have e := lcL_all (α := D) (xs := ds) (mk := id) (g := lstd n) (tt := fun d => fYes ([Sl.im (.tuple ds), .un].set 1 (.im d))) (te := fun d => fB φ (aCons (vF 1) aNil) ([Sl.im (.tuple ds), .un].set 1 (.im d))) (by simp) (fun d hd => by simp [ih d hd])
    rw [List.map_id] at e
    simp -implicitDefEqProofs [b__law_listed]
    simp -implicitDefEqProofs at e
    rw [e, Option.bind_some, Function.comp, lcB_small (by simp; omega)]
    simp [lstd]
theorem e_same_r : ∀ (n : Nat) (d : D), tame n d = true → Ph__law_same n [d, d] = some (.bool true)
  | 0, d, h => by cases d <;> cases h
  | n + 1, .int i, _ => by simp -implicitDefEqProofs [Ph__law_same, b__law_same]
  | n + 1, .bool i, _ => by simp -implicitDefEqProofs [Ph__law_same, b__law_same]
  | n + 1, .none, _ => by simp -implicitDefEqProofs [Ph__law_same, b__law_same]
  | n + 1, .str s, h => by simp -implicitDefEqProofs [Ph__law_same, b__law_same, eq_str (x := s) h]
  | n + 1, .list s, h => by cases h
  | n + 1, .dict s, h => by cases h
  | n + 1, .tuple ds, h => by
    obtain ⟨h1, h2⟩ := tame_t h
    have ih : ∀ d ∈ ds, Ph__law_same n [d, d] = some (.bool true) := fun d hd => e_same_r n d (h2 d hd)
    rw [Ph__law_same]
    generalize Ph__law_same n = φ at *
    have e0 : eqD (.list []) (.list []) = some (.bool true) := rfl
    simp -implicitDefEqProofs [b__law_same, rg1_n (k := ds.length) (by omega)]
    rw [lcL_map (p := fun k => false) (g := fun k => .int (k : Nat)) (fun k hk => by
      have hk' : k < ds.length := by simpa using hk
      simp [atI_nat hk', ih _ (List.getElem_mem hk')]) (fun k hk _ => by simp), Option.bind_some, lcB_small (by rw [List.length_map, List.filter_eq_nil_iff.mpr (by simp)]; simp)]
    simp [e0]
end Hd
end

/-! part: K30b -/
section
set_option Elab.async false
set_option linter.all false
set_option maxRecDepth 100000
set_option maxHeartbeats 400000
namespace Hd
open PySem PySem.Spec Q
/-! ### games played -/
abbrev Gm := Int × Int × Int × Int
def mkG (g : Gm) : D := .tuple [.int g.1, .int g.2.1, .tuple [.int g.2.2.1, .int g.2.2.2]]
def lsG (g : Gm) : D := .list [.int g.1, .int g.2.1, .list [.int g.2.2.1, .int g.2.2.2]]
def okG (s : Nat) (g : Gm) : Prop := (0 ≤ g.1 ∧ g.1 < g.2.1) ∧ g.2.1 < s ∧ (0 ≤ g.2.2.1 ∧ g.2.2.1 ≤ 20) ∧ 0 ≤ g.2.2.2 ∧ g.2.2.2 ≤ 20
theorem e_need_i (at_ : D) (v : Int) : Ph_need [at_, .int v] = some (.int v) := by
  simp -implicitDefEqProofs [Ph_need, b_need]
theorem e_to_sides (s : Nat) (h : 2 ≤ s ∧ s ≤ 6) : Ph_to_sides [.int s] = some (.int s) := by
  have h1 : (2 : Int) ≤ s := by omega
  have h2 : (s : Int) ≤ 6 := by omega
  simp -implicitDefEqProofs [Ph_to_sides, b_to_sides, e_is_within, h1, h2]
theorem e_pair_t (x y : Int) (h : (0 ≤ x ∧ x ≤ 20) ∧ 0 ≤ y ∧ y ≤ 20) : Ph_to_int_pair [.tuple [.int x, .int y], .int 0, .int 20] = some (.tuple [.int x, .int y]) := by
  have e := e_to_ints_t [x, y] 0 20 2 2 (by simp) (by simp) (fun n hn => by simp at hn; rcases hn with rfl | rfl <;> omega)
  simp only [List.map_cons, List.map_nil] at e
  simp -implicitDefEqProofs [Ph_to_int_pair, b_to_int_pair, e]
theorem e_pair_l (x y : Int) (h : (0 ≤ x ∧ x ≤ 20) ∧ 0 ≤ y ∧ y ≤ 20) : Ph_to_int_pair [.list [.int x, .int y], .int 0, .int 20] = some (.tuple [.int x, .int y]) := by
  have e := e_to_ints_l [x, y] 0 20 2 2 (by simp) (by simp) (fun n hn => by simp at hn; rcases hn with rfl | rfl <;> omega)
  simp only [List.map_cons, List.map_nil] at e
  simp -implicitDefEqProofs [Ph_to_int_pair, b_to_int_pair, e]
theorem e_is_match (s : Nat) (a b : Int) (h : (0 ≤ a ∧ a < b) ∧ b < s) : Ph_is_match [.int s, .int a, .int b] = some (.bool true) := by
  have h1 : a ≤ (s : Int) - 1 := by omega
  have h2 : b ≤ (s : Int) - 1 := by omega
  have h3 : 0 ≤ b := by omega
  simp -implicitDefEqProofs [Ph_is_match, b_is_match, e_is_within, h.1.1, h.1.2, h1, h2, h3]
theorem e_to_played (s : Nat) (gs : List Gm) (mk : Gm → D) (d : D) (hm : mk = mkG ∨ mk = lsG) (hd : d = .tuple (gs.map mk) ∨ d = .list (gs.map mk)) (hl : gs.length ≤ 30) (hg : ∀ g ∈ gs, okG s g) :
    Ph_to_played [.int s, d] = some (.tuple (gs.map mkG)) := by
  have h30 : (gs.length : Int) ≤ 30 := by omega
  have er : Ph_to_row [d, .int 0, .int 30] = some (.tuple (gs.map mk)) := by
    rcases hd with rfl | rfl
    · exact e_to_row_t _ _ _ (by simp; omega)
    · exact e_to_row_l _ _ _ (by simp; omega)
  have em : ∀ g ∈ gs, ∃ w, Ph_to_row [mk g, .int 3, .int 3] = some (.tuple [.int g.1, .int g.2.1, w]) ∧ Ph_to_int_pair [w, .int 0, .int 20] = some (.tuple [.int g.2.2.1, .int g.2.2.2]) := fun g hgm => by
    obtain ⟨_, _, h3⟩ := hg g hgm
    rcases hm with rfl | rfl
    · exact ⟨_, e_to_row_t _ _ _ (by simp), e_pair_t _ _ h3⟩
    · exact ⟨_, e_to_row_l _ _ _ (by simp), e_pair_l _ _ h3⟩
  simp -implicitDefEqProofs [Ph_to_played, b_to_played, er]
  obtain ⟨ρ', h1, y1, y2, y3, h2⟩ := forL_all (step := turnD (sN 4) L_to_played_1) (xs := gs) (mk := mk) (fun pre (ρ : Rho) => ∃ y1 y2 y3, ρ = [.im (.int s), .im d, .im (.tuple (gs.map mk)), .ow (.list (pre.map mkG)), y1, y2, y3])
    [.im (.int s), .im d, .im (.tuple (gs.map mk)), .ow (.list []), .un, .un, .un] ⟨.un, .un, .un, by simp⟩ (by
    rintro pre post ρ g ⟨_, _, _, rfl⟩ hx
    have hgm : g ∈ gs := split_mem hx
    have hlt := split_len hx
    obtain ⟨k1, k2, k3⟩ := hg g hgm
    obtain ⟨w, e1, e2⟩ := em g hgm
    have e3 := e_is_match s g.1 g.2.1 ⟨k1, k2⟩
    have hb : pre.length < sizeLine := by have := line_ge; omega
    refine ⟨[.im (.int s), .im d, .im (.tuple (gs.map mk)), .ow (.list ((pre ++ [g]).map mkG)), .im (mk g), .im (.tuple [.int g.1, .int g.2.1, w]), .im (.tuple [.int g.2.2.1, .int g.2.2.2])], .inl ?_, _, _, _, rfl⟩
    have i0 : L2.atI [PyData.int g.1, .int g.2.1, w] 0 = some (.int g.1) := atI_nat (n := 0) (by simp)
    have i1 : L2.atI [PyData.int g.1, .int g.2.1, w] 1 = some (.int g.2.1) := atI_nat (n := 1) (by simp)
    have i2 : L2.atI [PyData.int g.1, .int g.2.1, w] 2 = some w := atI_nat (n := 2) (by simp)
    simp -implicitDefEqProofs [L_to_played_1, e1, i0, i1, i2, e2, e3, hb, mkG])
  rw [h1]
  subst h2
  simp
end Hd
end

/-! part: K30c -/
section
set_option Elab.async false
set_option linter.all false
set_option maxRecDepth 100000
set_option maxHeartbeats 400000
namespace Hd
open PySem PySem.Spec Q
/-! ### who beat whom -/
def winG (g : Gm) : Option (Int × Int) := if g.2.2.1 > g.2.2.2 then some (g.1, g.2.1) else if g.2.2.1 < g.2.2.2 then some (g.2.1, g.1) else none
def winsL (gs : List Gm) : List (Int × Int) := gs.filterMap winG
theorem winsL_snoc (pre : List Gm) (g : Gm) : winsL (pre ++ [g]) = winsL pre ++ (winG g).toList := by
  unfold winsL
  rw [List.filterMap_append]
  cases h : winG g <;> simp [h]
theorem winsL_len (gs : List Gm) : (winsL gs).length ≤ gs.length := List.length_filterMap_le _ _
theorem winsL_ok {s : Nat} {gs : List Gm} (hg : ∀ g ∈ gs, okG s g) : ∀ p ∈ winsL gs, (0 ≤ p.1 ∧ p.1 < s) ∧ (0 ≤ p.2 ∧ p.2 < s) ∧ p.1 ≠ p.2 := fun p hp => by
  obtain ⟨g, h1, h2⟩ := List.mem_filterMap.mp hp
  obtain ⟨k1, k2, _⟩ := hg g h1
  unfold winG at h2
  split at h2
  · cases h2; exact ⟨⟨by omega, by omega⟩, ⟨by omega, by omega⟩, by simp only; omega⟩
  · split at h2
    · cases h2; exact ⟨⟨by omega, by omega⟩, ⟨by omega, by omega⟩, by simp only; omega⟩
    · cases h2
theorem ix3 (a b c : D) : L2.atI [a, b, c] 0 = some a ∧ L2.atI [a, b, c] 1 = some b ∧ L2.atI [a, b, c] 2 = some c :=
  ⟨atI_nat (n := 0) (by simp), atI_nat (n := 1) (by simp), atI_nat (n := 2) (by simp)⟩
theorem ix2 (a b : D) : L2.atI [a, b] 0 = some a ∧ L2.atI [a, b] 1 = some b := ⟨atI_nat (n := 0) (by simp), atI_nat (n := 1) (by simp)⟩
def memP (p : Int × Int) (W : List (Int × Int)) : Bool := decide (p ∈ W)
theorem memP_t {p : Int × Int} {W : List (Int × Int)} : memP p W = true ↔ p ∈ W := by simp [memP]
theorem in_Pl (a b : Int) (W : List (Int × Int)) : inD (.tuple [.int a, .int b]) (.list (W.map mkP)) = some (.bool (memP (a, b) W)) := by
  have e := nice_P.in_l (by decide) (a, b) W
  rw [show mkP (a, b) = .tuple [.int a, .int b] from rfl] at e
  rw [e]
  exact congrArg (fun z => some (PyData.bool z)) (decide_eq_decide.mpr Iff.rfl)
theorem in_Pt (a b : Int) (W : List (Int × Int)) : inD (.tuple [.int a, .int b]) (.tuple (W.map mkP)) = some (.bool (memP (a, b) W)) := by
  have e := nice_P.in_t (by decide) (a, b) W
  rw [show mkP (a, b) = .tuple [.int a, .int b] from rfl] at e
  rw [e]
  exact congrArg (fun z => some (PyData.bool z)) (decide_eq_decide.mpr Iff.rfl)
theorem nin_Pl (a b : Int) (W : List (Int × Int)) : notInD (.tuple [.int a, .int b]) (.list (W.map mkP)) = some (.bool (!memP (a, b) W)) := by
  have e := nice_P.notIn_l (by decide) (a, b) W
  rw [show mkP (a, b) = .tuple [.int a, .int b] from rfl] at e
  rw [e]
  exact congrArg (fun z => some (PyData.bool (!z))) (decide_eq_decide.mpr Iff.rfl)
theorem tupP (p : Int × Int) : PyData.tuple [.int p.1, .int p.2] = mkP p := rfl
theorem e_wins_of (s : Nat) (gs : List Gm) (hs : s ≤ 6) (hl : gs.length ≤ 30) (hg : ∀ g ∈ gs, okG s g) : Ph_wins_of [.tuple (gs.map mkG)] = some (.tuple ((ssP (winsL gs)).map mkP)) := by
  simp -implicitDefEqProofs [Ph_wins_of, b_wins_of]
  obtain ⟨ρ', h1, y2, y3, y4, h2⟩ := forL_all (step := turnD (sT 3 (sCons (sN 2) (sCons (sN 3) (sCons (sN 4) (sNil))))) L_wins_of_1) (xs := gs) (mk := mkG) (fun pre (ρ : Rho) => ∃ y2 y3 y4, ρ = [.im (.tuple (gs.map mkG)), .ow (.list ((winsL pre).map mkP)), y2, y3, y4])
    [.im (.tuple (gs.map mkG)), .ow (.list []), .un, .un, .un] ⟨.un, .un, .un, by simp [winsL]⟩ (by
    rintro pre post ρ g ⟨_, _, _, rfl⟩ hx
    have hlt := split_len hx
    have hlw := winsL_len pre
    have hb : (winsL pre).length < sizeLine := by have := line_ge; omega
    obtain ⟨i0, i1⟩ := ix2 (.int g.2.2.1) (.int g.2.2.2)
    refine ⟨[.im (.tuple (gs.map mkG)), .ow (.list ((winsL (pre ++ [g])).map mkP)), .im (.int g.1), .im (.int g.2.1), .im (.tuple [.int g.2.2.1, .int g.2.2.2])], .inl ?_, _, _, _, rfl⟩
    rw [winsL_snoc]
    by_cases c1 : g.2.2.1 > g.2.2.2
    · have e : winG g = some (g.1, g.2.1) := if_pos c1
      have c1' : g.2.2.2 < g.2.2.1 := c1
      simp -implicitDefEqProofs [L_wins_of_1, mkG, i0, i1, c1', e, hb, mkP]
    · have c1' : ¬ g.2.2.2 < g.2.2.1 := c1
      by_cases c2 : g.2.2.1 < g.2.2.2
      · have e : winG g = some (g.2.1, g.1) := by unfold winG; rw [if_neg c1, if_pos c2]
        simp -implicitDefEqProofs [L_wins_of_1, mkG, i0, i1, c1', c2, e, hb, mkP]
      · have e : winG g = none := by unfold winG; rw [if_neg c1, if_neg c2]
        simp -implicitDefEqProofs [L_wins_of_1, mkG, i0, i1, c1', c2, e, hb, mkP])
  rw [h1]
  subst h2
  have e := srtSet_mk (ps := winsL gs) (by have := winsL_len gs; omega) (fun p hp => by
    obtain ⟨a, b, _⟩ := winsL_ok hg p hp
    omega)
  simp -implicitDefEqProofs [e]
theorem e_law_beat (s : Nat) (gs : List Gm) (hl : gs.length ≤ 30) (hg : ∀ g ∈ gs, okG s g) : Ph__law_beat [.tuple (gs.map mkG)] = some (.list ((ssP (winsL gs)).map mkP)) := by
  simp -implicitDefEqProofs [Ph__law_beat, b__law_beat]
  obtain ⟨ρ', h1, W, y2, y3, y4, y5, h2, n1, n2, n3⟩ := forL_all (step := turnD (sT 3 (sCons (sN 2) (sCons (sN 3) (sCons (sN 4) (sNil))))) L__law_beat_1) (xs := gs) (mk := mkG) (fun pre (ρ : Rho) => ∃ (W : List (Int × Int)) (y2 y3 y4 y5 : Sl), ρ = [.im (.tuple (gs.map mkG)), .ow (.list (W.map mkP)), y2, y3, y4, y5] ∧ W.Nodup ∧ (∀ p, p ∈ W ↔ p ∈ winsL pre) ∧ W.length ≤ pre.length)
    [.im (.tuple (gs.map mkG)), .ow (.list []), .un, .un, .un, .un] ⟨[], .un, .un, .un, .un, by simp, List.nodup_nil, fun p => by simp [winsL], Nat.le_refl _⟩ (by
    rintro pre post ρ g ⟨W, _, _, _, _, rfl, n1, n2, n3⟩ hx
    have hlt := split_len hx
    have hb : W.length < sizeLine := by have := line_ge; omega
    obtain ⟨i0, i1⟩ := ix2 (.int g.2.2.1) (.int g.2.2.2)
    have key : ∀ p : Int × Int, (winG g = some p ∧ p ∉ W) → (W ++ [p]).Nodup ∧ (∀ q, q ∈ W ++ [p] ↔ q ∈ winsL (pre ++ [g])) ∧ (W ++ [p]).length ≤ (pre ++ [g]).length := fun p ⟨hp, hn⟩ => by
      refine ⟨?_, fun q => ?_, by simp; omega⟩
      · rw [List.nodup_append]
        exact ⟨n1, List.nodup_cons.mpr ⟨by simp, List.nodup_nil⟩, fun a ha b hb => by rw [List.mem_singleton.mp hb]; exact fun z => hn (z ▸ ha)⟩
      · rw [winsL_snoc, List.mem_append, List.mem_append, n2, hp]
        simp
    have key2 : (winG g = none ∨ ∃ p, winG g = some p ∧ p ∈ W) → (∀ q, q ∈ W ↔ q ∈ winsL (pre ++ [g])) ∧ W.length ≤ (pre ++ [g]).length := fun h => by
      refine ⟨fun q => ?_, by simp; omega⟩
      rw [winsL_snoc, List.mem_append, ← n2]
      rcases h with h | ⟨p, h, hw⟩
      · rw [h]; simp
      · rw [h]
        simp only [Option.toList_some, List.mem_singleton]
        exact ⟨.inl, fun z => z.elim id fun e => e ▸ hw⟩
    by_cases c1 : g.2.2.1 > g.2.2.2
    · have e : winG g = some (g.1, g.2.1) := if_pos c1
      have c1' : g.2.2.2 < g.2.2.1 := c1
      have c3 : ¬ g.2.2.1 = g.2.2.2 := by omega
      have hq := nin_Pl g.1 g.2.1 W
      by_cases cm : (g.1, g.2.1) ∈ W <;> have cb := cm <;> rw [← memP_t] at cb
      · refine ⟨[.im (.tuple (gs.map mkG)), .ow (.list (W.map mkP)), .im (.int g.1), .im (.int g.2.1), .im (.tuple [.int g.2.2.1, .int g.2.2.2]), .im (.tuple [.int g.1, .int g.2.1])], .inl ?_, W, _, _, _, _, rfl, n1, key2 (.inr ⟨_, e, cm⟩)⟩
        simp -implicitDefEqProofs [L__law_beat_1, mkG, i0, i1, c1', c3, hq, cb]
      · refine ⟨[.im (.tuple (gs.map mkG)), .ow (.list ((W ++ [(g.1, g.2.1)]).map mkP)), .im (.int g.1), .im (.int g.2.1), .im (.tuple [.int g.2.2.1, .int g.2.2.2]), .im (.tuple [.int g.1, .int g.2.1])], .inl ?_, _, _, _, _, _, rfl, key _ ⟨e, cm⟩⟩
        simp -implicitDefEqProofs [L__law_beat_1, mkG, i0, i1, c1', c3, hq, cb, hb, mkP]
    · have c1' : ¬ g.2.2.2 < g.2.2.1 := c1
      by_cases c2 : g.2.2.1 < g.2.2.2
      · have e : winG g = some (g.2.1, g.1) := by unfold winG; rw [if_neg c1, if_pos c2]
        have c3 : ¬ g.2.2.1 = g.2.2.2 := by omega
        have hq := nin_Pl g.2.1 g.1 W
        by_cases cm : (g.2.1, g.1) ∈ W <;> have cb := cm <;> rw [← memP_t] at cb
        · refine ⟨[.im (.tuple (gs.map mkG)), .ow (.list (W.map mkP)), .im (.int g.1), .im (.int g.2.1), .im (.tuple [.int g.2.2.1, .int g.2.2.2]), .im (.tuple [.int g.2.1, .int g.1])], .inl ?_, W, _, _, _, _, rfl, n1, key2 (.inr ⟨_, e, cm⟩)⟩
          simp -implicitDefEqProofs [L__law_beat_1, mkG, i0, i1, c1', c3, hq, cb]
        · refine ⟨[.im (.tuple (gs.map mkG)), .ow (.list ((W ++ [(g.2.1, g.1)]).map mkP)), .im (.int g.1), .im (.int g.2.1), .im (.tuple [.int g.2.2.1, .int g.2.2.2]), .im (.tuple [.int g.2.1, .int g.1])], .inl ?_, _, _, _, _, _, rfl, key _ ⟨e, cm⟩⟩
          simp -implicitDefEqProofs [L__law_beat_1, mkG, i0, i1, c1', c3, hq, cb, hb, mkP]
      · have e : winG g = none := by unfold winG; rw [if_neg c1, if_neg c2]
        have c3 : g.2.2.1 = g.2.2.2 := by omega
        obtain ⟨j0, j1⟩ := ix2 (.int g.2.2.2) (.int g.2.2.2)
        refine ⟨[.im (.tuple (gs.map mkG)), .ow (.list (W.map mkP)), .im (.int g.1), .im (.int g.2.1), .im (.tuple [.int g.2.2.1, .int g.2.2.2]), .im (.tuple [.int g.2.1, .int g.1])], .inl ?_, W, _, _, _, _, rfl, n1, key2 (.inl e)⟩
        simp -implicitDefEqProofs [L__law_beat_1, mkG, j0, j1, c3])
  rw [h1]
  subst h2
  have e := sorted_tup nice_P (by decide) ordd_P (fun a => ⟨_, _, rfl⟩) W (.list (W.map mkP)) (.inl rfl)
  rw [sort_ssP n1 n2] at e
  simp -implicitDefEqProofs [e]
end Hd
end

/-! part: K30d -/
section
set_option Elab.async false
set_option linter.all false
set_option maxRecDepth 100000
set_option maxHeartbeats 400000
namespace Hd
open PySem PySem.Spec Q
/-! ### beat, kings -/
theorem bls_b {α : Type} (p : α → Bool) : ∀ xs : List α, blsOf (xs.map fun x => PyData.bool (p x)) = some (xs.map p)
  | [] => rfl
  | x :: xs => by rw [List.map_cons, List.map_cons, blsOf, bls_b p xs]; rfl
theorem all_b {α : Type} (p : α → Bool) (xs : List α) : allD [.list (xs.map fun x => PyData.bool (p x))] = some (.bool (xs.all p)) := by
  rw [all_l, bls_b]
  simp [List.all_map, Function.comp_def]
theorem any_b {α : Type} (p : α → Bool) (xs : List α) : anyD [.list (xs.map fun x => PyData.bool (p x))] = some (.bool (xs.any p)) := by
  rw [any_l, bls_b]
  simp [List.any_map, Function.comp_def]
abbrev WL := List (Int × Int)
def bt (W : WL) (i j : Nat) : Bool := memP ((i : Int), (j : Int)) W
def ruleB (s : Nat) (W : WL) (i j : Nat) : Bool := bt W i j || (List.range s).any fun k => bt W i k && bt W k j
theorem in_bt (W : WL) (i j : Nat) : inD (.tuple [.int i, .int j]) (.tuple (W.map mkP)) = some (.bool (bt W i j)) := in_Pt i j W
theorem e_rules_over (s : Nat) (W : WL) (i j : Nat) (hs : s ≤ 6) : Ph_rules_over [.int s, .tuple (W.map mkP), .int i, .int j] = some (.bool (ruleB s W i j)) := by
  simp -implicitDefEqProofs [Ph_rules_over, b_rules_over, in_bt, rg1_n (k := s) (by omega), ruleB]
  cases h : bt W i j with
  | true => simp
  | false =>
    simp -implicitDefEqProofs [rg1_n (k := s) (by omega : s ≤ 100000)]
    rw [lcL_all (g := fun k => .bool (bt W i k && bt W k j)) (by simp) (fun k hk => by
      simp [in_bt]
      cases bt W i k <;> simp), Option.bind_some, lcB_small (by simp; omega)]
    simp only [Option.bind_some, any_b]
    simp
def topsL (s : Nat) (W : WL) : List Nat := (List.range s).filter fun i => (List.range s).all fun j => decide (j = i) || ruleB s W i j
section
variable (s : Nat) (gs : List Gm) (hs : 2 ≤ s ∧ s ≤ 6) (hl : gs.length ≤ 30) (hg : ∀ g ∈ gs, okG s g)
include hs hl hg
theorem e_beat (mk : Gm → D) (d : D) (hm : mk = mkG ∨ mk = lsG) (hd : d = .tuple (gs.map mk) ∨ d = .list (gs.map mk)) : Ph_beat [.int s, d] = some (.tuple ((ssP (winsL gs)).map mkP)) := by
  simp -implicitDefEqProofs [Ph_beat, b_beat, e_to_sides s hs, e_need_i, e_to_played s gs mk d hm hd hl hg, e_need_t, e_wins_of s gs hs.2 hl hg]
theorem e_kings : Ph_kings [.int s, .tuple (gs.map mkG)] = some (.tuple ((topsL s (ssP (winsL gs))).map fun i => .int (i : Nat))) := by
  generalize hW : ssP (winsL gs) = W
  have hw := e_wins_of s gs hs.2 hl hg
  rw [hW] at hw
  simp -implicitDefEqProofs [Ph_kings, b_kings, e_to_sides s hs, e_need_i, e_to_played s gs mkG _ (.inl rfl) (.inl rfl) hl hg, e_need_t, hw, rg1_n (k := s) (by omega)]
  obtain ⟨ρ', h1, y4, h2⟩ := forL_all (step := turnD (sN 4) L_kings_1) (xs := List.range s) (mk := fun i => .int (i : Nat)) (fun pre (ρ : Rho) => ∃ y4, ρ = [.im (.int s), .im (.tuple (gs.map mkG)), .im (.tuple (W.map mkP)), .ow (.list ((pre.filter fun i => (List.range s).all fun j => decide (j = i) || ruleB s W i j).map fun i => .int (i : Nat))), y4, .un])
    [.im (.int s), .im (.tuple (gs.map mkG)), .im (.tuple (W.map mkP)), .ow (.list []), .un, .un] ⟨.un, by simp⟩ (by
    rintro pre post ρ i ⟨_, rfl⟩ hx
    obtain ⟨e1, hk, e3⟩ := range_split hx
    have hb : (pre.filter fun i => (List.range s).all fun j => decide (j = i) || ruleB s W i j).length < sizeLine := by
      have := List.length_filter_le (fun i => (List.range s).all fun j => decide (j = i) || ruleB s W i j) pre
      have := line_ge
      omega
    refine ⟨[.im (.int s), .im (.tuple (gs.map mkG)), .im (.tuple (W.map mkP)), .ow (.list (((pre ++ [i]).filter fun i => (List.range s).all fun j => decide (j = i) || ruleB s W i j).map fun i => .int (i : Nat))), .im (.int i), .un], .inl ?_, _, rfl⟩
    simp -implicitDefEqProofs [L_kings_1, rg1_n (k := s) (by omega : s ≤ 100000)]
    rw [lcL_all (g := fun j => .bool (decide (j = i) || ruleB s W i j)) (by simp) (fun j hj => by
      simp [e_rules_over s W i j hs.2]
      by_cases e : j = i
      · subst e; simp
      · have e' : ¬ (j : Int) = i := by omega
        simp [e, e']), Option.bind_some, lcB_small (by simp; omega)]
    simp only [Option.bind_some, all_b]
    cases c : (List.range s).all fun j => decide (j = i) || ruleB s W i j with
    | true => simp -implicitDefEqProofs [hb, c]
    | false => simp -implicitDefEqProofs [c])
  rw [h1]
  subst h2
  simp [topsL]
end
end Hd
end

/-! part: K30e -/
section
set_option Elab.async false
set_option linter.all false
set_option maxRecDepth 100000
set_option maxHeartbeats 400000
namespace Hd
open PySem PySem.Spec Q
/-! ### rings -/
abbrev Tr := Int × Int × Int
def mkT (t : Tr) : D := .tuple [.int t.1, .int t.2.1, .int t.2.2]
def lt3 (p q : Tr) : Bool := decide (p.1 < q.1 ∨ p.1 = q.1 ∧ (p.2.1 < q.2.1 ∨ p.2.1 = q.2.1 ∧ p.2.2 < q.2.2))
theorem nice_T : Nice 1 mkT := nice_trip nice_int nice_int nice_int
theorem ordd_T : Ordd mkT lt3 :=
  ⟨fun p q => ordd_rows.alike [p.1, p.2.1, p.2.2] [q.1, q.2.1, q.2.2], fun p q => by
    have e := ordd_rows.lt [p.1, p.2.1, p.2.2] [q.1, q.2.1, q.2.2]
    refine Eq.trans e ?_
    unfold lt3
    rw [decide_eq_decide]
    simp [List.cons_lt_cons_iff], fun _ z => nomatch z⟩
theorem sort_uniq {α : Type} {lt : α → α → Bool} (tot : ∀ a b, lt a b = false → lt b a = false → a = b) (tr : ∀ a b c, lt b a = false → lt c b = false → lt c a = false) (as : ∀ a b, lt a b = true → lt b a = false)
    {l l' : List α} (n1 : l.Nodup) (n2 : l'.Nodup) (hm : ∀ x, x ∈ l ↔ x ∈ l') (hs : l'.Pairwise fun a b => lt b a = false) : (l.mergeSort fun a b => !lt b a) = l' := by
  have h := List.pairwise_mergeSort (le := fun a b => !lt b a) (fun a b c h1 h2 => by simp only [Bool.not_eq_true'] at *; exact tr a b c h1 h2) (fun a b => by
    cases h : lt b a with
    | false => rfl
    | true => simp [as b a h]) l
  have p2 : (l.mergeSort fun a b => !lt b a).Perm l' := (List.mergeSort_perm _ _).trans ((List.perm_ext_iff_of_nodup n1 n2).mpr hm)
  exact p2.eq_of_pairwise (fun a b _ _ h1 h2 => tot a b h2 h1) (h.imp fun h => by simpa using h) hs
theorem lt3_tot (a b : Tr) (h1 : lt3 a b = false) (h2 : lt3 b a = false) : a = b := by
  obtain ⟨a1, a2, a3⟩ := a
  obtain ⟨b1, b2, b3⟩ := b
  simp only [lt3, decide_eq_false_iff_not] at h1 h2
  have e1 : a1 = b1 := by omega
  subst e1
  have e2 : a2 = b2 := by omega
  subst e2
  have e3 : a3 = b3 := by omega
  subst e3
  rfl
theorem lt3_tr (a b c : Tr) (h1 : lt3 b a = false) (h2 : lt3 c b = false) : lt3 c a = false := by
  simp only [lt3, decide_eq_false_iff_not] at *
  omega
theorem lt3_as (a b : Tr) (h1 : lt3 a b = true) : lt3 b a = false := by
  simp only [lt3, decide_eq_false_iff_not, decide_eq_true_eq] at *
  omega
def rOk (W : WL) (t : Tr) : Bool := decide (t.1 < t.2.1) && (memP (t.2.1, t.2.2) W && memP (t.2.2, t.1) W)
def rowP (s : Nat) (W : WL) (p : Int × Int) : List Tr := ((List.range ((s : Int) - (p.1 + 1)).toNat).filter fun (k : Nat) => rOk W (p.1, p.2, p.1 + 1 + (k : Int))).map fun (k : Nat) => (p.1, p.2, p.1 + 1 + (k : Int))
def ringsP (s : Nat) (W : WL) : List Tr := W.flatMap (rowP s W)
theorem rowP_len (s : Nat) (W : WL) (p : Int × Int) (hs : s ≤ 6) (hp : 0 ≤ p.1) : (rowP s W p).length ≤ 6 := by
  unfold rowP
  rw [List.length_map]
  have := List.length_filter_le (fun k : Nat => rOk W (p.1, p.2, p.1 + 1 + (k : Int))) (List.range ((s : Int) - (p.1 + 1)).toNat)
  rw [List.length_range] at this
  omega
theorem flat_len (s : Nat) (W : WL) (hs : s ≤ 6) : ∀ l : WL, (∀ p ∈ l, 0 ≤ p.1) → (l.flatMap (rowP s W)).length ≤ 6 * l.length
  | [], _ => by simp
  | p :: l, h => by
    rw [List.flatMap_cons, List.length_append, List.length_cons]
    have h1 := rowP_len s W p hs (h p List.mem_cons_self)
    have h2 := flat_len s W hs l fun q hq => h q (List.mem_cons_of_mem _ hq)
    omega
section
variable (s : Nat) (gs : List Gm) (hs : 2 ≤ s ∧ s ≤ 6) (hl : gs.length ≤ 30) (hg : ∀ g ∈ gs, okG s g)
include hs hl hg
theorem W_ok : (∀ p ∈ ssP (winsL gs), (0 ≤ p.1 ∧ p.1 < s) ∧ (0 ≤ p.2 ∧ p.2 < s) ∧ p.1 ≠ p.2) ∧ (ssP (winsL gs)).Nodup ∧ (ssP (winsL gs)).length ≤ 30 := by
  refine ⟨fun p hp => winsL_ok hg p (ssP_mem.mp hp), ((List.mergeSort_perm _ _).nodup_iff).mpr (ddP_nodup _), ?_⟩
  have h1 : (ssP (winsL gs)).length = (ddP (winsL gs)).length := (List.mergeSort_perm _ _).length_eq
  have h2 : ∀ ps : WL, (ddP ps).length ≤ ps.length := fun ps => by
    induction ps with
    | nil => exact Nat.le_refl _
    | cons p ps ih =>
      unfold ddP
      split <;> simp <;> omega
  have := h2 (winsL gs)
  have := winsL_len gs
  omega
theorem e_rings : Ph_rings [.int s, .tuple (gs.map mkG)] = some (.tuple (((ringsP s (ssP (winsL gs))).mergeSort fun a b => !lt3 b a).map mkT)) := by
  obtain ⟨wo, _, wl⟩ := W_ok s gs hs hl hg
  have hw := e_wins_of s gs hs.2 hl hg
  generalize ssP (winsL gs) = W at *
  simp -implicitDefEqProofs [Ph_rings, b_rings, e_to_sides s hs, e_need_i, e_to_played s gs mkG _ (.inl rfl) (.inl rfl) hl hg, e_need_t, hw]
  obtain ⟨ρ', h1, y4, y5, y6, h2⟩ := forL_all (step := turnD (sT 2 (sCons (sN 4) (sCons (sN 5) (sNil)))) L_rings_2) (xs := W) (mk := mkP) (fun pre (ρ : Rho) => ∃ y4 y5 y6, ρ = [.im (.int s), .im (.tuple (gs.map mkG)), .im (.tuple (W.map mkP)), .ow (.list ((pre.flatMap (rowP s W)).map mkT)), y4, y5, y6])
    [.im (.int s), .im (.tuple (gs.map mkG)), .im (.tuple (W.map mkP)), .ow (.list []), .un, .un, .un] ⟨.un, .un, .un, by simp⟩ (by
    rintro pre post ρ p ⟨z4, z5, z6, rfl⟩ hx
    have hp := wo p (split_mem hx)
    have hlt := split_len hx
    have hf := flat_len s W hs.2 pre fun q hq => (wo q (by rw [hx]; exact List.mem_append_left _ hq)).1.1
    have key : ∃ y6, forL (turnD (sN 6) L_rings_1) ((List.range ((s : Int) - (p.1 + 1)).toNat).map fun i => .int (p.1 + 1 + (i : Nat))) [.im (.int s), .im (.tuple (gs.map mkG)), .im (.tuple (W.map mkP)), .ow (.list ((pre.flatMap (rowP s W)).map mkT)), .im (.int p.1), .im (.int p.2), z6] = some (.nx [.im (.int s), .im (.tuple (gs.map mkG)), .im (.tuple (W.map mkP)), .ow (.list (((pre ++ [p]).flatMap (rowP s W)).map mkT)), .im (.int p.1), .im (.int p.2), y6]) := by
      obtain ⟨ρ'', g1, y6, g2⟩ := forL_all (step := turnD (sN 6) L_rings_1) (xs := List.range ((s : Int) - (p.1 + 1)).toNat) (mk := fun i => .int (p.1 + 1 + (i : Nat))) (fun pr (ρ : Rho) => ∃ y6, ρ = [.im (.int s), .im (.tuple (gs.map mkG)), .im (.tuple (W.map mkP)), .ow (.list ((pre.flatMap (rowP s W) ++ (pr.filter fun (k : Nat) => rOk W (p.1, p.2, p.1 + 1 + (k : Int))).map fun (k : Nat) => (p.1, p.2, p.1 + 1 + (k : Int))).map mkT)), .im (.int p.1), .im (.int p.2), y6])
        [.im (.int s), .im (.tuple (gs.map mkG)), .im (.tuple (W.map mkP)), .ow (.list ((pre.flatMap (rowP s W)).map mkT)), .im (.int p.1), .im (.int p.2), z6] ⟨z6, by simp⟩ (by
        rintro pr po ρ k ⟨_, rfl⟩ hk
        obtain ⟨e1, hk2, e3⟩ := range_split hk
        have hb : (pre.flatMap (rowP s W)).length + (pr.filter fun (k : Nat) => rOk W (p.1, p.2, p.1 + 1 + (k : Int))).length < sizeLine := by
          have := List.length_filter_le (fun k : Nat => rOk W (p.1, p.2, p.1 + 1 + (k : Int))) pr
          have := line_ge
          omega
        refine ⟨[.im (.int s), .im (.tuple (gs.map mkG)), .im (.tuple (W.map mkP)), .ow (.list ((pre.flatMap (rowP s W) ++ ((pr ++ [k]).filter fun (k : Nat) => rOk W (p.1, p.2, p.1 + 1 + (k : Int))).map fun (k : Nat) => (p.1, p.2, p.1 + 1 + (k : Int))).map mkT)), .im (.int p.1), .im (.int p.2), .im (.int (p.1 + 1 + (k : Int)))], .inl ?_, _, rfl⟩
        have q1 := in_Pt p.2 (p.1 + 1 + (k : Int)) W
        have q2 := in_Pt (p.1 + 1 + (k : Int)) p.1 W
        rw [List.filter_append]
        generalize pre.flatMap (rowP s W) = T at *
        by_cases c1 : p.1 < p.2
        · cases c2 : memP (p.2, p.1 + 1 + (k : Int)) W with
          | false =>
            have hr : rOk W (p.1, p.2, p.1 + 1 + (k : Int)) = false := by simp [rOk, c2]
            simp -implicitDefEqProofs [L_rings_1, c1, q1, q2, c2, hr]
          | true =>
            cases c3 : memP (p.1 + 1 + (k : Int), p.1) W with
            | false =>
              have hr : rOk W (p.1, p.2, p.1 + 1 + (k : Int)) = false := by simp [rOk, c3]
              simp -implicitDefEqProofs [L_rings_1, c1, q1, q2, c2, c3, hr]
            | true =>
              have hr : rOk W (p.1, p.2, p.1 + 1 + (k : Int)) = true := by simp [rOk, c1, c2, c3]
              simp -implicitDefEqProofs [L_rings_1, c1, q1, q2, c2, c3, hr, hb, mkT]
        · have hr : rOk W (p.1, p.2, p.1 + 1 + (k : Int)) = false := by simp [rOk, c1]
          simp -implicitDefEqProofs [L_rings_1, c1, hr])
      subst g2
      refine ⟨y6, g1.trans ?_⟩
      simp [rowP]
    obtain ⟨y6, key⟩ := key
    refine ⟨_, .inl ?_, .im (.int p.1), .im (.int p.2), y6, rfl⟩
    simp -implicitDefEqProofs [L_rings_2, mkP, rg2_n (lo := p.1 + 1) (hi := (s : Int)) (by omega) (by omega)]
    simpa -implicitDefEqProofs using key)
  rw [h1]
  subst h2
  have e := sorted_tup nice_T (by decide) ordd_T (fun a => ⟨_, _, rfl⟩) (ringsP s W) (.list ((ringsP s W).map mkT)) (.inl rfl)
  simp -implicitDefEqProofs [ringsP] at e ⊢
  simp -implicitDefEqProofs [e]
end
end Hd
end

/-! part: K30f -/
section
set_option Elab.async false
set_option linter.all false
set_option maxRecDepth 100000
set_option maxHeartbeats 400000
namespace Hd
open PySem PySem.Spec Q
/-! ### orders -/
def rowT (row : List Nat) : D := .tuple (row.map fun i => .int (i : Nat))
def moreE (s : Nat) (row : List Nat) : List (List Nat) := ((List.range s).filter fun i => !decide (i ∈ row)).map fun i => row ++ [i]
def ordE (s : Nat) : Nat → List (List Nat)
  | 0 => [[]]
  | k + 1 => (ordE s k).flatMap (moreE s)
theorem ord_perm : ∀ s ∈ [2, 3, 4, 5, 6], ordE s s = permL s (List.range s) := by decide +kernel
theorem moreE_len (s : Nat) (row : List Nat) (hs : s ≤ 6) : (moreE s row).length ≤ 6 := by
  unfold moreE
  rw [List.length_map]
  have := List.length_filter_le (fun i => !decide (i ∈ row)) (List.range s)
  rw [List.length_range] at this
  omega
theorem flatE_len (s : Nat) (hs : s ≤ 6) : ∀ l : List (List Nat), (l.flatMap (moreE s)).length ≤ 6 * l.length
  | [] => by simp
  | p :: l => by
    rw [List.flatMap_cons, List.length_append, List.length_cons]
    have h1 := moreE_len s p hs
    have h2 := flatE_len s hs l
    omega
theorem ordE_len (s : Nat) (hs : s ≤ 6) : ∀ k, (ordE s k).length ≤ 6 ^ k
  | 0 => by simp [ordE]
  | k + 1 => by
    have h1 := flatE_len s hs (ordE s k)
    have h2 := ordE_len s hs k
    rw [ordE, Nat.pow_succ]
    omega
theorem ordE_row (s : Nat) : ∀ k, ∀ row ∈ ordE s k, row.length = k
  | 0, row, h => by simp [ordE] at h; subst h; rfl
  | k + 1, row, h => by
    rw [ordE, List.mem_flatMap] at h
    obtain ⟨r, h1, h2⟩ := h
    obtain ⟨i, _, rfl⟩ := List.mem_map.mp h2
    rw [List.length_append, ordE_row s k r h1]
    rfl
theorem nice_rowT : Nice 1 (fun row : List Int => PyData.tuple (row.map .int)) := nice_tup nice_int
theorem nin_row (i : Nat) (row : List Nat) : notInD (.int (i : Nat)) (rowT row) = some (.bool (!decide (i ∈ row))) := by
  have e := nice_int.notIn_t (by decide) (i : Int) (row.map fun (i : Nat) => (i : Int))
  rw [List.map_map] at e
  refine Eq.trans e ?_
  refine congrArg (fun z => some (PyData.bool (!z))) (decide_eq_decide.mpr ?_)
  rw [List.mem_map]
  exact ⟨fun ⟨a, h, e⟩ => by
    have : a = i := by omega
    rw [← this]
    exact h, fun h => ⟨i, h, rfl⟩⟩
theorem e_orders (s : Nat) (hs : 2 ≤ s ∧ s ≤ 6) : Ph__law_orders [.list ((List.range s).map fun i => .int (i : Nat))] = some (.list ((ordE s s).map rowT)) := by
  have el : ∀ (f : Nat → D), ((List.range s).map f).length = s := fun f => by simp
  simp -implicitDefEqProofs [Ph__law_orders, b__law_orders, rg1_n (k := s) (by omega)]
  have er : (PyData.list [.tuple []]) = .list ((ordE s 0).map rowT) := rfl
  obtain ⟨ρ', h1, y2, y3, y4, h2⟩ := forL_all (step := turnD (sN 2) L__law_orders_2) (xs := List.range s) (mk := fun i => .int (i : Nat)) (fun pre (ρ : Rho) => ∃ y2 y3 y4, ρ = [.im (.list ((List.range s).map fun i => .int (i : Nat))), .im (.list ((ordE s pre.length).map rowT)), y2, y3, y4, .un])
    [.im (.list ((List.range s).map fun i => .int (i : Nat))), .im (.list [.tuple []]), .un, .un, .un, .un] ⟨.un, .un, .un, rfl⟩ (by
    rintro pre post ρ x ⟨z2, z3, z4, rfl⟩ hx
    obtain ⟨e1, hk, e3⟩ := range_split hx
    have hl := ordE_len s hs.2 pre.length
    have h6 : 6 ^ pre.length ≤ 6 ^ 5 := Nat.pow_le_pow_right (by decide) (by omega)
    have h65 : (6 : Nat) ^ 5 = 7776 := by decide
    have hrow := ordE_row s pre.length
    obtain ⟨ρ'', g1, y4, g2⟩ := forL_all (step := turnD (sN 4) L__law_orders_1) (xs := ordE s pre.length) (mk := rowT) (fun pr (ρ : Rho) => ∃ y4, ρ = [.im (.list ((List.range s).map fun i => .int (i : Nat))), .im (.list ((ordE s pre.length).map rowT)), .im (.int (x : Nat)), .im (.list ((pr.flatMap (moreE s)).map rowT)), y4, .un])
      [.im (.list ((List.range s).map fun i => .int (i : Nat))), .im (.list ((ordE s pre.length).map rowT)), .im (.int (x : Nat)), .im (.list []), z4, .un] ⟨z4, by simp⟩ (by
      rintro pr po ρ row ⟨_, rfl⟩ hk2
      have hlt := split_len hk2
      have hf := flatE_len s hs.2 pr
      have hm := moreE_len s row hs.2
      have hrl := hrow row (split_mem hk2)
      have hb : (pr.flatMap (moreE s)).length + (moreE s row).length ≤ sizeLine := by have := line_ge; omega
      have hb2 : row.length + 1 ≤ sizeLine := by have := line_ge; omega
      refine ⟨[.im (.list ((List.range s).map fun i => .int (i : Nat))), .im (.list ((ordE s pre.length).map rowT)), .im (.int (x : Nat)), .im (.list (((pr ++ [row]).flatMap (moreE s)).map rowT)), .im (rowT row), .un], .inl ?_, _, rfl⟩
      have hfl : (pr ++ [row]).flatMap (moreE s) = pr.flatMap (moreE s) ++ moreE s row := by simp
      rw [hfl]
      generalize pr.flatMap (moreE s) = T at *
      generalize ordE s pre.length = O at *
      simp -implicitDefEqProofs [L__law_orders_1]
      rw [lcL_map (p := fun i => !decide (i ∈ row)) (g := fun i => rowT (row ++ [i])) (fun i hi => by simp [nin_row]) (fun i hi _ => by simp -implicitDefEqProofs [rowT, hb2]), Option.bind_some, lcB_small (by
        have := List.length_filter_le (fun i => !decide (i ∈ row)) (List.range s)
        rw [List.length_map]
        rw [List.length_range] at this
        omega)]
      have e2 : ((List.range s).filter fun i => !decide (i ∈ row)).map (fun i => rowT (row ++ [i])) = (moreE s row).map rowT := by rw [moreE, List.map_map]; rfl
      rw [e2]
      generalize moreE s row = M at *
      simp -implicitDefEqProofs [hb])
    subst g2
    refine ⟨_, .inl ?_, .im (.int (x : Nat)), .im (.list ((ordE s (pre.length + 1)).map rowT)), y4, by rw [List.length_append]⟩
    simp -implicitDefEqProofs [L__law_orders_2]
    rw [g1]
    simp [ordE])
  rw [h1]
  subst h2
  simp
end Hd
end

/-! part: K30g -/
section
set_option Elab.async false
set_option linter.all false
set_option maxRecDepth 100000
set_option maxHeartbeats 400000
namespace Hd
open PySem PySem.Spec Q
/-! ### the first order in which each beat the next -/
def goodR (s : Nat) (W : WL) (row : List Nat) : Bool := (List.range (s - 1)).all fun k => bt W (row.getD k 0) (row.getD (k + 1) 0)
theorem rows_eq (s : Nat) : rowsD (rgD 0 s) (permL s (List.range s)) = (permL s (List.range s)).map rowT := by
  unfold rowsD
  refine List.map_congr_left fun row hr => ?_
  unfold rowT
  refine congrArg PyData.tuple (List.map_congr_left fun i hi => ?_)
  have hlt := perm_lt row hr i hi
  rw [List.getD_eq_getElem?_getD, rgD, List.getElem?_map, List.getElem?_range hlt]
  simp
theorem prm_e (s : Nat) (hs : s ≤ 6) : prmRD (.int s) = some ((permL s (List.range s)).map rowT) := by
  have : prmRD (.int (s : Int)) = if -(2 ^ 62) ≤ (s : Int) ∧ (s : Int) ≤ 6 then some (rowsD (rgD 0 (s : Int).toNat) (permL (s : Int).toNat (List.range (s : Int).toNat))) else none := rfl
  rw [this, if_pos (by omega), Int.toNat_natCast, rows_eq]
theorem at_row {row : List Nat} {k : Nat} (h : k < row.length) : L2.atI (row.map fun i => PyData.int (i : Nat)) (k : Int) = some (.int ((row.getD k 0 : Nat) : Int)) := by
  rw [atI_nat (by simpa using h)]
  simp [List.getD_eq_getElem?_getD, h]
def optR (o : Option (List Nat)) : D := match o with
  | some row => rowT row
  | none => .none
theorem fi1_e (g : D → Option (List D)) (f : Rho → Option D) (ρ : Rho) : fI1 g f ρ = (f ρ).bind g := rfl
theorem find_some {α : Type} (p : α → Bool) (f : α → D) : ∀ xs : List α, xs.findSome? (fun x => if p x = true then some (f x) else none) = (xs.find? p).map f
  | [] => rfl
  | x :: xs => by
    rw [List.findSome?_cons, List.find?_cons]
    cases h : p x with
    | true => simp
    | false => simp [find_some p f xs]
theorem chk_row (s : Nat) (W : WL) (row : List Nat) (hs : 2 ≤ s ∧ s ≤ 6) (hr : row.length = s) {tt : D → Option Bool} {te : D → Option D} (ht : ∀ k : Nat, tt (.int k) = some true)
    (he : ∀ k : Nat, te (.int k) = (L2.atI (row.map fun i => PyData.int (i : Nat)) (k : Int)).bind fun a => (L2.atI (row.map fun i => PyData.int (i : Nat)) ((k : Int) + 1)).bind fun b => inD (.tuple [a, b]) (.tuple (W.map mkP))) :
    lcL tt te ((List.range (s - 1)).map fun k => .int (k : Nat)) = some ((List.range (s - 1)).map fun k => .bool (bt W (row.getD k 0) (row.getD (k + 1) 0))) :=
  lcL_all (fun k _ => ht k) fun k hk => by
    have hk' := List.mem_range.mp hk
    have e1 : ((k : Int) + 1) = ((k + 1 : Nat) : Int) := by omega
    rw [he, e1, at_row (by omega : k < row.length), at_row (by omega : k + 1 < row.length), Option.bind_some, Option.bind_some, in_bt]
section
variable (s : Nat) (gs : List Gm) (hs : 2 ≤ s ∧ s ≤ 6) (hl : gs.length ≤ 30) (hg : ∀ g ∈ gs, okG s g)
include hs hl hg
theorem e_order : Ph_order [.int s, .tuple (gs.map mkG)] = some (optR ((permL s (List.range s)).find? (goodR s (ssP (winsL gs))))) := by
  have hw := e_wins_of s gs hs.2 hl hg
  generalize ssP (winsL gs) = W at *
  have hp := e_to_played s gs mkG _ (.inl rfl) (.inl rfl) hl hg
  simp -implicitDefEqProofs [Ph_order, b_order, e_to_sides s hs, e_need_i, hp, e_need_t, hw, fi1_e, prm_e s hs.2]
  obtain ⟨c1, c2⟩ := forL_some (step := turnD (sN 3) L_order_1) (mk := rowT) (fun row => if goodR s W row = true then some (rowT row) else none) (permL s (List.range s)) (fun _ ρ => ∃ y3, ρ = [.im (.int s), .im (.tuple (gs.map mkG)), .im (.tuple (W.map mkP)), y3, .un])
    [.im (.int s), .im (.tuple (gs.map mkG)), .im (.tuple (W.map mkP)), .un, .un] ⟨.un, rfl⟩ (by
    rintro k ρ row ⟨y3, rfl⟩ hk
    have hr := (permL_mem (List.mem_of_getElem? hk)).1
    have e1 : ((s : Int) - 1) = ((s - 1 : Nat) : Int) := by omega
    have key : turnD (sN 3) L_order_1 (rowT row) [.im (.int s), .im (.tuple (gs.map mkG)), .im (.tuple (W.map mkP)), y3, .un] = if goodR s W row = true then some (.rt (rowT row)) else some (.nx [.im (.int s), .im (.tuple (gs.map mkG)), .im (.tuple (W.map mkP)), .im (rowT row), .un]) := by
      simp -implicitDefEqProofs [L_order_1, e1, rg1_n (k := s - 1) (by omega), rowT]
      rw [chk_row s W row hs hr (by simp) (fun k => by
        simp -implicitDefEqProofs
        generalize L2.atI (List.map (fun (i : Nat) => PyData.int (i : Int)) row) (k : Int) = A
        generalize L2.atI (List.map (fun (i : Nat) => PyData.int (i : Int)) row) ((k : Int) + 1) = B
        cases A <;> cases B <;> simp), Option.bind_some, lcB_small (by simp; omega)]
      simp only [Option.bind_some, all_b]
      show _ = if goodR s W row = true then _ else _
      cases h : goodR s W row with
      | true =>
        have h' : ((List.range (s - 1)).all fun k => bt W (row.getD k 0) (row.getD (k + 1) 0)) = true := h
        rw [h']; simp
      | false =>
        have h' : ((List.range (s - 1)).all fun k => bt W (row.getD k 0) (row.getD (k + 1) 0)) = false := h
        rw [h']; simp
    refine ⟨fun d hd => ?_, fun hd => ?_⟩
    · rw [key]
      split at hd
      · rename_i hq; rw [if_pos hq]; cases hd; rfl
      · cases hd
    · rw [key]
      split at hd
      · cases hd
      · rename_i hq; rw [if_neg hq]; exact ⟨_, rfl, _, rfl⟩)
  rw [find_some] at c1 c2
  cases hf : (permL s (List.range s)).find? (goodR s W) with
  | some row =>
    rw [hf] at c1
    rw [c1 _ rfl]
    simp [optR]
  | none =>
    rw [hf] at c2
    obtain ⟨ρ', h1, y3, h2⟩ := c2 rfl
    rw [h1]
    subst h2
    simp [optR]
end
end Hd
end

/-! part: K30h -/
section
set_option Elab.async false
set_option linter.all false
set_option maxRecDepth 100000
set_option maxHeartbeats 400000
namespace Hd
open PySem PySem.Spec Q
/-! ### where all have met there is a king and an order -/
section
variable {R : Nat → Nat → Bool}
theorem king_ex (tot : ∀ x y, x ≠ y → R x y = true ∨ R y x = true) : ∀ l : List Nat, l ≠ [] → ∃ k ∈ l, ∀ j ∈ l, j = k ∨ R k j = true ∨ ∃ m ∈ l, R k m = true ∧ R m j = true
  | [], h => absurd rfl h
  | [v], _ => ⟨v, by simp, fun j hj => .inl (by simpa using hj)⟩
  | v :: w :: l, _ => by
    obtain ⟨k, hk, h⟩ := king_ex tot (w :: l) (by simp)
    have up : ∀ j ∈ w :: l, j = k ∨ R k j = true ∨ ∃ m ∈ v :: w :: l, R k m = true ∧ R m j = true := fun j hj => by
      rcases h j hj with a | a | ⟨m, m1, m2⟩
      · exact .inl a
      · exact .inr (.inl a)
      · exact .inr (.inr ⟨m, List.mem_cons_of_mem _ m1, m2⟩)
    by_cases hv : v = k ∨ R k v = true ∨ ∃ m ∈ w :: l, R k m = true ∧ R m v = true
    · refine ⟨k, List.mem_cons_of_mem _ hk, fun j hj => ?_⟩
      rcases List.mem_cons.mp hj with e | hj
      · subst e
        rcases hv with a | a | ⟨m, m1, m2⟩
        · exact .inl a
        · exact .inr (.inl a)
        · exact .inr (.inr ⟨m, List.mem_cons_of_mem _ m1, m2⟩)
      · exact up j hj
    · have n1 : v ≠ k := fun z => hv (.inl z)
      have n2 : ¬ R k v = true := fun z => hv (.inr (.inl z))
      have n3 : ∀ m ∈ w :: l, R k m = true → ¬ R m v = true := fun m m1 m2 m3 => hv (.inr (.inr ⟨m, m1, m2, m3⟩))
      have vk : R v k = true := (tot v k n1).elim id fun z => absurd z n2
      have vm : ∀ m ∈ w :: l, R k m = true → m = v ∨ R v m = true := fun m m1 m2 => by
        by_cases e : m = v
        · exact .inl e
        · exact .inr ((tot v m (Ne.symm e)).elim id fun z => absurd z (n3 m m1 m2))
      refine ⟨v, by simp, fun j hj => ?_⟩
      rcases List.mem_cons.mp hj with e | hj
      · exact .inl e
      · rcases h j hj with a | a | ⟨m, m1, m2, m3⟩
        · subst a; exact .inr (.inl vk)
        · rcases vm j hj a with b | b
          · exact .inl b
          · exact .inr (.inl b)
        · rcases vm m m1 m2 with b | b
          · subst b; exact .inr (.inl m3)
          · exact .inr (.inr ⟨m, List.mem_cons_of_mem _ m1, b, m3⟩)
/-- each has R to the next -/
def chn (R : Nat → Nat → Bool) : List Nat → Prop
  | [] => True
  | [_] => True
  | x :: y :: l => R x y = true ∧ chn R (y :: l)
def insR (R : Nat → Nat → Bool) (v : Nat) : List Nat → List Nat
  | [] => [v]
  | x :: l => if R v x = true then v :: x :: l else x :: insR R v l
theorem insR_perm (v : Nat) : ∀ l, (insR R v l).Perm (v :: l)
  | [] => List.Perm.refl _
  | x :: l => by
    unfold insR
    split
    · exact List.Perm.refl _
    · exact ((insR_perm v l).cons x).trans (List.Perm.swap v x l)
theorem insR_chn (tot : ∀ x y, x ≠ y → R x y = true ∨ R y x = true) (v : Nat) : ∀ l, v ∉ l → chn R l → chn R (insR R v l) ∧ (∀ x, (∀ y, l.head? = some y → R x y = true) → R x v = true → ∀ y, (insR R v l).head? = some y → R x y = true)
  | [], _, _ => ⟨trivial, fun x _ h y hy => by simp [insR] at hy; rw [← hy]; exact h⟩
  | z :: l, hn, hc => by
    have hn1 : v ≠ z := fun e => hn (by simp [e])
    have hn2 : v ∉ l := fun e => hn (by simp [e])
    unfold insR
    by_cases hz : R v z = true
    · rw [if_pos hz]
      exact ⟨⟨hz, hc⟩, fun x _ h y hy => by simp at hy; rw [← hy]; exact h⟩
    · rw [if_neg hz]
      have zv : R z v = true := (tot v z hn1).elim (fun q => absurd q hz) id
      have hcl : chn R l := by
        cases l with
        | nil => trivial
        | cons y l => exact hc.2
      obtain ⟨a, b⟩ := insR_chn tot v l hn2 hcl
      have hh : ∀ y, l.head? = some y → R z y = true := fun y hy => by
        cases l with
        | nil => cases hy
        | cons y' l => cases hy; exact hc.1
      have nx := b z hh zv
      refine ⟨?_, fun x hx _ y hy => hx y (by simpa using hy)⟩
      cases hi : insR R v l with
      | nil => trivial
      | cons y l' =>
        rw [hi] at a nx
        exact ⟨nx y rfl, a⟩
theorem chn_ex (tot : ∀ x y, x ≠ y → R x y = true ∨ R y x = true) : ∀ l : List Nat, l.Nodup → ∃ p, p.Perm l ∧ chn R p
  | [], _ => ⟨[], List.Perm.refl _, trivial⟩
  | v :: l, h => by
    obtain ⟨h1, h2⟩ := List.nodup_cons.mp h
    obtain ⟨p, p1, p2⟩ := chn_ex tot l h2
    exact ⟨insR R v p, (insR_perm v p).trans (p1.cons v), (insR_chn tot v p (fun z => h1 (p1.mem_iff.mp z)) p2).1⟩
theorem chn_at : ∀ {l : List Nat} {k : Nat}, chn R l → k + 1 < l.length → R (l.getD k 0) (l.getD (k + 1) 0) = true
  | x :: y :: l, 0, h, _ => h.1
  | x :: y :: l, k + 1, h, hk => chn_at (l := y :: l) (k := k) h.2 (by simpa using hk)
  | [x], k, h, hk => by simp at hk
  | [], k, h, hk => by simp at hk
end
theorem permL_all : ∀ {k : Nat} {l row : List Nat}, l.length = k → row.Perm l → row ∈ permL k l
  | 0, l, row, hl, hp => by
    have : l = [] := List.length_eq_zero_iff.mp hl
    subst this
    rw [hp.eq_nil]
    simp [permL]
  | k + 1, l, row, hl, hp => by
    cases row with
    | nil =>
      have := hp.length_eq
      simp at this
      omega
    | cons x row =>
      have hx : x ∈ l := hp.mem_iff.mp (by simp)
      have hp2 : row.Perm (l.erase x) := by
        have := hp.erase x
        rwa [List.erase_cons_head] at this
      simp only [permL, List.mem_flatMap, List.mem_map]
      exact ⟨x, hx, row, permL_all (by rw [List.length_erase_of_mem hx, hl]; rfl) hp2, rfl⟩
/-- on s sides, W without gaps -/
theorem king_tops {s : Nat} {W : WL} (hs : 2 ≤ s) (tot : ∀ i j : Nat, i < s → j < s → i ≠ j → bt W i j = true ∨ bt W j i = true) : topsL s W ≠ [] := by
  obtain ⟨k, k1, k2⟩ := king_ex (R := fun i j => if i < s ∧ j < s then bt W i j else decide (i < j)) (fun x y hne => by
    by_cases h : x < s ∧ y < s
    · simp only [if_pos h, if_pos h.symm]
      exact tot x y h.1 h.2 hne
    · have h' : ¬ (y < s ∧ x < s) := fun z => h z.symm
      simp only [if_neg h, if_neg h', decide_eq_true_eq]
      omega) (List.range s) (by intro z; have := congrArg List.length z; simp at this; omega)
  have hk := List.mem_range.mp k1
  have : k ∈ topsL s W := by
    unfold topsL
    rw [List.mem_filter]
    refine ⟨k1, List.all_eq_true.mpr fun j hj => ?_⟩
    have hj' := List.mem_range.mp hj
    rcases k2 j hj with a | a | ⟨m, m1, m2, m3⟩
    · simp [a]
    · simp only [hk, hj', and_self, if_true] at a
      simp [ruleB, a]
    · have hm := List.mem_range.mp m1
      simp only [hk, hj', hm, and_self, if_true] at m2 m3
      have : ((List.range s).any fun k' => bt W k k' && bt W k' j) = true := List.any_eq_true.mpr ⟨m, m1, by rw [m2, m3]; rfl⟩
      simp only [ruleB, this, Bool.or_true]
  intro z
  rw [z] at this
  cases this
theorem order_ex {s : Nat} {W : WL} (tot : ∀ i j : Nat, i < s → j < s → i ≠ j → bt W i j = true ∨ bt W j i = true) : ∃ row ∈ permL s (List.range s), goodR s W row = true := by
  obtain ⟨p, p1, p2⟩ := chn_ex (R := fun i j => if i < s ∧ j < s then bt W i j else decide (i < j)) (fun x y hne => by
    by_cases h : x < s ∧ y < s
    · simp only [if_pos h, if_pos h.symm]
      exact tot x y h.1 h.2 hne
    · have h' : ¬ (y < s ∧ x < s) := fun z => h z.symm
      simp only [if_neg h, if_neg h', decide_eq_true_eq]
      omega) (List.range s) List.nodup_range
  have pl : p.length = s := by rw [p1.length_eq, List.length_range]
  refine ⟨p, permL_all (by simp) p1, ?_⟩
  unfold goodR
  refine List.all_eq_true.mpr fun k hk => ?_
  have hk' := List.mem_range.mp hk
  have h := chn_at (k := k) p2 (by omega)
  have m : ∀ i, i < p.length → p.getD i 0 < s := fun i hi => by
    rw [List.getD_eq_getElem?_getD, List.getElem?_eq_getElem hi]
    exact List.mem_range.mp (p1.mem_iff.mp (List.getElem_mem hi))
  rw [if_pos ⟨m k (by omega), m (k + 1) (by omega)⟩] at h
  exact h
end Hd
end

/-! part: K30i -/
section
set_option Elab.async false
set_option linter.all false
set_option maxRecDepth 100000
set_option maxHeartbeats 1000000
namespace Hd
open PySem PySem.Spec Q
/-! ### plans -/
/-- insertion sort of pairs -/
def insP (x : Int × Int) : WL → WL
  | [] => [x]
  | y :: l => if ltP y x = true then y :: insP x l else x :: y :: l
def isP : WL → WL
  | [] => []
  | x :: l => insP x (isP l)
theorem insP_perm (x : Int × Int) : ∀ l, (insP x l).Perm (x :: l)
  | [] => List.Perm.refl _
  | y :: l => by
    unfold insP
    split
    · exact ((insP_perm x l).cons y).trans (List.Perm.swap x y l)
    · exact List.Perm.refl _
theorem isP_perm : ∀ l, (isP l).Perm l
  | [] => List.Perm.refl _
  | x :: l => (insP_perm x (isP l)).trans ((isP_perm l).cons x)
theorem insP_sorted (x : Int × Int) : ∀ l, l.Pairwise (fun a b => ltP b a = false) → (insP x l).Pairwise (fun a b => ltP b a = false)
  | [], _ => by simp [insP]
  | y :: l, h => by
    obtain ⟨h1, h2⟩ := List.pairwise_cons.mp h
    unfold insP
    split
    · rename_i hy
      refine List.pairwise_cons.mpr ⟨fun z hz => ?_, insP_sorted x l h2⟩
      rcases List.mem_cons.mp ((insP_perm x l).mem_iff.mp hz) with e | e
      · rw [e]; exact ltP_asym hy
      · exact h1 z e
    · rename_i hy
      have hy' : ltP y x = false := by simpa using hy
      refine List.pairwise_cons.mpr ⟨fun z hz => ?_, h⟩
      rcases List.mem_cons.mp hz with e | e
      · rw [e]; exact hy'
      · exact ltP_trans hy' (h1 z e)
theorem isP_sorted : ∀ l, (isP l).Pairwise (fun a b => ltP b a = false)
  | [] => List.Pairwise.nil
  | x :: l => insP_sorted x (isP l) (isP_sorted l)
theorem srt_isP (l : WL) : srt (l.map mkP) = (isP l).map mkP := by
  rw [srt_nice ordd_P]
  refine congrArg (List.map mkP) ?_
  exact ((List.mergeSort_perm l _).trans (isP_perm l).symm).eq_of_pairwise (fun a b _ _ h1 h2 => ltP_tot h2 h1) (sort_P l) (isP_sorted l)
/-- the pairs of a day as they are found -/
def dayR (m d : Nat) : WL := ((d : Int), (m : Int) - 1) :: (List.range (m - 1)).flatMap fun i => ((List.range (m - 1)).filter fun (j : Nat) => decide (i < j ∧ i ≠ d ∧ j ≠ d ∧ ((i : Int) + j - 2 * d) % ((m : Int) - 1) = 0)).map fun (j : Nat) => ((i : Int), (j : Int))
def evn (s : Nat) : Nat := s + s % 2
def planL (s : Nat) : List WL := (List.range (evn s - 1)).map fun d => isP ((dayR (evn s) d).filter fun p : Int × Int => decide (p.2 < (s : Int)))
def planD (s : Nat) : D := .tuple ((planL s).map fun day => .tuple (day.map mkP))

theorem day_2_0 : Ph_day_pairs [.int 2, .int 0] = some (.list (srt ((dayR 2 0).map mkP))) := by kernel_rfl

theorem day_4_0 : Ph_day_pairs [.int 4, .int 0] = some (.list (srt ((dayR 4 0).map mkP))) := by kernel_rfl

theorem day_4_1 : Ph_day_pairs [.int 4, .int 1] = some (.list (srt ((dayR 4 1).map mkP))) := by kernel_rfl

theorem day_4_2 : Ph_day_pairs [.int 4, .int 2] = some (.list (srt ((dayR 4 2).map mkP))) := by kernel_rfl

theorem day_6_0 : Ph_day_pairs [.int 6, .int 0] = some (.list (srt ((dayR 6 0).map mkP))) := by kernel_rfl

theorem day_6_1 : Ph_day_pairs [.int 6, .int 1] = some (.list (srt ((dayR 6 1).map mkP))) := by kernel_rfl

theorem day_6_2 : Ph_day_pairs [.int 6, .int 2] = some (.list (srt ((dayR 6 2).map mkP))) := by kernel_rfl

theorem day_6_3 : Ph_day_pairs [.int 6, .int 3] = some (.list (srt ((dayR 6 3).map mkP))) := by kernel_rfl

theorem day_6_4 : Ph_day_pairs [.int 6, .int 4] = some (.list (srt ((dayR 6 4).map mkP))) := by kernel_rfl

theorem e_day_pairs (s d : Nat) (hs : 2 ≤ s ∧ s ≤ 6) (hd : d < evn s - 1) : Ph_day_pairs [.int (evn s), .int d] = some (.list ((isP (dayR (evn s) d)).map mkP)) := by
  rw [← srt_isP]
  obtain ⟨h1, h2⟩ := hs
  have c : s = 2 ∨ s = 3 ∨ s = 4 ∨ s = 5 ∨ s = 6 := by omega
  rcases c with rfl | rfl | rfl | rfl | rfl
  · have e : d = 0 := by unfold evn at hd; omega
    subst e; exact day_2_0
  · have e : d = 0 ∨ d = 1 ∨ d = 2 := by unfold evn at hd; omega
    rcases e with rfl | rfl | rfl
    · exact day_4_0
    · exact day_4_1
    · exact day_4_2
  · have e : d = 0 ∨ d = 1 ∨ d = 2 := by unfold evn at hd; omega
    rcases e with rfl | rfl | rfl
    · exact day_4_0
    · exact day_4_1
    · exact day_4_2
  · have e : d = 0 ∨ d = 1 ∨ d = 2 ∨ d = 3 ∨ d = 4 := by unfold evn at hd; omega
    rcases e with rfl | rfl | rfl | rfl | rfl
    · exact day_6_0
    · exact day_6_1
    · exact day_6_2
    · exact day_6_3
    · exact day_6_4
  · have e : d = 0 ∨ d = 1 ∨ d = 2 ∨ d = 3 ∨ d = 4 := by unfold evn at hd; omega
    rcases e with rfl | rfl | rfl | rfl | rfl
    · exact day_6_0
    · exact day_6_1
    · exact day_6_2
    · exact day_6_3
    · exact day_6_4
theorem plan_flt : ∀ s ∈ [2, 3, 4, 5, 6], ((List.range (evn s - 1)).map fun d => (isP (dayR (evn s) d)).filter fun p : Int × Int => decide (p.2 < (s : Int))) = planL s := by decide +kernel
theorem plan_len : ∀ m ∈ [2, 4, 6], ∀ d ∈ List.range 5, (isP (dayR m d)).length ≤ 100 := by decide +kernel
theorem e_plan (s : Nat) (hs : 2 ≤ s ∧ s ≤ 6) : Ph_plan [.int s] = some (planD s) := by
  have em : (s : Int) + (s : Int) % 2 = (evn s : Nat) := by unfold evn; omega
  have em2 : ((evn s : Nat) : Int) - 1 = ((evn s - 1 : Nat) : Int) := by unfold evn; omega
  have hv : 2 ≤ evn s ∧ evn s ≤ 6 := by unfold evn; omega
  have hmod : modD (.int (s : Int)) (.int 2) = some (.int ((s : Int) % 2)) := by simp
  have ed : ∀ d, d < evn s - 1 → Ph_day_pairs [.int (evn s), .int d] = some (.list ((isP (dayR (evn s) d)).map mkP)) := fun d => e_day_pairs s d hs
  have hlen0 : ∀ d, d < 5 → (isP (dayR (evn s) d)).length ≤ 100 := fun d hd => plan_len (evn s) (by unfold evn; simp; omega) d (List.mem_range.mpr hd)
  have pf := plan_flt s (by simp; omega)
  simp -implicitDefEqProofs [Ph_plan, b_plan, e_to_sides s hs, e_need_i, em]
  generalize evn s = m at *
  simp -implicitDefEqProofs [em2, rg1_n (k := m - 1) (by omega)]
  obtain ⟨ρ', h1, y3, h2⟩ := forL_all (step := turnD (sN 3) L_plan_1) (xs := List.range (m - 1)) (mk := fun i => .int (i : Nat)) (fun pre (ρ : Rho) => ∃ y3, ρ = [.im (.int s), .im (.int m), .ow (.list (pre.map fun d => .tuple (((isP (dayR m d)).filter fun p : Int × Int => decide (p.2 < (s : Int))).map mkP))), y3, .un])
    [.im (.int s), .im (.int m), .ow (.list []), .un, .un] ⟨.un, by simp⟩ (by
    rintro pre post ρ d ⟨_, rfl⟩ hx
    obtain ⟨e1, hk, e3⟩ := range_split hx
    have hb : pre.length < sizeLine := by have := line_ge; omega
    refine ⟨[.im (.int s), .im (.int m), .ow (.list ((pre ++ [d]).map fun d => .tuple (((isP (dayR m d)).filter fun p : Int × Int => decide (p.2 < (s : Int))).map mkP))), .im (.int d), .un], .inl ?_, _, rfl⟩
    have hday := ed d (by omega)
    have hlen := hlen0 d (by omega)
    generalize hL : isP (dayR m d) = L at *
    simp -implicitDefEqProofs [L_plan_1, hday]
    rw [lcL_map (p := fun p : Int × Int => decide (p.2 < (s : Int))) (g := mkP) (fun p hp => by simp [mkP, (ix2 (.int p.1) (.int p.2)).2]) (fun p hp _ => by simp), Option.bind_some, lcB_small (by
      have := List.length_filter_le (fun p : Int × Int => decide (p.2 < (s : Int))) L
      simp; omega)]
    simp -implicitDefEqProofs [hb, hL])
  rw [h1]
  subst h2
  simp [planD, ← pf]

end Hd
end

/-! part: K30j -/
section
set_option Elab.async false
set_option linter.all false
set_option maxRecDepth 100000
set_option maxHeartbeats 1000000
namespace Hd
open PySem PySem.Spec Q
/-! ### the law's first part: plans -/

def C2 (K : Bd) : Bd := bSeq (bAsg 3 (f2 addD (fSl (vF 2) (oNo) (oIs (f1 negD (cD (.int 1))))) (fB tupD (aCons (fLc (fI (f2 ixD (vF 2) (f1 negD (cD (.int 1))))) (sN 16) (fYes) (fTup (aCons (vF 16) (aNil))) [16]) (aNil))))) (bSeq (bAsg 4 (f2 addD (fTup (aCons (f2 addD (fTup (aCons (f2 revUD (f2 ixD (f2 ixD (vF 2) (cD (.int 0))) (cD (.int 0))) (f1 negD (cD (.int 1)))) (aNil))) (fSl (f2 ixD (vF 2) (cD (.int 0))) (oIs (cD (.int 1))) (oNo))) (aNil))) (fSl (vF 2) (oIs (cD (.int 1))) (oNo)))) (bSeq (bIf (fOrT (fT (f2 notBD (fB (Ph_is_plan) (aCons (vF 1) (aCons (vF 3) (aNil)))) (cD (.bool true)))) (fOrT (fT (f2 notBD (fB (Ph_is_plan) (aCons (vF 1) (aCons (f2 revUD (vF 2) (f1 negD (cD (.int 1)))) (aNil)))) (cD (.bool true)))) (fOrT (fT (f2 notBD (fB (Ph_is_plan) (aCons (vF 1) (aCons (f2 addD (vF 2) (fTup (aCons (fTup (aNil)) (aNil)))) (aNil)))) (cD (.bool true)))) (fT (f2 notBD (fB (Ph_is_plan) (aCons (vF 1) (aCons (vF 4) (aNil)))) (cD (.bool false))))))) (bRet (cD (.bool false))) (bNext)) (bSeq (bAsg 5 (fLst (aCons (cD (.int 7)) (aCons (fSl (vF 2) (oIs (cD (.int 1))) (oNo)) (aCons (f2 addD (vF 2) (fSl (vF 2) (oNo) (oIs (cD (.int 1))))) (aCons (f2 addD (fSl (vF 2) (oNo) (oIs (f1 negD (cD (.int 1))))) (fTup (aCons (fSl (f2 ixD (vF 2) (f1 negD (cD (.int 1)))) (oIs (cD (.int 1))) (oNo)) (aNil)))) (aCons (f2 addD (fSl (vF 2) (oNo) (oIs (f1 negD (cD (.int 1))))) (fTup (aCons (f2 addD (f2 ixD (vF 2) (f1 negD (cD (.int 1)))) (fTup (aCons (fTup (aCons (vF 1) (aCons (f2 addD (vF 1) (cD (.int 1))) (aNil)))) (aNil)))) (aNil)))) (aNil)))))))) (K))))
def C3 (K : Bd) : Bd := bSeq (bIf (fT (f2 gtD (vF 1) (cD (.int 3)))) (bAsg 5 (f2 addD (vF 5) (fLst (aCons (f2 addD (fTup (aCons (fB tupD (aCons (fB sortedD (aCons (f2 addD (f2 ixD (vF 2) (cD (.int 0))) (f2 ixD (vF 2) (cD (.int 1)))) (aNil))) (aNil))) (aNil))) (fSl (vF 2) (oIs (cD (.int 2))) (oNo))) (aCons (f2 addD (fTup (aCons (f2 revUD (f2 ixD (vF 2) (cD (.int 0))) (f1 negD (cD (.int 1)))) (aNil))) (fSl (vF 2) (oIs (cD (.int 1))) (oNo))) (aNil)))))) (bNext)) (K)
def C4 (K : Bd) : Bd := bSeq (bIf (fT (f2 neD (fLc (fI (vF 5)) (sN 15) (fT (f2 notBD (fB (Ph_is_plan) (aCons (vF 1) (aCons (vF 15) (aNil)))) (cD (.bool false)))) (vF 15) [15]) (fLst (aNil)))) (bRet (cD (.bool false))) (bNext)) (K)
def plD (s : Nat) : List D := (planL s).map fun day => .tuple (day.map mkP)
def uns : List Sl := List.replicate 18 .un
def rho0 (s : Nat) (sc : D) : Rho := .im sc :: .im (.int s) :: .im (planD s) :: uns
def aft (s : Nat) : Rho := match C2 bNext (rho0 s .none) with
  | some (.nx ρ) => ρ
  | _ => []
def wr0 (s : Nat) : List D := match ((aft s)[5]? : Option Sl) with
  | some (Sl.im (PyData.list L)) => L
  | _ => []
def both (s : Nat) : WL := (planL s).getD 0 [] ++ (planL s).getD 1 []
def wrs (s : Nat) (z : List D) : List D := wr0 s ++ [.tuple (.tuple z :: (plD s).drop 2), .tuple (.tuple (((planL s).getD 0 []).map mkP).reverse :: (plD s).drop 1)]

theorem lp_2 : Ph__law_plan [.int 2] = some (.tuple ((List.range (evn 2 - 1)).map fun d => .tuple (srt (((dayR (evn 2) d).filter fun p : Int × Int => decide (p.2 < ((2 : Nat) : Int))).map mkP)))) := by kernel_rfl
theorem ip_2 : Ph_is_plan [.int 2, lstd 4 (planD 2)] = some (.bool true) := by kernel_rfl
theorem c2_2 (K : Bd) (sc : D) : C2 K (rho0 2 sc) = K ((aft 2).set 0 (.im sc)) := by kernel_rfl
theorem c3_2 (K : Bd) (sc : D) : C3 K ((aft 2).set 0 (.im sc)) = K ((aft 2).set 0 (.im sc)) := by kernel_rfl
theorem c4_2 (K : Bd) (sc : D) : C4 K ((aft 2).set 0 (.im sc)) = K ((aft 2).set 0 (.im sc)) := by kernel_rfl
theorem lp_3 : Ph__law_plan [.int 3] = some (.tuple ((List.range (evn 3 - 1)).map fun d => .tuple (srt (((dayR (evn 3) d).filter fun p : Int × Int => decide (p.2 < ((3 : Nat) : Int))).map mkP)))) := by kernel_rfl
theorem ip_3 : Ph_is_plan [.int 3, lstd 4 (planD 3)] = some (.bool true) := by kernel_rfl
theorem c2_3 (K : Bd) (sc : D) : C2 K (rho0 3 sc) = K ((aft 3).set 0 (.im sc)) := by kernel_rfl
theorem c3_3 (K : Bd) (sc : D) : C3 K ((aft 3).set 0 (.im sc)) = K ((aft 3).set 0 (.im sc)) := by kernel_rfl
theorem c4_3 (K : Bd) (sc : D) : C4 K ((aft 3).set 0 (.im sc)) = K ((aft 3).set 0 (.im sc)) := by kernel_rfl
theorem lp_4 : Ph__law_plan [.int 4] = some (.tuple ((List.range (evn 4 - 1)).map fun d => .tuple (srt (((dayR (evn 4) d).filter fun p : Int × Int => decide (p.2 < ((4 : Nat) : Int))).map mkP)))) := by kernel_rfl
theorem ip_4 : Ph_is_plan [.int 4, lstd 4 (planD 4)] = some (.bool true) := by kernel_rfl
theorem c2_4 (K : Bd) (sc : D) : C2 K (rho0 4 sc) = K ((aft 4).set 0 (.im sc)) := by kernel_rfl
theorem c3_4 (K : Bd) (sc : D) : C3 K ((aft 4).set 0 (.im sc)) = K (((aft 4).set 0 (.im sc)).set 5 (.im (.list (wrs 4 (srt ((both 4).map mkP)))))) := by kernel_rfl
theorem c4_4 (K : Bd) (sc : D) : C4 K (((aft 4).set 0 (.im sc)).set 5 (.im (.list (wrs 4 ((isP (both 4)).map mkP))))) = K (((aft 4).set 0 (.im sc)).set 5 (.im (.list (wrs 4 ((isP (both 4)).map mkP))))) := by kernel_rfl
theorem lp_5 : Ph__law_plan [.int 5] = some (.tuple ((List.range (evn 5 - 1)).map fun d => .tuple (srt (((dayR (evn 5) d).filter fun p : Int × Int => decide (p.2 < ((5 : Nat) : Int))).map mkP)))) := by kernel_rfl
theorem ip_5 : Ph_is_plan [.int 5, lstd 4 (planD 5)] = some (.bool true) := by kernel_rfl
theorem c2_5 (K : Bd) (sc : D) : C2 K (rho0 5 sc) = K ((aft 5).set 0 (.im sc)) := by kernel_rfl
theorem c3_5 (K : Bd) (sc : D) : C3 K ((aft 5).set 0 (.im sc)) = K (((aft 5).set 0 (.im sc)).set 5 (.im (.list (wrs 5 (srt ((both 5).map mkP)))))) := by kernel_rfl
theorem c4_5 (K : Bd) (sc : D) : C4 K (((aft 5).set 0 (.im sc)).set 5 (.im (.list (wrs 5 ((isP (both 5)).map mkP))))) = K (((aft 5).set 0 (.im sc)).set 5 (.im (.list (wrs 5 ((isP (both 5)).map mkP))))) := by kernel_rfl
theorem lp_6 : Ph__law_plan [.int 6] = some (.tuple ((List.range (evn 6 - 1)).map fun d => .tuple (srt (((dayR (evn 6) d).filter fun p : Int × Int => decide (p.2 < ((6 : Nat) : Int))).map mkP)))) := by kernel_rfl
theorem ip_6 : Ph_is_plan [.int 6, lstd 4 (planD 6)] = some (.bool true) := by kernel_rfl
theorem c2_6 (K : Bd) (sc : D) : C2 K (rho0 6 sc) = K ((aft 6).set 0 (.im sc)) := by kernel_rfl
theorem c3_6 (K : Bd) (sc : D) : C3 K ((aft 6).set 0 (.im sc)) = K (((aft 6).set 0 (.im sc)).set 5 (.im (.list (wrs 6 (srt ((both 6).map mkP)))))) := by kernel_rfl
theorem c4_6 (K : Bd) (sc : D) : C4 K (((aft 6).set 0 (.im sc)).set 5 (.im (.list (wrs 6 ((isP (both 6)).map mkP))))) = K (((aft 6).set 0 (.im sc)).set 5 (.im (.list (wrs 6 ((isP (both 6)).map mkP))))) := by kernel_rfl
theorem aft_2 : aft 2 = [.im .none, .im (.int 2), .im (planD 2), (aft 2).getD 3 .un, (aft 2).getD 4 .un, (aft 2).getD 5 .un, .un, .un, .un, .un, .un, .un, .un, .un, .un, .un, .un, .un, .un, .un, .un] := by kernel_rfl
theorem aft_3 : aft 3 = [.im .none, .im (.int 3), .im (planD 3), (aft 3).getD 3 .un, (aft 3).getD 4 .un, (aft 3).getD 5 .un, .un, .un, .un, .un, .un, .un, .un, .un, .un, .un, .un, .un, .un, .un, .un] := by kernel_rfl
theorem aft_4 : aft 4 = [.im .none, .im (.int 4), .im (planD 4), (aft 4).getD 3 .un, (aft 4).getD 4 .un, (aft 4).getD 5 .un, .un, .un, .un, .un, .un, .un, .un, .un, .un, .un, .un, .un, .un, .un, .un] := by kernel_rfl
theorem aft_5 : aft 5 = [.im .none, .im (.int 5), .im (planD 5), (aft 5).getD 3 .un, (aft 5).getD 4 .un, (aft 5).getD 5 .un, .un, .un, .un, .un, .un, .un, .un, .un, .un, .un, .un, .un, .un, .un, .un] := by kernel_rfl
theorem aft_6 : aft 6 = [.im .none, .im (.int 6), .im (planD 6), (aft 6).getD 3 .un, (aft 6).getD 4 .un, (aft 6).getD 5 .un, .un, .un, .un, .un, .un, .un, .un, .un, .un, .un, .un, .un, .un, .un, .un] := by kernel_rfl
theorem map_srt (s : Nat) : ((List.range (evn s - 1)).map fun d => PyData.tuple (srt (((dayR (evn s) d).filter fun p : Int × Int => decide (p.2 < (s : Int))).map mkP))) = (planL s).map fun day => PyData.tuple (day.map mkP) := by
  unfold planL
  rw [List.map_map]
  exact List.map_congr_left fun d _ => by rw [srt_isP]; rfl
theorem five (s : Nat) (hs : 2 ≤ s ∧ s ≤ 6) : s = 2 ∨ s = 3 ∨ s = 4 ∨ s = 5 ∨ s = 6 := by omega
theorem e_law_plan (s : Nat) (hs : 2 ≤ s ∧ s ≤ 6) : Ph__law_plan [.int s] = some (planD s) := by
  unfold planD
  rw [← map_srt]
  rcases five s hs with rfl | rfl | rfl | rfl | rfl
  · exact lp_2
  · exact lp_3
  · exact lp_4
  · exact lp_5
  · exact lp_6
theorem e_is_plan (s : Nat) (hs : 2 ≤ s ∧ s ≤ 6) : Ph_is_plan [.int s, lstd 4 (planD s)] = some (.bool true) := by
  rcases five s hs with rfl | rfl | rfl | rfl | rfl
  · exact ip_2
  · exact ip_3
  · exact ip_4
  · exact ip_5
  · exact ip_6
theorem chunk (s : Nat) (hs : 2 ≤ s ∧ s ≤ 6) (K : Bd) (sc : D) : ∃ x3 x4 x5 : Sl, C2 (C3 (C4 K)) (rho0 s sc) = K [.im sc, .im (.int s), .im (planD s), x3, x4, x5, .un, .un, .un, .un, .un, .un, .un, .un, .un, .un, .un, .un, .un, .un, .un] := by
  rcases five s hs with rfl | rfl | rfl | rfl | rfl
  · exact ⟨_, _, _, by rw [c2_2, c3_2, c4_2, aft_2]; rfl⟩
  · exact ⟨_, _, _, by rw [c2_3, c3_3, c4_3, aft_3]; rfl⟩
  · exact ⟨_, _, _, by rw [c2_4, c3_4, srt_isP, c4_4, aft_4]; rfl⟩
  · exact ⟨_, _, _, by rw [c2_5, c3_5, srt_isP, c4_5, aft_5]; rfl⟩
  · exact ⟨_, _, _, by rw [c2_6, c3_6, srt_isP, c4_6, aft_6]; rfl⟩
end Hd
end

/-! part: K30k -/
section
set_option Elab.async false
set_option linter.all false
set_option maxRecDepth 100000
set_option maxHeartbeats 400000
namespace Hd
open PySem PySem.Spec Q
/-! ### the games that the law draws -/
def gmOf (s : Nat) (n : Int) : Gm := (n % ((s : Int) - 1), n % ((s : Int) - 1) + 1 + n / 5 % ((s : Int) - 1 - n % ((s : Int) - 1)), n / 25 % 4, n / 100 % 4)
theorem gmOf_ok (s : Nat) (n : Int) (hs : 2 ≤ s ∧ s ≤ 6) : okG s (gmOf s n) := by
  have h1 : (0 : Int) < (s : Int) - 1 := by omega
  have a1 := Int.emod_nonneg n (Int.ne_of_gt h1)
  have a2 := Int.emod_lt_of_pos n h1
  unfold okG gmOf
  simp only
  generalize n % ((s : Int) - 1) = a at *
  have h2 : (0 : Int) < (s : Int) - 1 - a := by omega
  have b1 := Int.emod_nonneg (n / 5) (Int.ne_of_gt h2)
  have b2 := Int.emod_lt_of_pos (n / 5) h2
  refine ⟨⟨?_, ?_⟩, ?_, ⟨?_, ?_⟩, ?_, ?_⟩ <;> omega
theorem e_law_played (s : Nat) (ns : List Int) (hs : 2 ≤ s ∧ s ≤ 6) (hl : ns.length ≤ 100) : Ph__law_played [.list (ns.map .int), .int s] = some (.tuple ((ns.map (gmOf s)).map mkG)) := by
  simp -implicitDefEqProofs [Ph__law_played, b__law_played]
  obtain ⟨ρ', h1, y3, y4, y5, h2⟩ := forL_all (step := turnD (sN 3) L__law_played_1) (xs := ns) (mk := PyData.int) (fun pre (ρ : Rho) => ∃ y3 y4 y5, ρ = [.im (.list (ns.map .int)), .im (.int s), .ow (.list ((pre.map (gmOf s)).map mkG)), y3, y4, y5])
    [.im (.list (ns.map .int)), .im (.int s), .ow (.list []), .un, .un, .un] ⟨.un, .un, .un, by simp⟩ (by
    rintro pre post ρ n ⟨_, _, _, rfl⟩ hx
    have hlt := split_len hx
    have hb : pre.length < sizeLine := by have := line_ge; omega
    have h1 : (0 : Int) < (s : Int) - 1 := by omega
    have a1 := Int.emod_nonneg n (Int.ne_of_gt h1)
    have a2 := Int.emod_lt_of_pos n h1
    refine ⟨[.im (.list (ns.map .int)), .im (.int s), .ow (.list (((pre ++ [n]).map (gmOf s)).map mkG)), .im (.int n), .im (.int (n % ((s : Int) - 1))), .im (.int (n % ((s : Int) - 1) + 1 + n / 5 % ((s : Int) - 1 - n % ((s : Int) - 1))))], .inl ?_, _, _, _, rfl⟩
    have h2 : (0 : Int) < (s : Int) - 1 - n % ((s : Int) - 1) := by omega
    have m1 : modD (.int n) (.int ((s : Int) - 1)) = some (.int (n % ((s : Int) - 1))) := mod_pos h1
    have m2 : modD (.int (n / 5)) (.int ((s : Int) - 1 - n % ((s : Int) - 1))) = some (.int (n / 5 % ((s : Int) - 1 - n % ((s : Int) - 1)))) := mod_pos h2
    simp -implicitDefEqProofs [L__law_played_1, m1, m2, hb, mkG, gmOf])
  rw [h1]
  subst h2
  simp [List.map_map]
/-- all have played all -/
def gmF (c : Int) (i j : Nat) : Gm := if c / (1 + 3 * (i : Int) + (j : Int)) % 2 = 0 then (i, j, 3, 1) else (i, j, 0, 2)
def rowF (s : Nat) (c : Int) (i : Nat) : List Gm := (List.range (s - (i + 1))).map fun k => gmF c i (i + 1 + k)
def gsF (s : Nat) (c : Int) : List Gm := (List.range s).flatMap (rowF s c)
theorem gmF_win (c : Int) (i j : Nat) : winG (gmF c i j) = some ((i : Int), (j : Int)) ∨ winG (gmF c i j) = some ((j : Int), (i : Int)) := by
  unfold gmF
  split
  · left; rfl
  · right; rfl
theorem gsF_ok (s : Nat) (c : Int) : ∀ g ∈ gsF s c, okG s g := fun g hg => by
  obtain ⟨i, h1, h2⟩ := List.mem_flatMap.mp hg
  obtain ⟨k, h3, rfl⟩ := List.mem_map.mp h2
  have a := List.mem_range.mp h1
  have b := List.mem_range.mp h3
  unfold gmF
  split
  · refine ⟨⟨?_, ?_⟩, ?_, ⟨?_, ?_⟩, ?_, ?_⟩ <;> simp only <;> omega
  · refine ⟨⟨?_, ?_⟩, ?_, ⟨?_, ?_⟩, ?_, ?_⟩ <;> simp only <;> omega
theorem gsF_len (s : Nat) (c : Int) (hs : 2 ≤ s ∧ s ≤ 6) : (gsF s c).length ≤ 15 := by
  have e : (gsF s c).length = ((List.range s).map fun i => s - (i + 1)).sum := by
    unfold gsF
    rw [List.length_flatMap]
    refine congrArg _ (List.map_congr_left fun i _ => ?_)
    simp [rowF]
  rw [e]
  rcases five s hs with rfl | rfl | rfl | rfl | rfl <;> decide
theorem gsF_tot (s : Nat) (c : Int) (i j : Nat) (hi : i < s) (hj : j < s) (hne : i ≠ j) : bt (ssP (winsL (gsF s c))) i j = true ∨ bt (ssP (winsL (gsF s c))) j i = true := by
  have key : ∀ i j : Nat, i < j → j < s → bt (ssP (winsL (gsF s c))) i j = true ∨ bt (ssP (winsL (gsF s c))) j i = true := fun i j hij hj => by
    have hm : gmF c i j ∈ gsF s c := List.mem_flatMap.mpr ⟨i, List.mem_range.mpr (by omega), List.mem_map.mpr ⟨j - (i + 1), List.mem_range.mpr (by omega), by rw [show i + 1 + (j - (i + 1)) = j by omega]⟩⟩
    rcases gmF_win c i j with e | e
    · exact .inl (memP_t.mpr (ssP_mem.mpr (List.mem_filterMap.mpr ⟨_, hm, e⟩)))
    · exact .inr (memP_t.mpr (ssP_mem.mpr (List.mem_filterMap.mpr ⟨_, hm, e⟩)))
  rcases Nat.lt_or_gt_of_ne hne with h | h
  · exact key i j h hj
  · exact (key j i h hi).symm
end Hd
end

/-! part: K30l -/
section
set_option Elab.async false
set_option linter.all false
set_option maxRecDepth 100000
set_option maxHeartbeats 400000
namespace Hd
open PySem PySem.Spec Q
theorem rowF_len (s : Nat) (c : Int) (i : Nat) (hs : s ≤ 6) : (rowF s c i).length ≤ 6 := by
  unfold rowF
  rw [List.length_map, List.length_range]
  omega
theorem flatF_len (s : Nat) (c : Int) (hs : s ≤ 6) : ∀ l : List Nat, (l.flatMap (rowF s c)).length ≤ 6 * l.length
  | [] => by simp
  | p :: l => by
    rw [List.flatMap_cons, List.length_append, List.length_cons]
    have h1 := rowF_len s c p hs
    have h2 := flatF_len s c hs l
    omega
theorem add_lls {xs ys : List D} (h : xs.length + ys.length ≤ sizeLine) : addD (.list xs) (.list ys) = some (.list (xs ++ ys)) := if_pos h
section
variable (ns : List Int) (s : Nat) (hs : 2 ≤ s ∧ s ≤ 6) (x2 x3 x4 x5 : Sl)
include hs
theorem full_loop (z9 z17 : Sl) : ∃ z9 : Sl, forL (turnD (sN 9) L_law_1) ((List.range s).map fun i => .int (i : Nat)) [.im (.list (ns.map .int)), .im (.int s), x2, x3, x4, x5, .im (.list []), .un, .un, .un, .un, .un, .un, .un, .un, .un, .un, .un, .un, .un, .un] =
    some (.nx [.im (.list (ns.map .int)), .im (.int s), x2, x3, x4, x5, .im (.list ((gsF s (ns.getD 4 0)).map mkG)), .un, .un, z9, .un, .un, .un, .un, .un, .un, .un, .un, .un, .un, .un]) := by
  generalize hc : ns.getD 4 0 = c
  have ec : Ph__law_cell [.list (ns.map .int), .int 4] = some (.int c) := by rw [← hc]; exact e_cell ns 4
  obtain ⟨ρ', h1, y9, h2⟩ := forL_all (step := turnD (sN 9) L_law_1) (xs := List.range s) (mk := fun i => .int (i : Nat)) (fun pre (ρ : Rho) => ∃ y9, ρ = [.im (.list (ns.map .int)), .im (.int s), x2, x3, x4, x5, .im (.list ((pre.flatMap (rowF s c)).map mkG)), .un, .un, y9, .un, .un, .un, .un, .un, .un, .un, .un, .un, .un, .un])
    [.im (.list (ns.map .int)), .im (.int s), x2, x3, x4, x5, .im (.list []), .un, .un, .un, .un, .un, .un, .un, .un, .un, .un, .un, .un, .un, .un] ⟨.un, by simp⟩ (by
    rintro pre post ρ i ⟨_, rfl⟩ hx
    obtain ⟨e1, hk, e3⟩ := range_split hx
    have hf := flatF_len s c hs.2 pre
    have hr := rowF_len s c i hs.2
    have hb : (pre.flatMap (rowF s c)).length + (rowF s c i).length ≤ sizeLine := by have := line_ge; omega
    refine ⟨[.im (.list (ns.map .int)), .im (.int s), x2, x3, x4, x5, .im (.list (((pre ++ [i]).flatMap (rowF s c)).map mkG)), .un, .un, .im (.int i), .un, .un, .un, .un, .un, .un, .un, .un, .un, .un, .un], .inl ?_, _, rfl⟩
    have e4 : (((s : Int)) - ((i : Int) + 1)).toNat = s - (i + 1) := by omega
    have hfl : (pre ++ [i]).flatMap (rowF s c) = pre.flatMap (rowF s c) ++ rowF s c i := by simp
    have rg := rg2_n (lo := (i : Int) + 1) (hi := (s : Int)) (by omega) (by omega)
    rw [e4] at rg
    rw [hfl]
    generalize pre.flatMap (rowF s c) = T at *
    simp -implicitDefEqProofs [L_law_1, rg, ec]
    rw [lcL_all (g := fun k => mkG (gmF c i (i + 1 + k))) (by simp) (fun k hk2 => by
      have hk2' := List.mem_range.mp hk2
      have p1 : (0 : Int) < 1 + 3 * (i : Int) + ((i : Int) + 1 + (k : Int)) := by omega
      have p2 : 1 + 3 * (i : Int) + ((i : Int) + 1 + (k : Int)) < 1073741824 := by omega
      have hd : fdivD (.int c) (.int (1 + 3 * (i : Int) + ((i : Int) + 1 + (k : Int)))) = some (.int (c / (1 + 3 * (i : Int) + ((i : Int) + 1 + (k : Int))))) := fdiv_pos p1 p2
      have e5 : ((i + 1 + k : Nat) : Int) = (i : Int) + 1 + k := by omega
      have hm : mulI 3 (i : Int) = some (.int (3 * (i : Int))) := mulI_r (by omega) (by omega)
      simp -implicitDefEqProofs [hd, gmF, e5, ec, hm]
      by_cases hq : c / (1 + 3 * (i : Int) + ((i : Int) + 1 + (k : Int))) % 2 = 0
      · simp [hq, mkG, e5]
      · simp [hq, mkG, e5]), Option.bind_some, lcB_small (by simp; omega)]
    have e6 : ((List.range (s - (i + 1))).map fun k => mkG (gmF c i (i + 1 + k))) = (rowF s c i).map mkG := by rw [rowF, List.map_map]; rfl
    rw [e6, Option.bind_some, add_lls (by simpa using hb)]
    simp)
  rw [h1]
  subst h2
  exact ⟨y9, rfl⟩
end
end Hd
end

/-! part: K30m -/
section
set_option Elab.async false
set_option linter.all false
set_option maxRecDepth 100000
set_option maxHeartbeats 400000
namespace Hd
open PySem PySem.Spec Q
def topB (s : Nat) (W : WL) (i : Nat) : Bool := (List.range s).all fun j => decide (j = i) || ruleB s W i j
theorem ib_l (W : WL) (a b : Nat) : inD (.tuple [.int a, .int b]) (.list (W.map mkP)) = some (.bool (bt W a b)) := in_Pl a b W
theorem nb_l (W : WL) (a b : Nat) : notInD (.tuple [.int a, .int b]) (.list (W.map mkP)) = some (.bool (!bt W a b)) := nin_Pl a b W
section
variable (s : Nat) (hs : 2 ≤ s ∧ s ≤ 6) (W : WL) (x0 x2 x3 x4 x5 x6 : Sl)
include hs
theorem tops_loop (z9 : Sl) : ∃ y9 : Sl, forL (turnD (sN 9) L_law_2) ((List.range s).map fun i => .int (i : Nat)) [x0, .im (.int s), x2, x3, x4, x5, x6, .im (.list (W.map mkP)), .ow (.list []), z9, .un, .un, .un, .un, .un, .un, .un, .un, .un, .un, .un] =
    some (.nx [x0, .im (.int s), x2, x3, x4, x5, x6, .im (.list (W.map mkP)), .ow (.list ((topsL s W).map fun i => .int (i : Nat))), y9, .un, .un, .un, .un, .un, .un, .un, .un, .un, .un, .un]) := by
  obtain ⟨ρ', h1, y9, h2⟩ := forL_all (step := turnD (sN 9) L_law_2) (xs := List.range s) (mk := fun i => .int (i : Nat)) (fun pre (ρ : Rho) => ∃ y9, ρ = [x0, .im (.int s), x2, x3, x4, x5, x6, .im (.list (W.map mkP)), .ow (.list ((pre.filter (topB s W)).map fun i => .int (i : Nat))), y9, .un, .un, .un, .un, .un, .un, .un, .un, .un, .un, .un])
    [x0, .im (.int s), x2, x3, x4, x5, x6, .im (.list (W.map mkP)), .ow (.list []), z9, .un, .un, .un, .un, .un, .un, .un, .un, .un, .un, .un] ⟨z9, by simp⟩ (by
    rintro pre post ρ i ⟨_, rfl⟩ hx
    obtain ⟨e1, hk, e3⟩ := range_split hx
    have hb : (pre.filter (topB s W)).length < sizeLine := by
      have := List.length_filter_le (topB s W) pre
      have := line_ge
      omega
    refine ⟨[x0, .im (.int s), x2, x3, x4, x5, x6, .im (.list (W.map mkP)), .ow (.list (((pre ++ [i]).filter (topB s W)).map fun i => .int (i : Nat))), .im (.int i), .un, .un, .un, .un, .un, .un, .un, .un, .un, .un, .un], .inl ?_, _, rfl⟩
    have rg := rg1_n (k := s) (by omega : s ≤ 100000)
    have hfl : (pre ++ [i]).filter (topB s W) = (pre.filter (topB s W)) ++ (if topB s W i = true then [i] else []) := by
      rw [List.filter_append, List.filter_cons]
      rfl
    rw [hfl]
    generalize (pre.filter (topB s W)) = T at *
    simp -implicitDefEqProofs [L_law_2, rg]
    rw [lcL_map (p := fun j => !(decide (j = i) || ruleB s W i j)) (g := fun j => .int (j : Nat)) (fun j hj => by
      have nb := nb_l W i j
      by_cases hq : j = i
      · subst hq; simp
      · have hq' : ¬ (j : Int) = i := by omega
        simp -implicitDefEqProofs [hq', hq, nb, ruleB]
        cases hbt : bt W i j with
        | true => simp
        | false =>
          simp -implicitDefEqProofs [rg]
          rw [lcL_map (p := fun k => bt W i k && bt W k j) (g := fun k => .int (k : Nat)) (fun k hk => by
            have i1 := ib_l W i k
            have i2 := ib_l W k j
            simp [i1, i2]
            cases bt W i k <;> simp) (fun k hk _ => by simp), Option.bind_some, lcB_small (by
              have := List.length_filter_le (fun k => bt W i k && bt W k j) (List.range s)
              rw [List.length_range] at this
              rw [List.length_map]
              omega)]
          simp -implicitDefEqProofs
          rw [Bool.eq_iff_iff]
          simp) (fun j hj _ => by simp), Option.bind_some, lcB_small (by
        have := List.length_filter_le (fun j => !(decide (j = i) || ruleB s W i j)) (List.range s)
        rw [List.length_range] at this
        rw [List.length_map]
        omega)]
    have he : ((List.range s).filter fun j => !(decide (j = i) || ruleB s W i j)).isEmpty = topB s W i := by
      rw [Bool.eq_iff_iff, List.isEmpty_iff, List.filter_eq_nil_iff]
      unfold topB
      rw [List.all_eq_true]
      exact forall_congr' fun j => forall_congr' fun _ => by
        cases decide (j = i) || ruleB s W i j <;> simp
    simp only [Option.bind_some, eq_f0, he]
    cases c : topB s W i with
    | true => simp -implicitDefEqProofs [hb]
    | false => simp -implicitDefEqProofs)
  subst h2
  exact ⟨y9, h1⟩
end
end Hd
end

/-! part: K30n -/
section
set_option Elab.async false
set_option linter.all false
set_option maxRecDepth 100000
set_option maxHeartbeats 400000
namespace Hd
open PySem PySem.Spec Q
/-! ### the law's rounds -/
def rB (W : WL) (a b c : Nat) : Bool := decide (a < b ∧ a < c) && (bt W a b && (bt W b c && bt W c a))
def rowL (s : Nat) (W : WL) (a b : Nat) : List Tr := ((List.range s).filter fun c => rB W a b c).map fun (c : Nat) => ((a : Int), (b : Int), (c : Int))
def ringL (s : Nat) (W : WL) : List Tr := (List.range s).flatMap fun a => (List.range s).flatMap fun b => rowL s W a b
theorem rowL_len (s : Nat) (W : WL) (a b : Nat) (hs : s ≤ 6) : (rowL s W a b).length ≤ 6 := by
  unfold rowL
  rw [List.length_map]
  have := List.length_filter_le (fun c => rB W a b c) (List.range s)
  rw [List.length_range] at this
  omega
theorem flatL_len {α : Type} (f : α → List Tr) (m : Nat) (hf : ∀ a, (f a).length ≤ m) : ∀ l : List α, (l.flatMap f).length ≤ m * l.length
  | [] => by simp
  | p :: l => by
    rw [List.flatMap_cons, List.length_append, List.length_cons, Nat.mul_succ]
    have h1 := hf p
    have h2 := flatL_len f m hf l
    omega
section
variable (s : Nat) (hs : 2 ≤ s ∧ s ≤ 6) (W : WL) (x0 x2 x3 x4 x5 x6 x8 x9 : Sl)
include hs
theorem ring_row (a : Nat) (ha : a < s) (T : List Tr) (hT : T.length ≤ 1000) (z13 : Sl) : ∃ y13 : Sl, forL (turnD (sN 13) L_law_3) ((List.range s).map fun i => .int (i : Nat)) [x0, .im (.int s), x2, x3, x4, x5, x6, .im (.list (W.map mkP)), x8, x9, .im (.list (T.map mkT)), .im (.int a), .un, z13, .un, .un, .un, .un, .un, .un, .un] =
    some (.nx [x0, .im (.int s), x2, x3, x4, x5, x6, .im (.list (W.map mkP)), x8, x9, .im (.list ((T ++ (List.range s).flatMap fun b => rowL s W a b).map mkT)), .im (.int a), .un, y13, .un, .un, .un, .un, .un, .un, .un]) := by
  obtain ⟨ρ', h1, y13, h2⟩ := forL_all (step := turnD (sN 13) L_law_3) (xs := List.range s) (mk := fun i => .int (i : Nat)) (fun pre (ρ : Rho) => ∃ y13, ρ = [x0, .im (.int s), x2, x3, x4, x5, x6, .im (.list (W.map mkP)), x8, x9, .im (.list ((T ++ pre.flatMap fun b => rowL s W a b).map mkT)), .im (.int a), .un, y13, .un, .un, .un, .un, .un, .un, .un])
    [x0, .im (.int s), x2, x3, x4, x5, x6, .im (.list (W.map mkP)), x8, x9, .im (.list (T.map mkT)), .im (.int a), .un, z13, .un, .un, .un, .un, .un, .un, .un] ⟨z13, by simp⟩ (by
    rintro pre post ρ b ⟨_, rfl⟩ hx
    obtain ⟨e1, hk, e3⟩ := range_split hx
    have hf := flatL_len (fun b => rowL s W a b) 6 (fun b => rowL_len s W a b hs.2) pre
    have hr := rowL_len s W a b hs.2
    have hb : (T ++ pre.flatMap fun b => rowL s W a b).length + (rowL s W a b).length ≤ sizeLine := by have := line_ge; rw [List.length_append]; omega
    refine ⟨[x0, .im (.int s), x2, x3, x4, x5, x6, .im (.list (W.map mkP)), x8, x9, .im (.list ((T ++ (pre ++ [b]).flatMap fun b => rowL s W a b).map mkT)), .im (.int a), .un, .im (.int b), .un, .un, .un, .un, .un, .un, .un], .inl ?_, _, rfl⟩
    have rg := rg1_n (k := s) (by omega : s ≤ 100000)
    have hfl : (T ++ (pre ++ [b]).flatMap fun b => rowL s W a b) = (T ++ pre.flatMap fun b => rowL s W a b) ++ rowL s W a b := by simp
    rw [hfl]
    generalize (T ++ pre.flatMap fun b => rowL s W a b) = U at *
    simp -implicitDefEqProofs [L_law_3, rg]
    rw [lcL_map (p := fun c => rB W a b c) (g := fun (c : Nat) => mkT ((a : Int), (b : Int), (c : Int))) (fun c hc => by
      have q1 := ib_l W a b
      have q2 := ib_l W b c
      have q3 := ib_l W c a
      by_cases c1 : a < b ∧ a < c
      · have d1 : (a : Int) < min (b : Int) c := by omega
        simp -implicitDefEqProofs [d1, q1, q2, q3, rB, c1]
        cases bt W a b <;> cases bt W b c <;> cases bt W c a <;> rfl
      · have d1 : ¬ (a : Int) < min (b : Int) c := by omega
        have d2 : decide (a < b ∧ a < c) = false := decide_eq_false c1
        unfold rB
        rw [d2]
        simp -implicitDefEqProofs [d1]) (fun c hc _ => by simp [mkT]), Option.bind_some, lcB_small (by
        have := List.length_filter_le (fun c => rB W a b c) (List.range s)
        rw [List.length_range] at this
        rw [List.length_map]
        omega)]
    have e6 : ((List.range s).filter fun c => rB W a b c).map (fun (c : Nat) => mkT ((a : Int), (b : Int), (c : Int))) = (rowL s W a b).map mkT := by rw [rowL, List.map_map]; rfl
    rw [e6, Option.bind_some, add_lls (by simpa using hb)]
    simp)
  subst h2
  exact ⟨y13, h1⟩
theorem ring_loop (z11 z13 : Sl) : ∃ y11 y13 : Sl, forL (turnD (sN 11) L_law_4) ((List.range s).map fun i => .int (i : Nat)) [x0, .im (.int s), x2, x3, x4, x5, x6, .im (.list (W.map mkP)), x8, x9, .im (.list []), z11, .un, z13, .un, .un, .un, .un, .un, .un, .un] =
    some (.nx [x0, .im (.int s), x2, x3, x4, x5, x6, .im (.list (W.map mkP)), x8, x9, .im (.list ((ringL s W).map mkT)), y11, .un, y13, .un, .un, .un, .un, .un, .un, .un]) := by
  obtain ⟨ρ', h1, y11, y13, h2⟩ := forL_all (step := turnD (sN 11) L_law_4) (xs := List.range s) (mk := fun i => .int (i : Nat)) (fun pre (ρ : Rho) => ∃ y11 y13, ρ = [x0, .im (.int s), x2, x3, x4, x5, x6, .im (.list (W.map mkP)), x8, x9, .im (.list ((pre.flatMap fun a => (List.range s).flatMap fun b => rowL s W a b).map mkT)), y11, .un, y13, .un, .un, .un, .un, .un, .un, .un])
    [x0, .im (.int s), x2, x3, x4, x5, x6, .im (.list (W.map mkP)), x8, x9, .im (.list []), z11, .un, z13, .un, .un, .un, .un, .un, .un, .un] ⟨z11, z13, by simp⟩ (by
    rintro pre post ρ a ⟨z11, z13, rfl⟩ hx
    obtain ⟨e1, hk, e3⟩ := range_split hx
    have hf := flatL_len (fun a => (List.range s).flatMap fun b => rowL s W a b) 36 (fun a => Nat.le_trans (flatL_len (fun b => rowL s W a b) 6 (fun b => rowL_len s W a b hs.2) (List.range s)) (by rw [List.length_range]; omega)) pre
    obtain ⟨y13, h⟩ := ring_row s hs W x0 x2 x3 x4 x5 x6 x8 x9 a hk (pre.flatMap fun a => (List.range s).flatMap fun b => rowL s W a b) (by omega) z13
    refine ⟨_, .inl ?_, .im (.int a), y13, rfl⟩
    have rg := rg1_n (k := s) (by omega : s ≤ 100000)
    have hfl : ((pre ++ [a]).flatMap fun a => (List.range s).flatMap fun b => rowL s W a b) = (pre.flatMap fun a => (List.range s).flatMap fun b => rowL s W a b) ++ (List.range s).flatMap fun b => rowL s W a b := by simp
    rw [hfl]
    generalize (pre.flatMap fun a => (List.range s).flatMap fun b => rowL s W a b) = U at *
    generalize ((List.range s).flatMap fun b => rowL s W a b) = V at *
    simp -implicitDefEqProofs [L_law_4, rg]
    simpa -implicitDefEqProofs using h)
  subst h2
  exact ⟨y11, y13, h1⟩
end
end Hd
end

/-! part: K30o -/
section
set_option Elab.async false
set_option linter.all false
set_option maxRecDepth 100000
set_option maxHeartbeats 400000
namespace Hd
open PySem PySem.Spec Q
/-! ### the two lists of rings are one -/
theorem ringL_lt (s : Nat) (W : WL) : (ringL s W).Pairwise fun x y => lt3 x y = true := by
  unfold ringL
  rw [List.pairwise_flatMap]
  refine ⟨fun a _ => ?_, (List.pairwise_lt_range (n := s)).imp fun {a a'} h x hx y hy => ?_⟩
  · rw [List.pairwise_flatMap]
    refine ⟨fun b _ => ?_, (List.pairwise_lt_range (n := s)).imp fun {b b'} h x hx y hy => ?_⟩
    · unfold rowL
      rw [List.pairwise_map]
      refine ((List.pairwise_lt_range (n := s)).filter _).imp fun {c c'} h => ?_
      exact decide_eq_true (.inr ⟨rfl, .inr ⟨rfl, by simp only; omega⟩⟩)
    · obtain ⟨c, _, rfl⟩ := List.mem_map.mp hx
      obtain ⟨c', _, rfl⟩ := List.mem_map.mp hy
      exact decide_eq_true (.inr ⟨rfl, .inl (by simp only; omega)⟩)
  · obtain ⟨b, _, hx⟩ := List.mem_flatMap.mp hx
    obtain ⟨c, _, rfl⟩ := List.mem_map.mp hx
    obtain ⟨b', _, hy⟩ := List.mem_flatMap.mp hy
    obtain ⟨c', _, rfl⟩ := List.mem_map.mp hy
    simp only [lt3, decide_eq_true_eq]
    omega
theorem lt3_irr (a : Tr) : lt3 a a = false := by
  simp only [lt3, decide_eq_false_iff_not]
  omega
theorem rings_one (s : Nat) (W : WL) (wo : ∀ p ∈ W, (0 ≤ p.1 ∧ p.1 < s) ∧ (0 ≤ p.2 ∧ p.2 < s) ∧ p.1 ≠ p.2) (nd : W.Nodup) : ((ringsP s W).mergeSort fun a b => !lt3 b a) = ringL s W := by
  refine sort_uniq lt3_tot lt3_tr lt3_as ?_ ((ringL_lt s W).imp fun {x y} h e => by rw [e, lt3_irr] at h; cases h) (fun t => ?_) ((ringL_lt s W).imp fun {x y} h => lt3_as x y h)
  · unfold ringsP
    show List.Pairwise _ _
    rw [List.pairwise_flatMap]
    refine ⟨fun p _ => ?_, nd.imp fun {p q} h x hx y hy e => ?_⟩
    · unfold rowP
      rw [List.pairwise_map]
      refine ((List.pairwise_lt_range (n := ((s : Int) - (p.1 + 1)).toNat)).filter _).imp fun {c c'} h e => ?_
      have := congrArg (fun t : Tr => t.2.2) e
      simp only at this
      omega
    · obtain ⟨c, _, rfl⟩ := List.mem_map.mp hx
      obtain ⟨c', _, rfl⟩ := List.mem_map.mp hy
      have h1 := congrArg (fun t : Tr => t.1) e
      have h2 := congrArg (fun t : Tr => t.2.1) e
      simp only at h1 h2
      exact h (Prod.ext h1 h2)
  · constructor
    · intro h
      obtain ⟨⟨p1, p2⟩, hp, hx⟩ := List.mem_flatMap.mp h
      obtain ⟨k, hk, rfl⟩ := List.mem_map.mp hx
      obtain ⟨k1, k2⟩ := List.mem_filter.mp hk
      have kl := List.mem_range.mp k1
      obtain ⟨⟨a0, a1⟩, ⟨b0, b1⟩, _⟩ := wo _ hp
      simp only at a0 a1 b0 b1 kl
      simp only [rOk, Bool.and_eq_true, decide_eq_true_eq] at k2
      obtain ⟨r1, r2, r3⟩ := k2
      obtain ⟨a, rfl⟩ := nat_of a0
      obtain ⟨b, rfl⟩ := nat_of b0
      have hc : (a : Int) + 1 + (k : Int) = ((a + 1 + k : Nat) : Int) := by omega
      rw [hc] at r2 r3 ⊢
      refine List.mem_flatMap.mpr ⟨a, List.mem_range.mpr (by omega), List.mem_flatMap.mpr ⟨b, List.mem_range.mpr (by omega), List.mem_map.mpr ⟨a + 1 + k, List.mem_filter.mpr ⟨List.mem_range.mpr (by omega), ?_⟩, rfl⟩⟩⟩
      simp only [rB, Bool.and_eq_true, decide_eq_true_eq]
      exact ⟨by omega, memP_t.mpr hp, r2, r3⟩
    · intro h
      obtain ⟨a, ha, h⟩ := List.mem_flatMap.mp h
      obtain ⟨b, hb, h⟩ := List.mem_flatMap.mp h
      obtain ⟨c, hc, rfl⟩ := List.mem_map.mp h
      obtain ⟨c1, c2⟩ := List.mem_filter.mp hc
      have a' := List.mem_range.mp ha
      have b' := List.mem_range.mp hb
      have c' := List.mem_range.mp c1
      simp only [rB, Bool.and_eq_true, decide_eq_true_eq] at c2
      obtain ⟨r0, r1, r2, r3⟩ := c2
      have e : (c : Int) = (a : Int) + 1 + ((c - (a + 1) : Nat) : Int) := by omega
      refine List.mem_flatMap.mpr ⟨((a : Int), (b : Int)), memP_t.mp r1, List.mem_map.mpr ⟨c - (a + 1), List.mem_filter.mpr ⟨List.mem_range.mpr (by simp only; omega), ?_⟩, by simp only; rw [← e]⟩⟩
      simp only
      rw [← e]
      simp only [rOk, Bool.and_eq_true, decide_eq_true_eq]
      exact ⟨by omega, r2, r3⟩
end Hd
end

/-! part: K30p -/
section
set_option Elab.async false
set_option linter.all false
set_option maxRecDepth 100000
set_option maxHeartbeats 1000000
namespace Hd
open PySem PySem.Spec Q
def T10_law : Bd := bSeq (bIf (fNotT (fTr (fB (Ph__law_same 4) (aCons (fB (Ph_order) (aCons (vF 1) (aCons (vF 6) (aNil)))) (aCons (fIf (fT (f2 neD (vF 12) (fLst (aNil)))) (f2 ixD (vF 12) (cD (.int 0))) (cD .none)) (aNil)))))) (bRet (cD (.bool false))) (bNext)) (bRet (fOr (f2 gtD (f2 modD (fB (Ph__law_cell) (aCons (vF 0) (aCons (cD (.int 3)) (aNil)))) (cD (.int 3))) (cD (.int 0))) (fAnd (f2 neD (vP 8) (fLst (aNil))) (f2 neD (vF 12) (fLst (aNil))))))
def T9_law : Bd := bSeq (bAsg 12 (fLc (fI (fB (Ph__law_orders) (aCons (fLr1 (vF 1)) (aNil)))) (sN 14) (fT (f2 eqD (fLc (fIs rg1D (aCons (f2 subD (vF 1) (cD (.int 1))) (aNil))) (sN 19) (fT (f2 notInD (fTup (aCons (f2 ixD (vF 14) (vF 19)) (aCons (f2 ixD (vF 14) (f2 addD (vF 19) (cD (.int 1)))) (aNil)))) (vF 7))) (vF 19) [19]) (fLst (aNil)))) (vF 14) [14])) (T10_law)
def T8_law : Bd := bSeq (bAsg 10 (fLst (aNil))) (bSeq (bFor (fIs rg1D (aCons (vF 1) (aNil))) (sN 11) (L_law_4)) (bSeq (bIf (fNotT (fTr (fB (Ph__law_same 4) (aCons (fB (Ph_rings) (aCons (vF 1) (aCons (vF 6) (aNil)))) (aCons (fB tupD (aCons (vF 10) (aNil))) (aNil)))))) (bRet (cD (.bool false))) (bNext)) (T9_law)))
def T7_law : Bd := bSeq (bOwn 8 (fLst (aNil))) (bSeq (bFor (fIs rg1D (aCons (vF 1) (aNil))) (sN 9) (L_law_2)) (bSeq (bIf (fNotT (fTr (fB (Ph__law_same 4) (aCons (fB (Ph_kings) (aCons (vF 1) (aCons (vF 6) (aNil)))) (aCons (fB tupD (aCons (vP 8) (aNil))) (aNil)))))) (bRet (cD (.bool false))) (bNext)) (T8_law)))
def T6_law : Bd := bSeq (bAsg 7 (fB (Ph__law_beat) (aCons (vF 6) (aNil)))) (bSeq (bIf (fNotT (fTr (fB (Ph__law_same 4) (aCons (fB (Ph_beat) (aCons (vF 1) (aCons (fB (Ph__law_listed 4) (aCons (vF 6) (aNil))) (aNil)))) (aCons (fB tupD (aCons (vF 7) (aNil))) (aNil)))))) (bRet (cD (.bool false))) (bNext)) (T7_law))
def T5_law : Bd := bSeq (bAsg 6 (fB (Ph__law_played) (aCons (fB (Ph__law_numbers) (aCons (vF 0) (aCons (cD (.int 1)) (aCons (f2 modD (fB (Ph__law_cell) (aCons (vF 0) (aCons (cD (.int 2)) (aNil)))) (cD (.int 12))) (aNil))))) (aCons (vF 1) (aNil))))) (bSeq (bIf (fT (f2 eqD (f2 modD (fB (Ph__law_cell) (aCons (vF 0) (aCons (cD (.int 3)) (aNil)))) (cD (.int 3))) (cD (.int 0)))) (bSeq (bAsg 6 (fLst (aNil))) (bSeq (bFor (fIs rg1D (aCons (vF 1) (aNil))) (sN 9) (L_law_1)) (bAsg 6 (fB tupD (aCons (vF 6) (aNil)))))) (bNext)) (T6_law))
def T4_law : Bd := bSeq (bIf (fT (f2 neD (fLc (fI (vF 5)) (sN 15) (fT (f2 notBD (fB (Ph_is_plan) (aCons (vF 1) (aCons (vF 15) (aNil)))) (cD (.bool false)))) (vF 15) [15]) (fLst (aNil)))) (bRet (cD (.bool false))) (bNext)) (T5_law)
def T3_law : Bd := bSeq (bIf (fT (f2 gtD (vF 1) (cD (.int 3)))) (bAsg 5 (f2 addD (vF 5) (fLst (aCons (f2 addD (fTup (aCons (fB tupD (aCons (fB sortedD (aCons (f2 addD (f2 ixD (vF 2) (cD (.int 0))) (f2 ixD (vF 2) (cD (.int 1)))) (aNil))) (aNil))) (aNil))) (fSl (vF 2) (oIs (cD (.int 2))) (oNo))) (aCons (f2 addD (fTup (aCons (f2 revUD (f2 ixD (vF 2) (cD (.int 0))) (f1 negD (cD (.int 1)))) (aNil))) (fSl (vF 2) (oIs (cD (.int 1))) (oNo))) (aNil)))))) (bNext)) (T4_law)
def T2_law : Bd := bSeq (bAsg 3 (f2 addD (fSl (vF 2) (oNo) (oIs (f1 negD (cD (.int 1))))) (fB tupD (aCons (fLc (fI (f2 ixD (vF 2) (f1 negD (cD (.int 1))))) (sN 16) (fYes) (fTup (aCons (vF 16) (aNil))) [16]) (aNil))))) (bSeq (bAsg 4 (f2 addD (fTup (aCons (f2 addD (fTup (aCons (f2 revUD (f2 ixD (f2 ixD (vF 2) (cD (.int 0))) (cD (.int 0))) (f1 negD (cD (.int 1)))) (aNil))) (fSl (f2 ixD (vF 2) (cD (.int 0))) (oIs (cD (.int 1))) (oNo))) (aNil))) (fSl (vF 2) (oIs (cD (.int 1))) (oNo)))) (bSeq (bIf (fOrT (fT (f2 notBD (fB (Ph_is_plan) (aCons (vF 1) (aCons (vF 3) (aNil)))) (cD (.bool true)))) (fOrT (fT (f2 notBD (fB (Ph_is_plan) (aCons (vF 1) (aCons (f2 revUD (vF 2) (f1 negD (cD (.int 1)))) (aNil)))) (cD (.bool true)))) (fOrT (fT (f2 notBD (fB (Ph_is_plan) (aCons (vF 1) (aCons (f2 addD (vF 2) (fTup (aCons (fTup (aNil)) (aNil)))) (aNil)))) (cD (.bool true)))) (fT (f2 notBD (fB (Ph_is_plan) (aCons (vF 1) (aCons (vF 4) (aNil)))) (cD (.bool false))))))) (bRet (cD (.bool false))) (bNext)) (bSeq (bAsg 5 (fLst (aCons (cD (.int 7)) (aCons (fSl (vF 2) (oIs (cD (.int 1))) (oNo)) (aCons (f2 addD (vF 2) (fSl (vF 2) (oNo) (oIs (cD (.int 1))))) (aCons (f2 addD (fSl (vF 2) (oNo) (oIs (f1 negD (cD (.int 1))))) (fTup (aCons (fSl (f2 ixD (vF 2) (f1 negD (cD (.int 1)))) (oIs (cD (.int 1))) (oNo)) (aNil)))) (aCons (f2 addD (fSl (vF 2) (oNo) (oIs (f1 negD (cD (.int 1))))) (fTup (aCons (f2 addD (f2 ixD (vF 2) (f1 negD (cD (.int 1)))) (fTup (aCons (fTup (aCons (vF 1) (aCons (f2 addD (vF 1) (cD (.int 1))) (aNil)))) (aNil)))) (aNil)))) (aNil)))))))) (T3_law))))
def T1_law : Bd := bSeq (bIf (fOrT (fNotT (fTr (fB (Ph__law_same 4) (aCons (fB (Ph_plan) (aCons (vF 1) (aNil))) (aCons (vF 2) (aNil)))))) (fOrT (fT (f2 notBD (fB (Ph_is_plan) (aCons (vF 1) (aCons (fB (Ph__law_listed 4) (aCons (vF 2) (aNil))) (aNil)))) (cD (.bool true)))) (fT (f2 neD (fB (Ph_fewest_days) (aCons (vF 1) (aNil))) (fB lenD (aCons (vF 2) (aNil))))))) (bRet (cD (.bool false))) (bNext)) (T2_law)
def b_law2 : Bd := bSeq (bAsg 1 (f2 addD (cD (.int 2)) (f2 modD (fB (Ph__law_cell) (aCons (vF 0) (aCons (cD (.int 0)) (aNil)))) (cD (.int 5))))) (bSeq (bAsg 2 (fB (Ph__law_plan) (aCons (vF 1) (aNil)))) (T1_law))
theorem b_law_eq : b_law = b_law2 := rfl
def ROWF : Rho → Option D := fLc (fI (fB (Ph__law_orders) (aCons (fLr1 (vF 1)) (aNil)))) (sN 14) (fT (f2 eqD (fLc (fIs rg1D (aCons (f2 subD (vF 1) (cD (.int 1))) (aNil))) (sN 19) (fT (f2 notInD (fTup (aCons (f2 ixD (vF 14) (vF 19)) (aCons (f2 ixD (vF 14) (f2 addD (vF 19) (cD (.int 1)))) (aNil)))) (vF 7))) (vF 19) [19]) (fLst (aNil)))) (vF 14) [14]
theorem t9_eq : T9_law = bSeq (bAsg 12 ROWF) T10_law := rfl
theorem t2_eq : T2_law = C2 (C3 (C4 T5_law)) := rfl
theorem rgD0 (s : Nat) : rgD 0 s = (List.range s).map fun i => PyData.int (i : Nat) := by
  unfold rgD
  exact List.map_congr_left fun i _ => by rw [Int.zero_add]
theorem ne_rows (L : List (List Nat)) : neD (.list (L.map rowT)) (.list []) = some (.bool (!L.isEmpty)) := by
  have e := (nice_lst (nice_tup nice_int)).ne (by decide) (L.map fun row => row.map fun (i : Nat) => (i : Int)) []
  rw [List.map_map] at e
  have e2 : (L.map ((fun xs : List Int => PyData.tuple (xs.map .int)) ∘ fun row => row.map fun (i : Nat) => (i : Int))) = L.map rowT := List.map_congr_left fun row _ => by
    show PyData.tuple _ = PyData.tuple _
    rw [List.map_map]
    rfl
  rw [e2] at e
  refine e.trans ?_
  cases L <;> simp
theorem tame_rowT (row : List Nat) (h : row.length ≤ 1000) : tame 4 (rowT row) = true := tame_mk (fun i => tame_int 2 (i : Nat)) row h
theorem tame_optR (s : Nat) (hs : s ≤ 6) (p : List Nat → Bool) : tame 4 (optR ((permL s (List.range s)).find? p)) = true := by
  cases h : (permL s (List.range s)).find? p with
  | none => rfl
  | some row => exact tame_rowT row (by rw [(permL_mem (List.mem_of_find?_eq_some h)).1]; omega)
theorem ord_perm' (s : Nat) (hs : 2 ≤ s ∧ s ≤ 6) : ordE s s = permL s (List.range s) := ord_perm s (by simp; omega)
theorem permL_len (s : Nat) (hs : 2 ≤ s ∧ s ≤ 6) : (permL s (List.range s)).length ≤ 1000 := by
  rcases five s hs with rfl | rfl | rfl | rfl | rfl <;> decide +kernel
section
variable (ns : List Int) (s : Nat) (gs : List Gm) (hs : 2 ≤ s ∧ s ≤ 6) (hl : gs.length ≤ 30) (hg : ∀ g ∈ gs, okG s g) (x2 x3 x4 x5 x9 x10 x11 x13 : Sl)
include hs hl hg
/-- from the rows on -/
theorem tail9 : T9_law [.im (.list (ns.map .int)), .im (.int s), x2, x3, x4, x5, .im (.tuple (gs.map mkG)), .im (.list ((ssP (winsL gs)).map mkP)), .ow (.list ((topsL s (ssP (winsL gs))).map fun i => .int (i : Nat))), x9, x10, x11, .un, x13, .un, .un, .un, .un, .un, .un, .un] =
    some (.rt (.bool (decide (0 < ns.getD 3 0 % 3) || (!(topsL s (ssP (winsL gs))).isEmpty && !((permL s (List.range s)).filter (goodR s (ssP (winsL gs)))).isEmpty)))) := by
  have eo := e_order s gs hs hl hg
  have ec : Ph__law_cell [.list (ns.map .int), .int 3] = some (.int (ns.getD 3 0)) := e_cell ns 3
  generalize ns.getD 3 0 = c3 at *
  generalize ssP (winsL gs) = W at *
  have eor := e_orders s hs
  rw [ord_perm' s hs] at eor
  have pl := permL_len s hs
  have hsame := e_same_r 4 _ (tame_optR s hs.2 (goodR s W))
  have e1 : ((s : Int) - 1) = ((s - 1 : Nat) : Int) := by omega
  have rg := rg1_n (k := s - 1) (by omega)
  generalize hP : permL s (List.range s) = P at *
  have hPl : ∀ row ∈ P, row.length = s := fun row hr => (permL_mem (hP ▸ hr)).1
  have rows : ∀ ρ : Rho, ρ = [.im (.list (ns.map .int)), .im (.int s), x2, x3, x4, x5, .im (.tuple (gs.map mkG)), .im (.list (W.map mkP)), .ow (.list ((topsL s W).map fun i => .int (i : Nat))), x9, x10, x11, .un, x13, .un, .un, .un, .un, .un, .un, .un] →
      ROWF ρ = some (.list ((P.filter (goodR s W)).map rowT)) := by
    rintro ρ rfl
    unfold ROWF
    have h16 : (s : Int) ≤ 16777216 := by omega
    simp -implicitDefEqProofs [h16, rgD0, eor]
    rw [lcL_map (p := goodR s W) (g := rowT) (fun row hr => by
      have hrl := hPl row hr
      simp -implicitDefEqProofs [e1, rg, rowT]
      rw [lcL_map (p := fun k => !bt W (row.getD k 0) (row.getD (k + 1) 0)) (g := fun k => .int (k : Nat)) (fun k hk => by
        have hk' := List.mem_range.mp hk
        have e2 : ((k : Int) + 1) = ((k + 1 : Nat) : Int) := by omega
        have a1 := at_row (row := row) (k := k) (by omega)
        have a2 := at_row (row := row) (k := k + 1) (by omega)
        rw [← e2] at a2
        have nb := nb_l W (row.getD k 0) (row.getD (k + 1) 0)
        simp only [List.getD_eq_getElem?_getD] at nb
        simp -implicitDefEqProofs [a1, a2, nb]) (fun k hk _ => by simp), Option.bind_some, lcB_small (by
          have := List.length_filter_le (fun k => !bt W (row.getD k 0) (row.getD (k + 1) 0)) (List.range (s - 1))
          rw [List.length_range] at this
          rw [List.length_map]
          omega)]
      have he : ((List.range (s - 1)).filter fun k => !bt W (row.getD k 0) (row.getD (k + 1) 0)).isEmpty = goodR s W row := by
        rw [Bool.eq_iff_iff, List.isEmpty_iff, List.filter_eq_nil_iff]
        unfold goodR
        rw [List.all_eq_true]
        exact forall_congr' fun j => forall_congr' fun _ => by
          cases bt W (row.getD j 0) (row.getD (j + 1) 0) <;> simp
      simp only [Option.bind_some, eq_f0, he]
      simp) (fun row hr _ => by simp), Option.bind_some, lcB_small (by
        have := List.length_filter_le (goodR s W) P
        rw [List.length_map]
        omega)]
  have r0 := rows _ rfl
  generalize hT : topsL s W = T at *
  have hfind : P.find? (goodR s W) = (P.filter (goodR s W)).head? := (List.head?_filter ..).symm
  rw [hfind] at eo hsame
  generalize P.filter (goodR s W) = Rw at *
  rw [t9_eq]
  simp -implicitDefEqProofs [r0]
  cases Rw with
  | nil =>
    have hn : neD (.list []) (.list []) = some (.bool false) := by simpa using ne_rows []
    have eo' : Ph_order [.int s, .tuple (gs.map mkG)] = some .none := eo
    have hs' : Ph__law_same 4 [.none, .none] = some (.bool true) := hsame
    simp -implicitDefEqProofs [T10_law, eo', hs', hn, ec]
    by_cases hc : 0 < c3 % 3
    · have hc2 : ¬ c3 % 3 ≤ 0 := by omega
      simp [hc, hc2]
    · have hc2 : c3 % 3 ≤ 0 := by omega
      cases T <;> simp [hc, hc2]
  | cons row Rw =>
    have hn := ne_rows (row :: Rw)
    rw [List.map_cons] at hn
    have eo' : Ph_order [.int s, .tuple (gs.map mkG)] = some (rowT row) := eo
    have hs' : Ph__law_same 4 [rowT row, rowT row] = some (.bool true) := hsame
    have i0 : L2.atI (rowT row :: Rw.map rowT) 0 = some (rowT row) := atI_nat (n := 0) (by simp)
    simp -implicitDefEqProofs [T10_law, eo', hs', hn, ec, i0]
    by_cases hc : 0 < c3 % 3
    · have hc2 : ¬ c3 % 3 ≤ 0 := by omega
      simp [hc, hc2]
    · have hc2 : c3 % 3 ≤ 0 := by omega
      cases T <;> simp [hc, hc2]
end
end Hd
end

/-! part: K30q -/
section
set_option Elab.async false
set_option linter.all false
set_option maxRecDepth 100000
set_option maxHeartbeats 1000000
namespace Hd
open PySem PySem.Spec Q
theorem tame_mkP (p : Int × Int) : tame 3 (mkP p) = true := rfl
theorem tame_mkT (p : Tr) : tame 3 (mkT p) = true := rfl
theorem tame_mkG (g : Gm) : tame 3 (mkG g) = true := rfl
theorem lstd_gs (gs : List Gm) : lstd 4 (.tuple (gs.map mkG)) = .list (gs.map lsG) := lstd_mk (fun _ => rfl) gs
section
variable (ns : List Int) (s : Nat) (gs : List Gm) (hs : 2 ≤ s ∧ s ≤ 6) (hl : gs.length ≤ 30) (hg : ∀ g ∈ gs, okG s g) (x2 x3 x4 x5 x9 : Sl)
def lastB (ns : List Int) (s : Nat) (W : WL) : Bool := decide (0 < ns.getD 3 0 % 3) || (!(topsL s W).isEmpty && !((permL s (List.range s)).filter (goodR s W)).isEmpty)
include hs hl hg
theorem tail8 : T8_law [.im (.list (ns.map .int)), .im (.int s), x2, x3, x4, x5, .im (.tuple (gs.map mkG)), .im (.list ((ssP (winsL gs)).map mkP)), .ow (.list ((topsL s (ssP (winsL gs))).map fun i => .int (i : Nat))), x9, .un, .un, .un, .un, .un, .un, .un, .un, .un, .un, .un] =
    some (.rt (.bool (lastB ns s (ssP (winsL gs))))) := by
  have er := e_rings s gs hs hl hg
  obtain ⟨wo, wn, wl⟩ := W_ok s gs hs hl hg
  rw [rings_one s _ wo wn] at er
  have t9 := tail9 ns s gs hs hl hg x2 x3 x4 x5 x9
  have hlen : (ringL s (ssP (winsL gs))).length ≤ 1000 := by
    have := flatL_len (fun a => (List.range s).flatMap fun b => rowL s (ssP (winsL gs)) a b) 36 (fun a => Nat.le_trans (flatL_len (fun b => rowL s (ssP (winsL gs)) a b) 6 (fun b => rowL_len s _ a b hs.2) (List.range s)) (by rw [List.length_range]; omega)) (List.range s)
    rw [List.length_range] at this
    unfold ringL
    omega
  have hsame := e_same_r 4 _ (tame_mk tame_mkT (ringL s (ssP (winsL gs))) hlen)
  obtain ⟨y11, y13, hloop⟩ := ring_loop s hs (ssP (winsL gs)) (.im (.list (ns.map .int))) x2 x3 x4 x5 (.im (.tuple (gs.map mkG))) (.ow (.list ((topsL s (ssP (winsL gs))).map fun i => .int (i : Nat)))) x9 .un .un
  have rg := rg1_n (k := s) (by omega : s ≤ 100000)
  unfold lastB
  generalize ringL s (ssP (winsL gs)) = L at *
  generalize ssP (winsL gs) = W at *
  simp -implicitDefEqProofs [T8_law, rg]
  rw [hloop]
  simp -implicitDefEqProofs [er, hsame]
  have := t9 (.im (.list (L.map mkT))) y11 y13
  simpa -implicitDefEqProofs using this
theorem tail7 : T7_law [.im (.list (ns.map .int)), .im (.int s), x2, x3, x4, x5, .im (.tuple (gs.map mkG)), .im (.list ((ssP (winsL gs)).map mkP)), .un, x9, .un, .un, .un, .un, .un, .un, .un, .un, .un, .un, .un] =
    some (.rt (.bool (lastB ns s (ssP (winsL gs))))) := by
  have ek := e_kings s gs hs hl hg
  have t8 := fun y9 => tail8 ns s gs hs hl hg x2 x3 x4 x5 y9
  have hlen : (topsL s (ssP (winsL gs))).length ≤ 1000 := by
    have := List.length_filter_le (topB s (ssP (winsL gs))) (List.range s)
    rw [List.length_range] at this
    have e : topsL s (ssP (winsL gs)) = (List.range s).filter (topB s (ssP (winsL gs))) := rfl
    rw [e]
    omega
  have hsame := e_same_r 4 _ (tame_mk (fun i : Nat => tame_int 2 (i : Nat)) (topsL s (ssP (winsL gs))) hlen)
  obtain ⟨y9, hloop⟩ := tops_loop s hs (ssP (winsL gs)) (.im (.list (ns.map .int))) x2 x3 x4 x5 (.im (.tuple (gs.map mkG))) x9
  have rg := rg1_n (k := s) (by omega : s ≤ 100000)
  generalize lastB ns s (ssP (winsL gs)) = B at *
  generalize topsL s (ssP (winsL gs)) = T at *
  generalize ssP (winsL gs) = W at *
  simp -implicitDefEqProofs [T7_law, rg]
  rw [hloop]
  simp -implicitDefEqProofs [ek, hsame]
  simpa -implicitDefEqProofs using t8 y9
theorem tail6 (x7 : Sl) : T6_law [.im (.list (ns.map .int)), .im (.int s), x2, x3, x4, x5, .im (.tuple (gs.map mkG)), x7, .un, x9, .un, .un, .un, .un, .un, .un, .un, .un, .un, .un, .un] =
    some (.rt (.bool (lastB ns s (ssP (winsL gs))))) := by
  have eb := e_beat s gs hs hl hg lsG _ (.inr rfl) (.inr rfl)
  have elb := e_law_beat s gs hl hg
  have t7 := tail7 ns s gs hs hl hg x2 x3 x4 x5 x9
  obtain ⟨_, _, wl⟩ := W_ok s gs hs hl hg
  have hlist := e_listed_g 4 (.tuple (gs.map mkG)) (tame_mk tame_mkG gs (by omega))
  rw [lstd_gs] at hlist
  have hsame := e_same_r 4 _ (tame_mk tame_mkP (ssP (winsL gs)) (by omega))
  generalize lastB ns s (ssP (winsL gs)) = B at *
  generalize ssP (winsL gs) = W at *
  simp -implicitDefEqProofs [T6_law, elb, hlist, eb, hsame]
  simpa -implicitDefEqProofs using t7
end
theorem tail5 (ns : List Int) (s : Nat) (hs : 2 ≤ s ∧ s ≤ 6) (x2 x3 x4 x5 : Sl) : T5_law [.im (.list (ns.map .int)), .im (.int s), x2, x3, x4, x5, .un, .un, .un, .un, .un, .un, .un, .un, .un, .un, .un, .un, .un, .un, .un] = some (.rt (.bool true)) := by
  have ec2 : Ph__law_cell [.list (ns.map .int), .int 2] = some (.int (ns.getD 2 0)) := e_cell ns 2
  have ec3 : Ph__law_cell [.list (ns.map .int), .int 3] = some (.int (ns.getD 3 0)) := e_cell ns 3
  obtain ⟨k, hk1, hk2⟩ := mod_nat (ns.getD 2 0) (m := 12) (by decide)
  obtain ⟨l, hl1, hl2⟩ := e_numbers ns 1 k (by omega)
  have hl3 : Ph__law_numbers [.list (ns.map .int), .int 1, .int k] = some (.list (l.map .int)) := hl2
  have hp := e_law_played s l hs (by omega)
  have gok : ∀ g ∈ l.map (gmOf s), okG s g := fun g hg => by
    obtain ⟨n, _, rfl⟩ := List.mem_map.mp hg
    exact gmOf_ok s n hs
  have rg := rg1_n (k := s) (by omega : s ≤ 100000)
  by_cases hc : ns.getD 3 0 % 3 = 0
  · obtain ⟨y9, hf⟩ := full_loop ns s hs x2 x3 x4 x5 .un .un
    have glen := gsF_len s (ns.getD 4 0) hs
    have t6 := tail6 ns s (gsF s (ns.getD 4 0)) hs (by omega) (gsF_ok s _) x2 x3 x4 x5 y9 .un
    have tot := gsF_tot s (ns.getD 4 0)
    have hB : lastB ns s (ssP (winsL (gsF s (ns.getD 4 0)))) = true := by
      have k1 := king_tops hs.1 tot
      obtain ⟨row, r1, r2⟩ := order_ex tot
      unfold lastB
      have e1 : (topsL s (ssP (winsL (gsF s (ns.getD 4 0))))).isEmpty = false := by
        cases h : topsL s (ssP (winsL (gsF s (ns.getD 4 0)))) with
        | nil => exact absurd h k1
        | cons => rfl
      have e2 : ((permL s (List.range s)).filter (goodR s (ssP (winsL (gsF s (ns.getD 4 0)))))).isEmpty = false := by
        cases h : (permL s (List.range s)).filter (goodR s (ssP (winsL (gsF s (ns.getD 4 0))))) with
        | nil =>
          have := List.mem_filter.mpr ⟨r1, r2⟩
          rw [h] at this
          cases this
        | cons => rfl
      rw [e1, e2]
      simp
    rw [hB] at t6
    have hc' : (ns.getD 3 0 % 3 == 0) = true := by simpa using hc
    generalize ns.getD 3 0 = c3 at *
    generalize ns.getD 2 0 = c2 at *
    generalize gsF s (ns.getD 4 0) = G at *
    simp -implicitDefEqProofs [T5_law, ec2, ec3, hk1, hl3, hp, hc, rg]
    rw [hf]
    simp -implicitDefEqProofs
    simpa -implicitDefEqProofs using t6
  · have t6 := tail6 ns s (l.map (gmOf s)) hs (by simp; omega) gok x2 x3 x4 x5 .un .un
    have hpos : 0 < ns.getD 3 0 % 3 := by
      have := Int.emod_nonneg (ns.getD 3 0) (show (3 : Int) ≠ 0 by decide)
      omega
    have hB : lastB ns s (ssP (winsL (l.map (gmOf s)))) = true := by
      unfold lastB
      rw [decide_eq_true hpos]
      rfl
    rw [hB] at t6
    generalize ns.getD 3 0 = c3 at *
    generalize ns.getD 2 0 = c2 at *
    generalize l.map (gmOf s) = G at *
    simp -implicitDefEqProofs [T5_law, ec2, ec3, hk1, hl3, hp, hc]
    simpa -implicitDefEqProofs using t6
theorem e_law (ns : List Int) : Ph_law [.list (ns.map .int)] = some (.bool true) := by
  have ec0 : Ph__law_cell [.list (ns.map .int), .int 0] = some (.int (ns.getD 0 0)) := e_cell ns 0
  obtain ⟨k, hk1, hk2⟩ := mod_nat (ns.getD 0 0) (m := 5) (by decide)
  obtain ⟨s, hse⟩ : ∃ s : Nat, s = 2 + k := ⟨_, rfl⟩
  have hs : 2 ≤ s ∧ s ≤ 6 := by omega
  have hcast : (2 : Int) + (k : Int) = (s : Int) := by omega
  have ep := e_plan s hs
  have elp := e_law_plan s hs
  have ht : tame 4 (planD s) = true := by
    rcases five s hs with rfl | rfl | rfl | rfl | rfl <;> decide +kernel
  have hlist := e_listed_g 4 _ ht
  have hsame := e_same_r 4 _ ht
  have hip := e_is_plan s hs
  have hlen : (planL s).length = evn s - 1 := by simp [planL]
  have efd : Ph_fewest_days [.int s] = some (.int (((planL s).length : Nat) : Int)) := by
    have em : (s : Int) - 1 + (s : Int) % 2 = ((planL s).length : Nat) := by rw [hlen]; unfold evn; omega
    simp -implicitDefEqProofs [Ph_fewest_days, b_fewest_days, e_to_sides s hs, e_need_i, em]
  have hpd : lenD [planD s] = some (.int (((planL s).length : Nat) : Int)) := by
    unfold planD
    simp [lenD]
  obtain ⟨x3, x4, x5, hch⟩ := chunk s hs T5_law (.list (ns.map .int))
  have t5 := tail5 ns s hs (.im (planD s)) x3 x4 x5
  have main : T2_law (rho0 s (.list (ns.map .int))) = some (.rt (.bool true)) := by
    rw [t2_eq, hch]
    exact t5
  have main' : T2_law [.im (.list (ns.map .int)), .im (.int s), .im (planD s), .un, .un, .un, .un, .un, .un, .un, .un, .un, .un, .un, .un, .un, .un, .un, .un, .un, .un] = some (.rt (.bool true)) := main
  generalize planD s = P at *
  generalize ns.getD 0 0 = c0 at *
  simp -implicitDefEqProofs [Ph_law, b_law_eq, b_law2, ec0, hk1, hcast, elp, T1_law, ep, hsame, hlist, hip, efd, hpd, main']
end Hd
end

theorem PySem.Challenge.cw_playground_k30_plans_kings_and_orders_holds : PySem.Challenge.rw_playground_k30_plans_kings_and_orders.Holds := by
  exact law_from fun ns _ => Hd.e_law ns
