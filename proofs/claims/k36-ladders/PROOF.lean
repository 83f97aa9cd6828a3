import PyProof.Rows.All
import Wide.All
import OpenK.AllK
import Wide.FinOn
import HandS.ForMost
import HandS.Deep
import HandS.Conv
import HandS.Star
import HandS.TupAny
import HandS.Defaults
import HandS.IsInst
import HandS.Style
import HandS.Flow
import HandS.TupMul
import HandS.Strs
import KE.DataCmp
import KE.DataMinMax
import KE.SortData
import KE.DataAny
import KE.KTupSum
import HandS.Zip
import HandS.Rev
import KE.GoesEnum
import HandS.SetFor
import HandS.Head0
import HandS.Head1
import HandS.Head2
import HandS.HeadEnd
import HandS.HeadHook1
import HandS.HeadHook2
import KE.DataFind
import HandS.Gcd
import KE.GoesZip
import KE.GoesMore
import HandS.Text
import KE.KMathGC
import HandS.SortKw
import PyProof.MaxThree
import HandS.Dict
import PyProof.SliceStr2
import KE.KStateDown
import HandS.ForExc
import HandS.More
import HandS.Head3
import PySem.Challenge.RW_playground_k36_words_near_and_ladders
/-! part: Q1 -/
section
set_option Elab.async false
set_option linter.all false
set_option maxRecDepth 100000
set_option maxHeartbeats 4000000
namespace Q
open PySem PySem.Spec PyProof.Rows L2
abbrev D := PyData

/-! ### representation -/
/-- a tuple whose object is known, or of the written part -/
def TupAt (K : PySem.W.Frag) (F : Hp) (a : Addr) (xs : List V) : Prop :=
  (∃ o, F a = some (.frz o (.tup xs)) ∧ o.cls = .type "tuple" ∧ o.dict = none) ∨
    ∃ (o : Obj) (its : Array Value) (n : Nat), K.lookup a = some o ∧ o.cls = .type "tuple" ∧ o.dict = none ∧ o.data = .seq its n ∧ its.size ≤ sizeLine ∧ Vals xs its.toList
theorem TupAt.sq {K : PySem.W.Frag} {F : Hp} {a : Addr} {xs : List V} (h : TupAt K F a xs) : SqT K F a xs := by
  rcases h with ⟨o, h, _⟩ | ⟨o, its, n, h1, h2, _, h4, h5, h6⟩
  · exact .inl (.inr ⟨o, h⟩)
  · exact .inr ⟨o, its, n, h1, h2, h4, h5, h6⟩
/-- a dict's key as a datum -/
def kD : Key → D
  | .inl i => .int i
  | .inr x => .str x
mutual
inductive Rep (K : PySem.W.Frag) (F : Hp) : V → D → Prop
  | non : Rep K F .non .none
  | bl (b : Bool) : Rep K F (.bl b) (.bool b)
  | int (i : Int) : Rep K F (.int i) (.int i)
  | str (x : Str) : Rep K F (.str x) (.str x)
  | lst {a : Addr} {xs : List V} {ds : List D} : SqL K F a xs → RepA K F xs ds → Rep K F (.ref a) (.list ds)
  | tup {a : Addr} {xs : List V} {ds : List D} : TupAt K F a xs → RepA K F xs ds → Rep K F (.ref a) (.tuple ds)
  | dct {a : Addr} {ks : List (Key × V)} {es : List (D × D)} : Rd F a (.dK ks) → RepK K F ks es → Rep K F (.ref a) (.dict es)
inductive RepA (K : PySem.W.Frag) (F : Hp) : List V → List D → Prop
  | nil : RepA K F [] []
  | cons {v : V} {vs : List V} {d : D} {ds : List D} : Rep K F v d → RepA K F vs ds → RepA K F (v :: vs) (d :: ds)
inductive RepK (K : PySem.W.Frag) (F : Hp) : List (Key × V) → List (D × D) → Prop
  | nil : RepK K F [] []
  | cons {k : Key} {v : V} {ks : List (Key × V)} {d : D} {es : List (D × D)} : Rep K F v d → RepK K F ks es → RepK K F ((k, v) :: ks) ((kD k, d) :: es)
end
theorem _root_.L2.Same.rd {H H' : Hp} {a : Addr} {u : HO} (e : Same H H') (h : Rd H a u) : Rd H' a u := by
  rcases h with h | ⟨o, h⟩
  · exact .inl (e _ _ h)
  · exact .inr ⟨o, e _ _ h⟩
/-! data without dicts -/
mutual
def nd : D → Bool
  | .dict _ => false
  | .list xs | .tuple xs => ndA xs
  | _ => true
def ndA : List D → Bool
  | [] => true
  | x :: xs => nd x && ndA xs
end
mutual
theorem nd_lay : ∀ d : D, d.canLay0 = true → nd d = true
  | .none, _ => by rw [nd] <;> intros <;> simp_all
  | .bool _, _ => by rw [nd] <;> intros <;> simp_all
  | .int _, _ => by rw [nd] <;> intros <;> simp_all
  | .str _, _ => by rw [nd] <;> intros <;> simp_all
  | .list xs, h => by rw [nd]; exact nd_layA xs (by simpa [PyData.canLay0] using h)
  | .tuple xs, h => by rw [nd]; exact nd_layA xs (by simpa [PyData.canLay0] using h)
  | .dict _, h => by simp [PyData.canLay0] at h
theorem nd_layA : ∀ ds : List D, PyData.canLayAll0 ds = true → ndA ds = true
  | [], _ => by rw [ndA]
  | x :: xs, h => by
    rw [ndA]
    rw [PyData.canLayAll0, Bool.and_eq_true] at h
    rw [nd_lay x h.1, nd_layA xs h.2]
    rfl
end
theorem nd_shaped {d : D} (h : SeqAt.shaped d = true) : nd d = true := nd_lay d (SeqAt.canLay_of_shaped h)
theorem _root_.L2.Same.sqT {K : PySem.W.Frag} {H H' : Hp} {a : Addr} {xs : List V} (e : Same H H') (h : SqT K H a xs) : SqT K H' a xs := by
  rcases h with (h | ⟨o, h⟩) | h
  · exact .inl (.inl (e _ _ h))
  · exact .inl (.inr ⟨o, e _ _ h⟩)
  · exact .inr h
theorem TupAt.mono {K : PySem.W.Frag} {H H' : Hp} {a : Addr} {xs : List V} (e : Same H H') (h : TupAt K H a xs) : TupAt K H' a xs := by
  rcases h with ⟨o, h, r⟩ | h
  · exact .inl ⟨o, e _ _ h, r⟩
  · exact .inr h
section
variable {K : PySem.W.Frag} {F F' : Hp}
mutual
theorem Rep.mono (e : Same F F') : ∀ {v : V} {d : D}, Rep K F v d → Rep K F' v d
  | _, _, .non => .non
  | _, _, .bl b => .bl b
  | _, _, .int i => .int i
  | _, _, .str x => .str x
  | _, _, .lst h r => .lst (e.seq h) (RepA.mono e r)
  | _, _, .tup h r => .tup (h.mono e) (RepA.mono e r)
  | _, _, .dct h r => .dct (e.rd h) (RepK.mono e r)
theorem RepA.mono (e : Same F F') : ∀ {vs : List V} {ds : List D}, RepA K F vs ds → RepA K F' vs ds
  | _, _, .nil => .nil
  | _, _, .cons h r => .cons (Rep.mono e h) (RepA.mono e r)
theorem RepK.mono (e : Same F F') : ∀ {ks : List (Key × V)} {es : List (D × D)}, RepK K F ks es → RepK K F' ks es
  | _, _, .nil => .nil
  | _, _, .cons h r => .cons (Rep.mono e h) (RepK.mono e r)
end
mutual
theorem Rep.dp : ∀ {v : V} {d : D}, Rep K F v d → nd d = true → Dp K F v d
  | _, _, .non, _ => .non
  | _, _, .bl b, _ => .bl b
  | _, _, .int i, _ => .int i
  | _, _, .str x, _ => .str x
  | _, _, .lst h r, n => .lst h (RepA.dp r (by rw [nd] at n; exact n))
  | _, _, .tup h r, n => .tup h.sq (RepA.dp r (by rw [nd] at n; exact n))
  | _, _, .dct h r, n => by rw [nd] at n; cases n
theorem RepA.dp : ∀ {vs : List V} {ds : List D}, RepA K F vs ds → ndA ds = true → DpAll K F vs ds
  | _, _, .nil, _ => .nil
  | _, _, .cons h r, n => .cons (Rep.dp h (by rw [ndA, Bool.and_eq_true] at n; exact n.1)) (RepA.dp r (by rw [ndA, Bool.and_eq_true] at n; exact n.2))
end
theorem RepA.length : ∀ {vs : List V} {ds : List D}, RepA K F vs ds → vs.length = ds.length
  | _, _, .nil => rfl
  | _, _, .cons _ r => congrArg Nat.succ (RepA.length r)
theorem RepA.get : ∀ {vs : List V} {ds : List D} {i : Nat} {d : D}, RepA K F vs ds → ds[i]? = some d → ∃ v, vs[i]? = some v ∧ Rep K F v d
  | _, _, _, _, .nil, e => by simp at e
  | _, _, 0, _, .cons h _, e => by simp at e; subst e; exact ⟨_, rfl, h⟩
  | _, _, i + 1, _, .cons _ r, e => by
    obtain ⟨v, h1, h2⟩ := RepA.get (i := i) r (by simpa using e)
    exact ⟨v, by simpa using h1, h2⟩
theorem RepA.getV : ∀ {vs : List V} {ds : List D} {i : Nat} {v : V}, RepA K F vs ds → vs[i]? = some v → ∃ d, ds[i]? = some d ∧ Rep K F v d
  | _, _, _, _, .nil, e => by simp at e
  | _, _, 0, _, .cons h _, e => by simp at e; subst e; exact ⟨_, rfl, h⟩
  | _, _, i + 1, _, .cons _ r, e => by
    obtain ⟨v, h1, h2⟩ := RepA.getV (i := i) r (by simpa using e)
    exact ⟨v, by simpa using h1, h2⟩
theorem RepA.append : ∀ {vs ws : List V} {ds es : List D}, RepA K F vs ds → RepA K F ws es → RepA K F (vs ++ ws) (ds ++ es)
  | _, _, _, _, .nil, s => s
  | _, _, _, _, .cons h r, s => .cons h (RepA.append r s)
theorem RepA.take : ∀ {vs : List V} {ds : List D} (n : Nat), RepA K F vs ds → RepA K F (vs.take n) (ds.take n)
  | _, _, 0, _ => by simp only [List.take_zero]; exact .nil
  | _, _, _ + 1, .nil => .nil
  | _, _, n + 1, .cons h r => .cons h (RepA.take n r)
theorem RepA.drop : ∀ {vs : List V} {ds : List D} (n : Nat), RepA K F vs ds → RepA K F (vs.drop n) (ds.drop n)
  | _, _, 0, r => by simpa using r
  | _, _, _ + 1, .nil => .nil
  | _, _, n + 1, .cons _ r => RepA.drop n r
theorem RepA.set : ∀ {vs : List V} {ds : List D} {v : V} {d : D} (i : Nat), RepA K F vs ds → Rep K F v d → RepA K F (vs.set i v) (ds.set i d)
  | _, _, _, _, _, .nil, _ => .nil
  | _, _, _, _, 0, .cons _ r, q => .cons q r
  | _, _, _, _, i + 1, .cons h r, q => .cons h (RepA.set i r q)
theorem RepA.eraseIdx : ∀ {vs : List V} {ds : List D} (i : Nat), RepA K F vs ds → RepA K F (vs.eraseIdx i) (ds.eraseIdx i)
  | _, _, _, .nil => .nil
  | _, _, 0, .cons _ r => r
  | _, _, i + 1, .cons h r => .cons h (RepA.eraseIdx i r)
theorem RepA.dropLast : ∀ {vs : List V} {ds : List D}, RepA K F vs ds → RepA K F vs.dropLast ds.dropLast
  | _, _, .nil => .nil
  | _, _, .cons _ .nil => .nil
  | _, _, .cons h (.cons h' r) => .cons h (RepA.dropLast (.cons h' r))
theorem RepA.reverse {vs : List V} {ds : List D} (h : RepA K F vs ds) : RepA K F vs.reverse ds.reverse := by
  match h with
  | .nil => exact .nil
  | .cons q r => rw [List.reverse_cons, List.reverse_cons]; exact RepA.append (RepA.reverse r) (.cons q .nil)
end
section
variable {K : PySem.W.Frag} {F F' : Hp}
theorem Rep.int_of {v : V} {i : Int} (h : Rep K F v (.int i)) : v = .int i := by cases h; rfl
theorem Rep.bl_of {v : V} {b : Bool} (h : Rep K F v (.bool b)) : v = .bl b := by cases h; rfl
theorem Rep.str_of {v : V} {x : Str} (h : Rep K F v (.str x)) : v = .str x := by cases h; rfl
theorem Rep.non_of {v : V} (h : Rep K F v .none) : v = .non := by cases h; rfl
theorem RepA.ints : ∀ {vs : List V} {ns : List Int}, RepA K F vs (ns.map .int) → vs = ns.map V.int
  | _, [], h => by cases h; rfl
  | _, n :: ns, h => by
    cases h with
    | cons h r => rw [Rep.int_of h, RepA.ints r]; rfl
theorem RepA.of_ints : ∀ (ns : List Int), RepA K F (ns.map V.int) (ns.map .int)
  | [] => .nil
  | n :: ns => .cons (.int n) (RepA.of_ints ns)
theorem RepA.bls : ∀ {vs : List V} {ns : List Bool}, RepA K F vs (ns.map .bool) → vs = ns.map V.bl
  | _, [], h => by cases h; rfl
  | _, n :: ns, h => by
    cases h with
    | cons h r => rw [Rep.bl_of h, RepA.bls r]; rfl
theorem RepA.strs : ∀ {vs : List V} {ns : List Str}, RepA K F vs (ns.map .str) → vs = ns.map V.str
  | _, [], h => by cases h; rfl
  | _, n :: ns, h => by
    cases h with
    | cons h r => rw [Rep.str_of h, RepA.strs r]; rfl
end

/-! ### slots, modes -/
inductive Sl where
  | un
  | im (d : D)
  | ow (d : D)
abbrev Rho := List Sl
inductive Md where
  | pk | fz | fr
/-- a changing object at a, its parts frozen -/
def Own (K : PySem.W.Frag) (F H : Hp) (a : Addr) : D → Prop
  | .list ds => ∃ vs, H a = some (.lst vs) ∧ RepA K F vs ds
  | .dict es => ∃ ks, H a = some (.dK ks) ∧ RepK K F ks es
  | _ => False
structure Bs where
  F0 : Hp
  G : Hp
/-- F' adds to F only what H does not have -/
def New (F F' H : Hp) : Prop := ∀ a, F' a ≠ none → F a ≠ none ∨ H a = none
structure Ext (F H F' H' : Hp) : Prop where
  f : Same F F'
  h : Same H H'
  n : New F F' H
  s : Same F' H'
theorem New.refl {F H : Hp} : New F F H := fun _ h => .inl h
theorem Ext.refl {F H : Hp} (h : Same F H) : Ext F H F H := ⟨.refl _, .refl _, .refl, h⟩
theorem Ext.trans {F H F1 H1 F2 H2 : Hp} (a : Ext F H F1 H1) (b : Ext F1 H1 F2 H2) : Ext F H F2 H2 :=
  ⟨a.f.trans b.f, a.h.trans b.h, fun c q => (b.n c q).elim (a.n c) fun z => .inr (a.h.free z), b.s⟩
/-- what is known of one value -/
def Res (K : PySem.W.Frag) (m : Md) (H0 F H : Hp) (v : V) (d : D) : Prop := match m with
  | .pk => Rep K F v d ∨ ∃ a, v = .ref a ∧ F a = none ∧ Own K F H a d
  | .fz => Rep K F v d
  | .fr => ∃ a, v = .ref a ∧ H0 a = none ∧ F a = none ∧ Own K F H a d
theorem Own.there {K : PySem.W.Frag} {F H : Hp} {a : Addr} {d : D} (h : Own K F H a d) : H a ≠ none := by
  cases d with
  | list ds => obtain ⟨vs, e, _⟩ := h; rw [e]; exact fun z => nomatch z
  | dict es => obtain ⟨vs, e, _⟩ := h; rw [e]; exact fun z => nomatch z
  | _ => exact h.elim
theorem Own.mono {K : PySem.W.Frag} {F H F' H' : Hp} {a : Addr} {d : D} (e : Same F F') (e2 : Same H H') (h : Own K F H a d) : Own K F' H' a d := by
  cases d with
  | list ds => obtain ⟨vs, q, r⟩ := h; exact ⟨vs, e2 _ _ q, r.mono e⟩
  | dict es => obtain ⟨vs, q, r⟩ := h; exact ⟨vs, e2 _ _ q, r.mono e⟩
  | _ => exact h.elim
theorem Ext.keepNone {F H F' H' : Hp} (x : Ext F H F' H') {a : Addr} (h1 : F a = none) (h2 : H a ≠ none) : F' a = none := by
  cases q : F' a with
  | none => rfl
  | some o => exact ((x.n a (by rw [q]; exact fun z => nomatch z)).elim (fun z => z h1) fun z => h2 z).elim
theorem Res.mono {K : PySem.W.Frag} {m : Md} {H0 F H F' H' : Hp} {v : V} {d : D} (h : Res K m H0 F H v d) (x : Ext F H F' H') : Res K m H0 F' H' v d := by
  cases m with
  | pk =>
    rcases h with h | ⟨a, e, f, o⟩
    · exact .inl (h.mono x.f)
    · exact .inr ⟨a, e, x.keepNone f o.there, o.mono x.f x.h⟩
  | fz => exact Rep.mono x.f h
  | fr =>
    obtain ⟨a, e, h0, f, o⟩ := h
    exact ⟨a, e, h0, x.keepNone f o.there, o.mono x.f x.h⟩
def SlOk (K : PySem.W.Frag) (F H G : Hp) (o : Option V) : Sl → Prop
  | .un => True
  | .im d => ∃ v, o = some v ∧ Rep K F v d
  | .ow d => ∃ a, o = some (.ref a) ∧ F a = none ∧ G a = none ∧ Own K F H a d
/-- the state of a def's names -/
structure Rel (K : PySem.W.Frag) (B : Bs) (F H : Hp) (σ : L2.St) (ρ : Rho) : Prop where
  len : σ.length = ρ.length
  f0 : Same B.F0 F
  g : Same B.G H
  fh : Same F H
  nw : New B.F0 F B.G
  sl : ∀ (i : Nat) (o : Option V) (s : Sl), σ[i]? = some o → ρ[i]? = some s → SlOk K F H B.G o s
  sep : ∀ (i j : Nat) (d e : D) (a : Addr), i ≠ j → ρ[i]? = some (.ow d) → ρ[j]? = some (.ow e) → σ[i]? = some (some (.ref a)) → σ[j]? ≠ some (some (.ref a))
theorem SlOk.mono {K : PySem.W.Frag} {F H F' H' G : Hp} {o : Option V} {s : Sl} (h : SlOk K F H G o s) (x : Ext F H F' H') : SlOk K F' H' G o s := by
  cases s with
  | un => trivial
  | im d => obtain ⟨v, e, r⟩ := h; exact ⟨v, e, r.mono x.f⟩
  | ow d => obtain ⟨a, e, f, g, o⟩ := h; exact ⟨a, e, x.keepNone f o.there, g, o.mono x.f x.h⟩
theorem Rel.ext {K : PySem.W.Frag} {B : Bs} {F H F' H' : Hp} {σ : L2.St} {ρ : Rho} (r : Rel K B F H σ ρ) (x : Ext F H F' H') : Rel K B F' H' σ ρ :=
  ⟨r.len, r.f0.trans x.f, r.g.trans x.h, x.s, fun a q => (x.n a q).elim (r.nw a) fun z => .inr (r.g.free z), fun i o s h1 h2 => (r.sl i o s h1 h2).mono x, r.sep⟩

/-! ### readings and what they give -/
def SemE (K : PySem.W.Frag) (m : Md) (t : TE) (f : Rho → Option D) : Prop :=
  ∀ (B : Bs) (F H : Hp) (σ : L2.St) (ρ : Rho) (d : D) (Q : VK), Rel K B F H σ ρ → f ρ = some d → (∀ v F' H', Ext F H F' H' → Res K m H F' H' v d → Q v H') → t σ H Q
def SemT (K : PySem.W.Frag) (t : TT) (f : Rho → Option Bool) : Prop :=
  ∀ (B : Bs) (F H : Hp) (σ : L2.St) (ρ : Rho) (b : Bool) (Q : Bool → Hp → Prop), Rel K B F H σ ρ → f ρ = some b → (∀ F' H', Ext F H F' H' → Q b H') → t σ H Q
inductive ResA (K : PySem.W.Frag) (m : Md) (H0 F H : Hp) : List V → List D → Prop
  | nil : ResA K m H0 F H [] []
  | cons {v vs d ds} : Res K m H0 F H v d → ResA K m H0 F H vs ds → ResA K m H0 F H (v :: vs) (d :: ds)
theorem ResA.mono {K : PySem.W.Frag} {m : Md} {H0 F H F' H' : Hp} (x : Ext F H F' H') : ∀ {vs : List V} {ds : List D}, ResA K m H0 F H vs ds → ResA K m H0 F' H' vs ds
  | _, _, .nil => .nil
  | _, _, .cons h r => .cons (h.mono x) (ResA.mono x r)
theorem ResA.rep {K : PySem.W.Frag} {H0 F H : Hp} : ∀ {vs : List V} {ds : List D}, ResA K .fz H0 F H vs ds → RepA K F vs ds
  | _, _, .nil => .nil
  | _, _, .cons h r => .cons h (ResA.rep r)
theorem ResA.length {K : PySem.W.Frag} {m : Md} {H0 F H : Hp} : ∀ {vs : List V} {ds : List D}, ResA K m H0 F H vs ds → vs.length = ds.length
  | _, _, .nil => rfl
  | _, _, .cons _ r => congrArg Nat.succ (ResA.length r)
def SemA (K : PySem.W.Frag) (m : Md) (t : TA) (f : Rho → Option (List D)) : Prop :=
  ∀ (B : Bs) (F H : Hp) (σ : L2.St) (ρ : Rho) (ds : List D) (Q : List V → Hp → Prop), Rel K B F H σ ρ → f ρ = some ds → (∀ vs F' H', Ext F H F' H' → ResA K m H F' H' vs ds → Q vs H') → t σ H Q
structure DE (X : Cx) (m : Md) (e : Expr) (t : TE) (f : Rho → Option D) : Prop where
  p : PE X e t
  s : SemE X.K m t f
structure DT (X : Cx) (e : Expr) (t : TT) (f : Rho → Option Bool) : Prop where
  p : PT X e t
  s : SemT X.K t f
structure DA (X : Cx) (m : Md) (es : List Expr) (t : TA) (f : Rho → Option (List D)) : Prop where
  p : PA X es t
  s : SemA X.K m t f
  n : ∀ ρ ds, f ρ = some ds → ds.length = es.length
/-! ### modes -/
theorem fr_pk {K : PySem.W.Frag} {H0 F H : Hp} {v : V} {d : D} (h : Res K .fr H0 F H v d) : Res K .pk H0 F H v d := by
  obtain ⟨a, e, _, f, o⟩ := h
  exact .inr ⟨a, e, f, o⟩
theorem fz_pk {K : PySem.W.Frag} {H0 F H : Hp} {v : V} {d : D} (h : Res K .fz H0 F H v d) : Res K .pk H0 F H v d := .inl h
theorem same_upd {F : Hp} {a : Addr} {o : HO} (h : F a = none) : Same F (upd F a o) := fun b u q => by rw [upd_ne (ne_of_none q h)]; exact q
theorem new_upd {F H : Hp} {a : Addr} {o : HO} (h : H a = none) : New F (upd F a o) H := fun b q => by
  by_cases e : b = a
  · subst e; exact .inr h
  · rw [upd_ne e] at q; exact .inl q
theorem same_upd2 {F H : Hp} {a : Addr} {o : HO} (h : Same F H) (e : H a = some o) (f : F a = none) : Same (upd F a o) H := fun b u q => by
  by_cases z : b = a
  · subst z; rw [upd_same] at q; cases q; exact e
  · rw [upd_ne z] at q; exact h _ _ q
/-- a new object is frozen -/
theorem fr_fz {K : PySem.W.Frag} {F H F' H' : Hp} {v : V} {d : D} (x : Ext F H F' H') (h : Res K .fr H F' H' v d) : ∃ F2, Ext F H F2 H' ∧ Res K .fz H F2 H' v d := by
  obtain ⟨a, rfl, h0, f, o⟩ := h
  cases d with
  | list ds =>
    obtain ⟨vs, e, r⟩ := o
    have s1 : Same F' (upd F' a (.lst vs)) := same_upd f
    refine ⟨upd F' a (.lst vs), ⟨x.f.trans s1, x.h, fun c q => ?_, same_upd2 x.s e f⟩, .lst (.of upd_same) (r.mono s1)⟩
    by_cases z : c = a
    · subst z; exact .inr h0
    · rw [upd_ne z] at q; exact x.n c q
  | dict es =>
    obtain ⟨vs, e, r⟩ := o
    have s1 : Same F' (upd F' a (.dK vs)) := same_upd f
    refine ⟨upd F' a (.dK vs), ⟨x.f.trans s1, x.h, fun c q => ?_, same_upd2 x.s e f⟩, .dct (.of upd_same) (r.mono s1)⟩
    by_cases z : c = a
    · subst z; exact .inr h0
    · rw [upd_ne z] at q; exact x.n c q
  | _ => exact o.elim
theorem DE.frz {X : Cx} {e : Expr} {t : TE} {f : Rho → Option D} (h : DE X .fr e t f) : DE X .fz e t f := ⟨h.p, fun B F H σ ρ d Q r hf q => h.s B F H σ ρ d Q r hf fun v F' H' x rs => by
  obtain ⟨F2, x2, r2⟩ := fr_fz x rs
  exact q v F2 H' x2 r2⟩
theorem DE.frp {X : Cx} {e : Expr} {t : TE} {f : Rho → Option D} (h : DE X .fr e t f) : DE X .pk e t f := ⟨h.p, fun B F H σ ρ d Q r hf q => h.s B F H σ ρ d Q r hf fun v F' H' x rs => q v F' H' x (fr_pk rs)⟩
theorem DE.fzp {X : Cx} {e : Expr} {t : TE} {f : Rho → Option D} (h : DE X .fz e t f) : DE X .pk e t f := ⟨h.p, fun B F H σ ρ d Q r hf q => h.s B F H σ ρ d Q r hf fun v F' H' x rs => q v F' H' x (fz_pk rs)⟩
/-! ### names, constants -/
def vF (i : Nat) : Rho → Option D := fun ρ => match ρ[i]? with
  | some (.im d) => some d
  | _ => none
def vP (i : Nat) : Rho → Option D := fun ρ => match ρ[i]? with
  | some (.im d) => some d
  | some (.ow d) => some d
  | _ => none
def cD (d : D) : Rho → Option D := fun _ => some d
theorem Rel.at {K : PySem.W.Frag} {B : Bs} {F H : Hp} {σ : L2.St} {ρ : Rho} (r : Rel K B F H σ ρ) {i : Nat} {s : Sl} (h : ρ[i]? = some s) : ∃ o, σ[i]? = some o ∧ SlOk K F H B.G o s := by
  have hi : i < σ.length := by rw [r.len]; exact (List.getElem?_eq_some_iff.mp h).1
  exact ⟨σ[i], List.getElem?_eq_getElem hi, r.sl i _ s (List.getElem?_eq_getElem hi) h⟩
section
variable {X : Cx} {pos : Pos}
theorem sem_varF {K : PySem.W.Frag} {i : Nat} : SemE K .fz (tVar i) (vF i) := fun B F H σ ρ d Q r hf q => by
  unfold vF at hf
  split at hf
  · rename_i d' e
    cases hf
    obtain ⟨o, h1, v, rfl, h2⟩ := r.at e
    exact ⟨v, h1, q v F H (.refl r.fh) h2⟩
  · cases hf
theorem sem_varP {K : PySem.W.Frag} {i : Nat} : SemE K .pk (tVar i) (vP i) := fun B F H σ ρ d Q r hf q => by
  unfold vP at hf
  split at hf
  · rename_i d' e
    cases hf
    obtain ⟨o, h1, v, rfl, h2⟩ := r.at e
    exact ⟨v, h1, q v F H (.refl r.fh) (.inl h2)⟩
  · rename_i d' e
    cases hf
    obtain ⟨o, h1, a, rfl, h2, h3, h4⟩ := r.at e
    exact ⟨_, h1, q _ F H (.refl r.fh) (.inr ⟨a, rfl, h2, h4⟩)⟩
  · cases hf
theorem de_v (i : Nat) {x : Str} (hN : X.N[i]? = some x := by rfl) (hv : Vis X.env.scope x := by first | exact Or.inl rfl | exact Or.inr (Or.inl rfl) | exact Or.inr (Or.inr rfl)) (hd : (x == ("__debug__" : Str)) = false := by decide)
    (hcd : (x == ("__classdict__" : Str)) = false := by decide) : DE X .fz (.Name x pos) (tVar i) (vF i) := ⟨pe_var hN hv hd hcd, sem_varF⟩
theorem de_p (i : Nat) {x : Str} (hN : X.N[i]? = some x := by rfl) (hv : Vis X.env.scope x := by first | exact Or.inl rfl | exact Or.inr (Or.inl rfl) | exact Or.inr (Or.inr rfl)) (hd : (x == ("__debug__" : Str)) = false := by decide)
    (hcd : (x == ("__classdict__" : Str)) = false := by decide) : DE X .pk (.Name x pos) (tVar i) (vP i) := ⟨pe_var hN hv hd hcd, sem_varP⟩
theorem sem_c {K : PySem.W.Frag} {v : V} {d : D} (h : ∀ F, Rep K F v d) : SemE K .fz (tC v) (cD d) := fun B F H σ ρ d' Q r hf q => by
  cases hf
  exact q v F H (.refl r.fh) (h F)
theorem de_int {i : Int} {j : Nat} : DE X .fz (.Constant (.int i) j pos) (tC (.int i)) (cD (.int i)) := ⟨pe_int, sem_c fun _ => .int i⟩
theorem de_bl {b : Bool} {j : Nat} : DE X .fz (.Constant (.bool b) j pos) (tC (.bl b)) (cD (.bool b)) := ⟨pe_bl, sem_c fun _ => .bl b⟩
theorem de_non {j : Nat} : DE X .fz (.Constant .none j pos) (tC .non) (cD .none) := ⟨pe_non, sem_c fun _ => .non⟩
theorem de_str {x : Str} {j : Nat} : DE X .fz (.Constant (.str x) j pos) (tC (.str x)) (cD (.str x)) := ⟨pe_str, sem_c fun _ => .str x⟩
theorem de_globI {x : Str} {i : Int} (hg : Gl X x) (hm : ∃ t, X.mg x = some (.int i t)) (hd : (x == ("__debug__" : Str)) = false := by decide) : DE X .fz (.Name x pos) (tC (.int i)) (cD (.int i)) := by
  obtain ⟨t, hm⟩ := hm
  exact ⟨pe_glob hg hm ⟨t, rfl⟩ hd, sem_c fun _ => .int i⟩
theorem de_globS {x : Str} {z : Str} (hg : Gl X x) (hm : ∃ t, X.mg x = some (.str z t)) (hd : (x == ("__debug__" : Str)) = false := by decide) : DE X .fz (.Name x pos) (tC (.str z)) (cD (.str z)) := by
  obtain ⟨t, hm⟩ := hm
  exact ⟨pe_glob hg hm ⟨t, rfl⟩ hd, sem_c fun _ => .str z⟩
end
end Q
end

/-! part: Q2 -/
section
set_option Elab.async false
set_option linter.all false
set_option maxRecDepth 100000
set_option maxHeartbeats 4000000
namespace Q
open PySem PySem.Spec PyProof.Rows L2
/-! ### what a value known by Res gives -/
section
variable {K : PySem.W.Frag} {m : Md} {H0 F H : Hp} {v : V} {d : D}
theorem Res.any (h : Res K m H0 F H v d) : Res K .pk H0 F H v d := by
  cases m with
  | pk => exact h
  | fz => exact fz_pk h
  | fr => exact fr_pk h
/-- as data over the whole heap -/
theorem Res.dp (h : Res K m H0 F H v d) (fh : Same F H) (n : nd d = true) : Dp K H v d := by
  rcases h.any with h | ⟨a, rfl, _, o⟩
  · exact (h.mono fh).dp n
  · cases d with
    | list ds => obtain ⟨vs, e, r⟩ := o; exact .lst (.of e) ((r.mono fh).dp (by rw [nd] at n; exact n))
    | dict es => rw [nd] at n; cases n
    | _ => exact o.elim
theorem Res.list {ds : List D} (h : Res K m H0 F H v (.list ds)) (fh : Same F H) : ∃ a xs, v = .ref a ∧ SqL K H a xs ∧ RepA K F xs ds := by
  rcases h.any with h | ⟨a, rfl, _, o⟩
  · cases h with
    | lst h1 r => exact ⟨_, _, rfl, fh.seq h1, r⟩
  · obtain ⟨vs, e, r⟩ := o
    exact ⟨a, vs, rfl, .of e, r⟩
theorem Res.rep (h : Res K m H0 F H v d) (n : ∀ ds, d ≠ .list ds) (n2 : ∀ es, d ≠ .dict es) : Rep K F v d := by
  rcases h.any with h | ⟨a, rfl, _, o⟩
  · exact h
  · cases d with
    | list ds => exact absurd rfl (n ds)
    | dict ds => exact absurd rfl (n2 ds)
    | _ => exact o.elim
theorem Res.tup {ds : List D} (h : Res K m H0 F H v (.tuple ds)) (fh : Same F H) : ∃ a xs, v = .ref a ∧ TupAt K H a xs ∧ RepA K F xs ds := by
  cases h.rep (fun _ z => nomatch z) (fun _ z => nomatch z) with
  | tup h1 r => exact ⟨_, _, rfl, TupAt.mono fh h1, r⟩
theorem Res.int {i : Int} (h : Res K m H0 F H v (.int i)) : v = .int i := (h.rep (fun _ z => nomatch z) (fun _ z => nomatch z)).int_of
theorem Res.bl {i : Bool} (h : Res K m H0 F H v (.bool i)) : v = .bl i := (h.rep (fun _ z => nomatch z) (fun _ z => nomatch z)).bl_of
theorem Res.str {i : Str} (h : Res K m H0 F H v (.str i)) : v = .str i := (h.rep (fun _ z => nomatch z) (fun _ z => nomatch z)).str_of
theorem Res.non (h : Res K m H0 F H v .none) : v = .non := (h.rep (fun _ z => nomatch z) (fun _ z => nomatch z)).non_of
theorem Res.back {F1 H1 : Hp} (h : Res K m H1 F H v d) (s : Same H0 H1) : Res K m H0 F H v d := by
  cases m with
  | pk => exact h
  | fz => exact h
  | fr =>
    obtain ⟨a, e, h0, r⟩ := h
    exact ⟨a, e, s.free h0, r⟩
end
/-- freezing a new tuple, a new list -/
theorem ext_new {F H F' H' : Hp} (x : Ext F H F' H') {a : Addr} {o : HO} (h : H' a = none) : Ext F H (upd F' a o) (upd H' a o) := by
  have hf : F' a = none := by
    cases q : F' a with
    | none => rfl
    | some u => rw [x.s _ _ q] at h; cases h
  refine ⟨x.f.trans (same_upd hf), x.h.trans (same_upd h), fun c q => ?_, fun b u q => ?_⟩
  · by_cases z : c = a
    · subst z; exact .inr (x.h.free h)
    · rw [upd_ne z] at q; exact x.n c q
  · by_cases z : b = a
    · subst z; rw [upd_same] at q ⊢; exact q
    · rw [upd_ne z] at q ⊢; exact x.s _ _ q
theorem ext_own {F H F' H' : Hp} (x : Ext F H F' H') {a : Addr} {o : HO} (h : H' a = none) : Ext F H F' (upd H' a o) :=
  ⟨x.f, x.h.trans (same_upd h), x.n, x.s.trans (same_upd h)⟩
theorem free_of {F H : Hp} (s : Same F H) {a : Addr} (h : H a = none) : F a = none := s.free h

/-! ### operations by values -/
/-- what a two-place operation gives of data -/
def OpS (K : PySem.W.Frag) (m : Md) (r : R2) (g : D → D → Option D) : Prop :=
  ∀ (F H Ha Hb : Hp) (x y : V) (d e z : D) (Q : VK), Same F H → Res K .pk Ha F H x d → Res K .pk Hb F H y e → g d e = some z → (∀ v F' H', Ext F H F' H' → Res K m H F' H' v z → Q v H') → r x y H Q
def f2 (g : D → D → Option D) (fa fb : Rho → Option D) : Rho → Option D := fun ρ => (fa ρ).bind fun x => (fb ρ).bind fun y => g x y
def f1 (g : D → Option D) (fa : Rho → Option D) : Rho → Option D := fun ρ => (fa ρ).bind g
theorem bind_some {α β : Type} {o : Option α} {g : α → Option β} {z : β} (h : o.bind g = some z) : ∃ x, o = some x ∧ g x = some z := by
  cases o with
  | none => cases h
  | some x => exact ⟨x, rfl, h⟩
theorem sem_op {K : PySem.W.Frag} {m m1 m2 : Md} {ta tb : TE} {r : R2} {g : D → D → Option D} {fa fb : Rho → Option D} (hs : OpS K m r g) (ha : SemE K m1 ta fa) (hb : SemE K m2 tb fb) : SemE K m (tOp r ta tb) (f2 g fa fb) := by
  intro B F H σ ρ z Q rel hf q
  obtain ⟨d, h1, h2⟩ := bind_some hf
  obtain ⟨e, h3, h4⟩ := bind_some h2
  refine ha B F H σ ρ d _ rel h1 fun x F1 H1 x1 r1 => ?_
  refine hb B F1 H1 σ ρ e _ (rel.ext x1) h3 fun y F2 H2 x2 r2 => ?_
  refine hs F2 H2 H H1 x y d e z Q x2.s (r1.mono x2).any r2.any h4 fun v F' H' x3 r3 => ?_
  exact q v F' H' ((x1.trans x2).trans x3) (r3.back (F1 := F1) (x1.h.trans x2.h))
section
variable {X : Cx} {a b c : Expr} {ta tb tc : TE} {pos : Pos} {m m1 m2 m3 : Md} {r : R2} {g : D → D → Option D} {fa fb fc : Rho → Option D}
theorem de_op {op : Operator} (ho : OpR X (binaryOp op) r) (hs : OpS X.K m r g) (ha : DE X m1 a ta fa) (hb : DE X m2 b tb fb) : DE X m (.BinOp a op b pos) (tOp r ta tb) (f2 g fa fb) :=
  ⟨pe_op ho ha.p hb.p, sem_op hs ha.s hb.s⟩
theorem de_cmp {op : CmpOp} (ho : OpR X (compareOp op) r) (hs : OpS X.K m r g) (hm : behindInMarks op b = false) (ha : DE X m1 a ta fa) (hb : DE X m2 b tb fb) : DE X m (.Compare a [op] [b] pos) (tOp r ta tb) (f2 g fa fb) :=
  ⟨pe_cmpR ho ha.p hb.p hm, sem_op hs ha.s hb.s⟩
def boolD : D → Option Bool
  | .bool b => some b
  | _ => none
def fT (f : Rho → Option D) : Rho → Option Bool := fun ρ => (f ρ).bind boolD
theorem boolD_some {d : D} {b : Bool} (h : boolD d = some b) : d = .bool b := by
  cases d with
  | bool c => cases h; rfl
  | _ => cases h
theorem sem_test {K : PySem.W.Frag} {t : TE} {f : Rho → Option D} (h : SemE K m t f) : SemT K (tTest t) (fT f) := by
  intro B F H σ ρ b Q rel hf q
  obtain ⟨d, h1, h2⟩ := bind_some hf
  cases boolD_some h2
  refine h B F H σ ρ _ _ rel h1 fun x F1 H1 x1 r1 => ?_
  exact ⟨b, r1.bl, q F1 H1 x1⟩
theorem dt_cmp {op : CmpOp} (ho : OpR X (compareOp op) r) (hs : OpS X.K .fz r g) (hm : behindInMarks op b = false) (ha : DE X m1 a ta fa) (hb : DE X m2 b tb fb) : DT X (.Compare a [op] [b] pos) (tTest (tOp r ta tb)) (fT (f2 g fa fb)) :=
  ⟨pt_cmpR ho ha.p hb.p hm, sem_test (sem_op hs ha.s hb.s)⟩
/-! ints -/
theorem ops_I0 {K : PySem.W.Frag} {f : Int → Int → V} {g : D → D → Option D} {h : Int → Int → D} (hr : ∀ F i j, Rep K F (f i j) (h i j)) (hg : ∀ d e z, g d e = some z → ∃ i j, d = .int i ∧ e = .int j ∧ z = h i j) : OpS K .fz (rI0 f) g := by
  intro F H Ha Hb x y d e z Q fh r1 r2 hz q
  obtain ⟨i, j, rfl, rfl, rfl⟩ := hg d e z hz
  exact ⟨i, j, r1.int, r2.int, q _ F H (.refl fh) (hr F i j)⟩
theorem ops_I {K : PySem.W.Frag} {C : Int → Int → Prop} {f : Int → Int → V} {g : D → D → Option D} {h : Int → Int → D} (hr : ∀ F i j, Rep K F (f i j) (h i j)) (hg : ∀ d e z, g d e = some z → ∃ i j, d = .int i ∧ e = .int j ∧ C i j ∧ z = h i j) : OpS K .fz (rI C f) g := by
  intro F H Ha Hb x y d e z Q fh r1 r2 hz q
  obtain ⟨i, j, rfl, rfl, hc, rfl⟩ := hg d e z hz
  exact ⟨i, j, r1.int, r2.int, hc, q _ F H (.refl fh) (hr F i j)⟩
theorem OpS.or {K : PySem.W.Frag} {r r' : R2} {g g' : D → D → Option D} (h : OpS K m r g) (h' : OpS K m r' g') : OpS K m (fun x y H Q => r x y H Q ∨ r' x y H Q) (fun d e => (g d e).orElse fun _ => g' d e) := by
  intro F H Ha Hb x y d e z Q fh r1 r2 hz q
  have hz' : ((g d e).orElse fun _ => g' d e) = some z := hz
  cases hg : g d e with
  | some w =>
    rw [hg] at hz'
    cases hz'
    exact .inl (h F H Ha Hb x y d e z Q fh r1 r2 hg q)
  | none =>
    rw [hg] at hz'
    have e1 : g' d e = some z := hz'
    exact .inr (h' F H Ha Hb x y d e z Q fh r1 r2 e1 q)
theorem OpS.imp {K : PySem.W.Frag} {r : R2} {g g' : D → D → Option D} (h : OpS K m r g) (e : ∀ d e z, g' d e = some z → g d e = some z) : OpS K m r g' :=
  fun F H Ha Hb x y d e' z Q fh r1 r2 hz q => h F H Ha Hb x y d e' z Q fh r1 r2 (e _ _ _ hz) q
end
def subD : D → D → Option D
  | .int i, .int j => some (.int (i - j))
  | _, _ => none
/-- one factor below 2 ^ 64 -/
def mulI (i j : Int) : Option D := if (-(2 ^ 64) < i ∧ i < 2 ^ 64) ∨ (-(2 ^ 64) < j ∧ j < 2 ^ 64) then some (.int (i * j)) else none
def mulD : D → D → Option D
  | .int i, .int j => mulI i j
  | _, _ => none
def fdivD : D → D → Option D
  | .int i, .int j => if j ≠ 0 ∧ j.natAbs < 1073741824 then some (.int (i.fdiv j)) else none
  | _, _ => none
def modD : D → D → Option D
  | .int i, .int j => if j ≠ 0 then some (.int (i.fmod j)) else none
  | _, _ => none
def powD : D → D → Option D
  | .int i, .int j => if 0 ≤ j ∧ j ≤ 1000000 ∧ i.natAbs < 2 ^ 64 then some (.int (i ^ j.toNat)) else none
  | _, _ => none
section
variable {K : PySem.W.Frag}
theorem two_ints {g : D → D → Option D} {d e z : D} {h : Int → Int → Option D} (hz : g d e = some z) (hg : g = fun d e => match d, e with
  | .int i, .int j => h i j
  | _, _ => none) : ∃ i j, d = .int i ∧ e = .int j ∧ h i j = some z := by
  subst hg
  cases d with
  | int i =>
    cases e with
    | int j => exact ⟨i, j, rfl, rfl, hz⟩
    | _ => cases hz
  | _ => cases hz
theorem if_some {α : Type} {p : Prop} [Decidable p] {x z : α} (h : (if p then some x else none) = some z) : p ∧ x = z := by
  by_cases hp : p
  · rw [if_pos hp] at h; exact ⟨hp, Option.some.inj h⟩
  · rw [if_neg hp] at h; cases h
theorem ops_sub : OpS K .fz (rI0 fun i j => .int (i - j)) subD := ops_I0 (h := fun i j => .int (i - j)) (fun _ _ _ => .int _) fun d e z hz => by
  obtain ⟨i, j, h1, h2, h3⟩ := two_ints (h := fun i j => some (.int (i - j))) hz (by funext d e; cases d <;> cases e <;> rfl)
  exact ⟨i, j, h1, h2, (Option.some.inj h3).symm⟩
theorem ops_mul : OpS K .fz (rI CMul fun i j => .int (i * j)) mulD := ops_I (h := fun i j => .int (i * j)) (fun _ _ _ => .int _) fun d e z hz => by
  obtain ⟨i, j, h1, h2, h3⟩ := two_ints (h := mulI) hz (by funext d e; cases d <;> cases e <;> rfl)
  obtain ⟨h4, h5⟩ := if_some h3
  exact ⟨i, j, h1, h2, h4, h5.symm⟩
theorem ops_fdiv : OpS K .fz (rI CDivN fun i j => .int (i.fdiv j)) fdivD := ops_I (h := fun i j => .int (i.fdiv j)) (fun _ _ _ => .int _) fun d e z hz => by
  obtain ⟨i, j, h1, h2, h3⟩ := two_ints (h := fun i j => if j ≠ 0 ∧ j.natAbs < 1073741824 then some (.int (i.fdiv j)) else none) hz (by funext d e; cases d <;> cases e <;> rfl)
  obtain ⟨h4, h5⟩ := if_some h3
  exact ⟨i, j, h1, h2, h4, h5.symm⟩
theorem ops_mod : OpS K .fz (rI (fun _ j => j ≠ 0) fun i j => .int (i.fmod j)) modD := ops_I (h := fun i j => .int (i.fmod j)) (fun _ _ _ => .int _) fun d e z hz => by
  obtain ⟨i, j, h1, h2, h3⟩ := two_ints (h := fun i j => if j ≠ 0 then some (.int (i.fmod j)) else none) hz (by funext d e; cases d <;> cases e <;> rfl)
  obtain ⟨h4, h5⟩ := if_some h3
  exact ⟨i, j, h1, h2, h4, h5.symm⟩
theorem ops_pow : OpS K .fz (rI CPow fun i j => .int (i ^ j.toNat)) powD := ops_I (h := fun i j => .int (i ^ j.toNat)) (fun _ _ _ => .int _) fun d e z hz => by
  obtain ⟨i, j, h1, h2, h3⟩ := two_ints (h := fun i j => if 0 ≤ j ∧ j ≤ 1000000 ∧ i.natAbs < 2 ^ 64 then some (.int (i ^ j.toNat)) else none) hz (by funext d e; cases d <;> cases e <;> rfl)
  obtain ⟨h4, h5⟩ := if_some h3
  exact ⟨i, j, h1, h2, h4, h5.symm⟩
end

/-! ### a new tuple whose object is known -/
section
variable {X : Cx} {pins : List (Addr × Obj)} {σ : L2.St} {H : Hp} {s : Shared}
abbrev tupObj (its : Array Value) : Obj := { cls := .type "tuple", data := .seq its }
theorem _root_.L2.Inv.laidT {its : List Value} {xs : List V} {t' : Nat} (I : Inv X pins σ H s) (hv : Vals xs its) (hz : xs.length ≤ sizeLine) :
    Inv X pins σ (upd H s.heap.objs.size (.frz (tupObj its.toArray) (.tup xs))) { s with heap := s.heap.push (tupObj its.toArray), toks := t' } :=
  I.laid (fun _ _ q => Heap.get?_push_of_some _ q) (Nat.le_refl _) ⟨Heap.get?_push_size _ rfl, hz, its, hv, IsTup.new _ _⟩
end
/-- what a rule hands on of a new tuple -/
def NewT (xs : List V) (H : Hp) (Q : VK) : Prop := ∀ (p : Addr) (o : Obj), H p = none → o.cls = .type "tuple" → o.dict = none → Q (.ref p) (upd H p (.frz o (.tup xs)))
theorem newT_rep {K : PySem.W.Frag} {F H F' H' : Hp} {xs : List V} {ds : List D} (x : Ext F H F' H') (r : RepA K F' xs ds) {Q : VK} (q : ∀ v F2 H2, Ext F H F2 H2 → Rep K F2 v (.tuple ds) → Q v H2) : NewT xs H' Q := by
  intro p o hp h1 h2
  have x2 := ext_new (o := .frz o (.tup xs)) x hp
  exact q _ _ _ x2 (.tup (.inl ⟨o, upd_same, h1, h2⟩) (r.mono (same_upd (x.s.free hp))))
def NewL (xs : List V) (H : Hp) (Q : VK) : Prop := ∀ (p : Addr), H p = none → Q (.ref p) (upd H p (.lst xs))
theorem newL_res {K : PySem.W.Frag} {F H F' H' : Hp} {xs : List V} {ds : List D} (x : Ext F H F' H') (r : RepA K F' xs ds) {Q : VK} (q : ∀ v F2 H2, Ext F H F2 H2 → Res K .fr H F2 H2 v (.list ds) → Q v H2) : NewL xs H' Q := by
  intro p hp
  exact q _ _ _ (ext_own (o := .lst xs) x hp) ⟨p, rfl, x.h.free hp, x.s.free hp, xs, upd_same, r⟩
/-! ### + -/
def rCatF (K : PySem.W.Frag) : R2 := fun x y H Q => ∃ a b xs ys, x = .ref a ∧ y = .ref b ∧ SqT K H a xs ∧ SqT K H b ys ∧ xs.length + ys.length ≤ sizeLine ∧
  (xs = [] → Q (.ref b) H) ∧ (xs ≠ [] → ys = [] → Q (.ref a) H) ∧ (xs ≠ [] → ys ≠ [] → NewT (xs ++ ys) H Q)
def rCatL (K : PySem.W.Frag) : R2 := fun x y H Q => ∃ a b xs ys, x = .ref a ∧ y = .ref b ∧ SqL K H a xs ∧ SqL K H b ys ∧ xs.length + ys.length ≤ sizeLine ∧ NewL (xs ++ ys) H Q
section
variable {X : Cx}
theorem op_catF : OpR X (binaryOp .Add) (rCatF X.K) := by
  intro pins s σ H x y v u Q I rx ry h
  obtain ⟨a, b, xs, ys, rfl, rfl, ha, hb, hz, q0, q1, q2⟩ := h
  cases rx
  cases ry
  obtain ⟨its, r1, p1, _⟩ := I.tuple ha
  obtain ⟨its2, r2, p2, _⟩ := I.tuple hb
  by_cases hx : xs = []
  · subst hx
    cases r1
    exact cat_tup0 p1 p2 ⟨.ref b, H, I, rfl, q0 rfl⟩
  · refine HT.cat_tup p1 p2 (fun z => hx (r1.nil_iff.mp z)) (fun z => ⟨.ref a, H, I, rfl, q1 hx (r2.nil_iff.mp z)⟩) (fun z => ?_) (by rw [← r1.length, ← r2.length]; exact hz)
    exact ⟨.ref s.heap.objs.size, _, I.laidT (t' := s.toks) (r1.append r2) (by rw [List.length_append]; exact hz), rfl, q2 hx (fun w => z (r2.nil_iff.mpr w)) _ _ (I.hok.fresh (Nat.le_refl _)) rfl rfl⟩
theorem op_catLL : OpR X (binaryOp .Add) (rCatL X.K) := by
  intro pins s σ H x y v u Q I rx ry h
  obtain ⟨a, b, xs, ys, rfl, rfl, ha, hb, hz, q⟩ := h
  cases rx
  cases ry
  obtain ⟨its, r1, ⟨⟨c1, dd1, dt1, sl1⟩, n1, e1, hc1, hd1, hs1⟩, _⟩ := I.list ha
  obtain ⟨its2, r2, ⟨⟨c2, dd2, dt2, sl2⟩, n2, e2, hc2, hd2, hs2⟩, _⟩ := I.list hb
  simp only at hc1 hd1 hs1 hc2 hd2 hs2
  subst hc1 hd1 hs1 hc2 hd2 hs2
  have hz2 : its.toArray.size + its2.toArray.size ≤ sizeLine := by rw [List.size_toArray, List.size_toArray, ← r1.length, ← r2.length]; exact hz
  refine concat_meets ⟨_, e1, rfl⟩ ⟨_, e2, rfl⟩ noFill_list_add seq_list_add PySem.F.slot_list_add PySem.F.entry_list_add (PySem.F.args_list_add_2 _ _) (list_addW a b its.toArray its2.toArray n1 n2 none none sl1 sl2 hz2) ⟨e1, e2, ?_⟩
  have ea : its.toArray ++ its2.toArray = (its ++ its2).toArray := by simp
  rw [ea]
  exact ⟨.ref s.heap.objs.size, _, I.lnew (t' := s.toks) (r1.append r2) (by rw [List.length_append]; exact hz), rfl, q _ I.fresh⟩
theorem op_catLLK (K' : PySem.W.Frag) (hK : X.K = K' := by rfl) : OpR X (binaryOp .Add) (rCatL K') := by
  subst hK
  exact op_catLL 
end
def addD : D → D → Option D
  | .int i, .int j => some (.int (i + j))
  | .str a, .str b => if a.length + b.length ≤ sizeLine then some (.str (a ++ b)) else none
  | .tuple xs, .tuple ys => if xs.length + ys.length ≤ sizeLine then some (.tuple (xs ++ ys)) else none
  | .list xs, .list ys => if xs.length + ys.length ≤ sizeLine then some (.list (xs ++ ys)) else none
  | _, _ => none
def catLD : D → D → Option D
  | .list xs, .list ys => if xs.length + ys.length ≤ sizeLine then some (.list (xs ++ ys)) else none
  | _, _ => none
def addB : D → D → Option D
  | .int i, .int j => some (.int (i + j))
  | .str a, .str b => if a.length + b.length ≤ sizeLine then some (.str (a ++ b)) else none
  | .tuple xs, .tuple ys => if xs.length + ys.length ≤ sizeLine then some (.tuple (xs ++ ys)) else none
  | _, _ => none
def rAddA (K : PySem.W.Frag) : R2 := fun x y H Q => (rI0 (fun i j => .int (i + j)) x y H Q ∨ (∃ i j, x = .str i ∧ y = .str j ∧ i.length + j.length ≤ sizeLine ∧ Q (.str (i ++ j)) H)) ∨ (rCatF K x y H Q ∨ rCatL K x y H Q)
theorem op_addA {X : Cx} : OpR X (binaryOp .Add) (rAddA X.K) := (op_add.or op_add_str).or (op_catF.or op_catLL)
theorem op_addAK {X : Cx} (K' : PySem.W.Frag) (hK : X.K = K' := by rfl) : OpR X (binaryOp .Add) (rAddA K') := by
  subst hK
  exact op_addA 
theorem ops_catL {K : PySem.W.Frag} : OpS K .fr (rCatL K) catLD := by
  intro F H Ha Hb x y d e z Q fh r1 r2 hz q
  cases d with
  | list xs =>
    cases e with
    | list ys =>
      obtain ⟨hl, rfl⟩ := if_some hz
      obtain ⟨a, vs, rfl, s1, p1⟩ := r1.list fh
      obtain ⟨b, ws, rfl, s2, p2⟩ := r2.list fh
      exact ⟨a, b, vs, ws, rfl, rfl, s1, s2, by rw [p1.length, p2.length]; exact hl, newL_res (.refl fh) (p1.append p2) q⟩
    | _ => cases hz
  | _ => cases hz
theorem ops_addA {K : PySem.W.Frag} : OpS K .fz (rAddA K) addD := by
  intro F H Ha Hb x y d e z Q fh r1 r2 hz q
  cases d with
  | int i =>
    cases e with
    | int j => cases hz; exact .inl (.inl ⟨i, j, r1.int, r2.int, q _ F H (.refl fh) (Rep.int _)⟩)
    | _ => cases hz
  | str i =>
    cases e with
    | str j =>
      obtain ⟨hl, rfl⟩ := if_some hz
      exact .inl (.inr ⟨i, j, r1.str, r2.str, hl, q _ F H (.refl fh) (Rep.str _)⟩)
    | _ => cases hz
  | tuple xs =>
    cases e with
    | tuple ys =>
      obtain ⟨hl, rfl⟩ := if_some hz
      obtain ⟨a, vs, rfl, s1, p1⟩ := r1.tup fh
      obtain ⟨b, ws, rfl, s2, p2⟩ := r2.tup fh
      have t1 := (Res.rep r1 (fun _ z => nomatch z) (fun _ z => nomatch z))
      have t2 := (Res.rep r2 (fun _ z => nomatch z) (fun _ z => nomatch z))
      refine .inr (.inl ⟨a, b, vs, ws, rfl, rfl, s1.sq, s2.sq, by rw [p1.length, p2.length]; exact hl, fun e0 => ?_, fun _ e0 => ?_, fun _ _ => newT_rep (.refl fh) (p1.append p2) q⟩)
      · subst e0; cases p1; exact q _ F H (.refl fh) t2
      · subst e0
        cases p2
        have t1' : Rep K F (.ref a) (.tuple (xs ++ [])) := by rw [List.append_nil]; exact t1
        exact q _ F H (.refl fh) t1'
    | _ => cases hz
  | list xs =>
    cases e with
    | list ys =>
      refine .inr (.inr (ops_catL F H Ha Hb x y _ _ z Q fh r1 r2 hz fun v F' H' x' r' => ?_))
      obtain ⟨F2, x2, r3⟩ := fr_fz x' r'
      -- the new list frozen
      exact (q v F2 H' x2 r3)
    | _ => cases hz
  | _ => cases hz
end Q
end

/-! part: Q3 -/
section
set_option Elab.async false
set_option linter.all false
set_option maxRecDepth 100000
set_option maxHeartbeats 4000000
namespace Q
open PySem PySem.Spec PyProof.Rows L2
/-! ### comparisons of data -/
def eqD (d e : D) : Option D := if SeqAt.shaped d = true ∧ SeqAt.shaped e = true then some (.bool (PyData.eqv d e)) else none
def neD (d e : D) : Option D := if SeqAt.shaped d = true ∧ SeqAt.shaped e = true then some (.bool (!PyData.eqv d e)) else none
theorem ops_eq {K : PySem.W.Frag} : OpS K .fz (rEqD K) eqD := by
  intro F H Ha Hb x y d e z Q fh r1 r2 hz q
  obtain ⟨⟨h1, h2⟩, rfl⟩ := if_some hz
  exact ⟨d, e, r1.dp fh (nd_shaped h1), r2.dp fh (nd_shaped h2), h1, h2, q _ F H (.refl fh) (Rep.bl _)⟩
theorem ops_ne {K : PySem.W.Frag} : OpS K .fz (rNeD K) neD := by
  intro F H Ha Hb x y d e z Q fh r1 r2 hz q
  obtain ⟨⟨h1, h2⟩, rfl⟩ := if_some hz
  exact ⟨d, e, r1.dp fh (nd_shaped h1), r2.dp fh (nd_shaped h2), h1, h2, q _ F H (.refl fh) (Rep.bl _)⟩
/-- may the two be compared by their order -/
def ordOk (d e : D) : Bool := PySem.W.alike d e && (match d with
  | .none => false
  | _ => true) && decide (d.depth ≤ 64) && (nd d && nd e)
def ltD (d e : D) : Option D := if ordOk d e = true then some (.bool (PySem.W.dataLt d e)) else none
def gtD (d e : D) : Option D := if ordOk d e = true then some (.bool (PySem.W.dataLt e d)) else none
def leD (d e : D) : Option D := if ordOk d e = true then some (.bool (!PySem.W.dataLt e d)) else none
def geD (d e : D) : Option D := if ordOk d e = true then some (.bool (!PySem.W.dataLt d e)) else none
theorem ordOk_of {d e : D} (h : ordOk d e = true) : PySem.W.alike d e = true ∧ d ≠ .none ∧ d.depth ≤ 64 := by
  unfold ordOk at h
  simp only [Bool.and_eq_true, decide_eq_true_eq] at h
  obtain ⟨⟨⟨h1, h2⟩, h3⟩, _⟩ := h
  refine ⟨h1, fun z => ?_, h3⟩
  subst z
  cases h2
theorem ordOk_nd {d e : D} (h : ordOk d e = true) : nd d = true ∧ nd e = true := by
  unfold ordOk at h
  simp only [Bool.and_eq_true] at h
  exact h.2
def rOrd (K : PySem.W.Frag) (k : D → D → Bool) : R2 := fun x y H Q => ∃ d e, Dp K H x d ∧ Dp K H y e ∧ ordOk d e = true ∧ Q (.bl (k d e)) H
section
variable {X : Cx}
theorem min_depth {A : Around} {d e : D} (h : d.depth ≤ 64) (hu : A.units + 64 < cLine) : A.units + min d.depth e.depth < cLine := by
  have : min d.depth e.depth ≤ d.depth := Nat.min_le_left _ _
  omega
theorem op_lt_ (hu : X.A.units + 64 < cLine) : OpR X (compareOp .Lt) (rOrd X.K fun d e => PySem.W.dataLt d e) := by
  intro pins s σ H x y v u Q I rx ry h
  obtain ⟨d, e, hd, he, ok, q⟩ := h
  obtain ⟨as, r1⟩ := Dp.reads I d x v hd rx
  obtain ⟨bs, r2⟩ := Dp.reads I e y u he ry
  obtain ⟨h1, h2, h3⟩ := ordOk_of ok
  exact PySem.W.lt_data r1 r2 h1 h2 (min_depth h3 hu) ⟨.bl _, H, I, rfl, q⟩
theorem op_lt_K (K' : PySem.W.Frag) (hu : X.A.units + 64 < cLine) (hK : X.K = K' := by rfl) : OpR X (compareOp .Lt) (rOrd K' fun d e => PySem.W.dataLt d e) := by
  subst hK
  exact op_lt_ (hu := hu)
theorem op_gt_ (hu : X.A.units + 64 < cLine) : OpR X (compareOp .Gt) (rOrd X.K fun d e => PySem.W.dataLt e d) := by
  intro pins s σ H x y v u Q I rx ry h
  obtain ⟨d, e, hd, he, ok, q⟩ := h
  obtain ⟨as, r1⟩ := Dp.reads I d x v hd rx
  obtain ⟨bs, r2⟩ := Dp.reads I e y u he ry
  obtain ⟨h1, h2, h3⟩ := ordOk_of ok
  exact PySem.W.gt_data r1 r2 h1 h2 (min_depth h3 hu) ⟨.bl _, H, I, rfl, q⟩
theorem op_gt_K (K' : PySem.W.Frag) (hu : X.A.units + 64 < cLine) (hK : X.K = K' := by rfl) : OpR X (compareOp .Gt) (rOrd K' fun d e => PySem.W.dataLt e d) := by
  subst hK
  exact op_gt_ (hu := hu)
theorem op_le_ (hu : X.A.units + 64 < cLine) : OpR X (compareOp .LtE) (rOrd X.K fun d e => !PySem.W.dataLt e d) := by
  intro pins s σ H x y v u Q I rx ry h
  obtain ⟨d, e, hd, he, ok, q⟩ := h
  obtain ⟨as, r1⟩ := Dp.reads I d x v hd rx
  obtain ⟨bs, r2⟩ := Dp.reads I e y u he ry
  obtain ⟨h1, h2, h3⟩ := ordOk_of ok
  exact PySem.W.le_data r1 r2 h1 h2 (min_depth h3 hu) ⟨.bl _, H, I, rfl, q⟩
theorem op_le_K (K' : PySem.W.Frag) (hu : X.A.units + 64 < cLine) (hK : X.K = K' := by rfl) : OpR X (compareOp .LtE) (rOrd K' fun d e => !PySem.W.dataLt e d) := by
  subst hK
  exact op_le_ (hu := hu)
theorem op_ge_ (hu : X.A.units + 64 < cLine) : OpR X (compareOp .GtE) (rOrd X.K fun d e => !PySem.W.dataLt d e) := by
  intro pins s σ H x y v u Q I rx ry h
  obtain ⟨d, e, hd, he, ok, q⟩ := h
  obtain ⟨as, r1⟩ := Dp.reads I d x v hd rx
  obtain ⟨bs, r2⟩ := Dp.reads I e y u he ry
  obtain ⟨h1, h2, h3⟩ := ordOk_of ok
  exact PySem.W.ge_data r1 r2 h1 h2 (min_depth h3 hu) ⟨.bl _, H, I, rfl, q⟩
theorem op_ge_K (K' : PySem.W.Frag) (hu : X.A.units + 64 < cLine) (hK : X.K = K' := by rfl) : OpR X (compareOp .GtE) (rOrd K' fun d e => !PySem.W.dataLt d e) := by
  subst hK
  exact op_ge_ (hu := hu)
end
theorem ops_ord {K : PySem.W.Frag} {k : D → D → Bool} : OpS K .fz (rOrd K k) (fun d e => if ordOk d e = true then some (.bool (k d e)) else none) := by
  intro F H Ha Hb x y d e z Q fh r1 r2 hz q
  obtain ⟨h1, rfl⟩ := if_some hz
  exact ⟨d, e, r1.dp fh (ordOk_nd h1).1, r2.dp fh (ordOk_nd h1).2, h1, q _ F H (.refl fh) (Rep.bl _)⟩
theorem ops_lt {K : PySem.W.Frag} : OpS K .fz (rOrd K fun d e => PySem.W.dataLt d e) ltD := ops_ord
theorem ops_gt {K : PySem.W.Frag} : OpS K .fz (rOrd K fun d e => PySem.W.dataLt e d) gtD := ops_ord
theorem ops_le {K : PySem.W.Frag} : OpS K .fz (rOrd K fun d e => !PySem.W.dataLt e d) leD := ops_ord
theorem ops_ge {K : PySem.W.Frag} : OpS K .fz (rOrd K fun d e => !PySem.W.dataLt d e) geD := ops_ord
/-! ### is -/
def isNoneD (d : D) : Bool := match d with
  | .none => true
  | _ => false
def rIsN : R2 := fun x y H Q => y = .non ∧ Q (.bl (decide (x = .non))) H
def rNotN : R2 := fun x y H Q => y = .non ∧ Q (.bl (!decide (x = .non))) H
def isND (d e : D) : Option D := match e with
  | .none => some (.bool (isNoneD d))
  | _ => none
def notND (d e : D) : Option D := match e with
  | .none => some (.bool (!isNoneD d))
  | _ => none
theorem res_none_iff {K : PySem.W.Frag} {H0 F H : Hp} {x : V} {d : D} (h : Res K .pk H0 F H x d) : decide (x = .non) = isNoneD d := by
  rcases h with h | ⟨a, rfl, _, o⟩
  · cases h <;> simp [isNoneD]
  · cases d with
    | list ds => simp [isNoneD]
    | dict ds => simp [isNoneD]
    | _ => exact o.elim
theorem ops_isN {K : PySem.W.Frag} : OpS K .fz rIsN isND := by
  intro F H Ha Hb x y d e z Q fh r1 r2 hz q
  cases e with
  | none =>
    cases hz
    refine ⟨r2.non, ?_⟩
    rw [res_none_iff r1]
    exact q _ F H (.refl fh) (Rep.bl _)
  | _ => cases hz
theorem ops_notN {K : PySem.W.Frag} : OpS K .fz rNotN notND := by
  intro F H Ha Hb x y d e z Q fh r1 r2 hz q
  cases e with
  | none =>
    cases hz
    refine ⟨r2.non, ?_⟩
    rw [res_none_iff r1]
    exact q _ F H (.refl fh) (Rep.bl _)
  | _ => cases hz
def isBD (d e : D) : Option D := match d, e with
  | .bool a, .bool b => some (.bool (decide (a = b)))
  | _, _ => none
def notBD (d e : D) : Option D := match d, e with
  | .bool a, .bool b => some (.bool (!decide (a = b)))
  | _, _ => none
theorem ops_isB {K : PySem.W.Frag} : OpS K .fz rIsB isBD := by
  intro F H Ha Hb x y d e z Q fh r1 r2 hz q
  cases d with
  | bool a =>
    cases e with
    | bool b => cases hz; exact ⟨a, b, r1.bl, r2.bl, q _ F H (.refl fh) (Rep.bl _)⟩
    | _ => cases hz
  | _ => cases hz
theorem ops_notB {K : PySem.W.Frag} : OpS K .fz rNotB notBD := by
  intro F H Ha Hb x y d e z Q fh r1 r2 hz q
  cases d with
  | bool a =>
    cases e with
    | bool b => cases hz; exact ⟨a, b, r1.bl, r2.bl, q _ F H (.refl fh) (Rep.bl _)⟩
    | _ => cases hz
  | _ => cases hz
/-! ### in -/
def memD (d : D) (ds : List D) : Bool := ds.any fun z => PyData.eqv z d
def itemsD : D → Option (List D)
  | .list ds => some ds
  | .tuple ds => some ds
  | _ => none
def inD (d e : D) : Option D := (itemsD e).bind fun ds => if SeqAt.shaped d = true ∧ SeqAt.shaped e = true then some (.bool (memD d ds)) else none
def notInD (d e : D) : Option D := (itemsD e).bind fun ds => if SeqAt.shaped d = true ∧ SeqAt.shaped e = true then some (.bool (!memD d ds)) else none
def rIn_ (K : PySem.W.Frag) (k : Bool → Bool) : R2 := fun x y H Q => ∃ d e ds, Dp K H x d ∧ Dp K H y e ∧ itemsD e = some ds ∧ SeqAt.shaped d = true ∧ SeqAt.shaped e = true ∧ Q (.bl (k (memD d ds))) H
section
variable {X : Cx}
theorem room_in {A : Around} {d : D} {ds : List D} (sd : SeqAt.shaped d = true) (hu : A.units + 65 < cLine) : A.units + 1 + min (PyData.depthAll ds) d.depth < cLine := by
  have h1 := SeqAt.depth_of_shaped sd
  have h2 : min (PyData.depthAll ds) d.depth ≤ d.depth := Nat.min_le_right _ _
  omega
theorem op_in_ (hu : X.A.units + 65 < cLine) : OpR X (compareOp .In) (rIn_ X.K id) := by
  intro pins s σ H x y v u Q I rx ry h
  obtain ⟨d, e, ds, hd, he, hi, sd, se, q⟩ := h
  obtain ⟨as, r1⟩ := Dp.reads I d x v hd rx
  obtain ⟨bs, r2⟩ := Dp.reads I e y u he ry
  cases e with
  | list es => cases hi; exact SeqAt.in_list_reads r2 r1 (SeqAt.canLay_of_shaped se) (SeqAt.canLay_of_shaped sd) (room_in sd hu) ⟨.bl _, H, I, rfl, q⟩
  | tuple es => cases hi; exact SeqAt.in_tuple_reads r2 r1 (SeqAt.canLay_of_shaped se) (SeqAt.canLay_of_shaped sd) (room_in sd hu) ⟨.bl _, H, I, rfl, q⟩
  | _ => cases hi
theorem op_in_K (K' : PySem.W.Frag) (hu : X.A.units + 65 < cLine) (hK : X.K = K' := by rfl) : OpR X (compareOp .In) (rIn_ K' id) := by
  subst hK
  exact op_in_ (hu := hu)
theorem op_notIn_ (hu : X.A.units + 65 < cLine) : OpR X (compareOp .NotIn) (rIn_ X.K not) := by
  intro pins s σ H x y v u Q I rx ry h
  obtain ⟨d, e, ds, hd, he, hi, sd, se, q⟩ := h
  obtain ⟨as, r1⟩ := Dp.reads I d x v hd rx
  obtain ⟨bs, r2⟩ := Dp.reads I e y u he ry
  cases e with
  | list es => cases hi; exact SeqAt.notIn_list_reads r2 r1 (SeqAt.canLay_of_shaped se) (SeqAt.canLay_of_shaped sd) (room_in sd hu) ⟨.bl _, H, I, rfl, q⟩
  | tuple es => cases hi; exact SeqAt.notIn_tuple_reads r2 r1 (SeqAt.canLay_of_shaped se) (SeqAt.canLay_of_shaped sd) (room_in sd hu) ⟨.bl _, H, I, rfl, q⟩
  | _ => cases hi
theorem op_notIn_K (K' : PySem.W.Frag) (hu : X.A.units + 65 < cLine) (hK : X.K = K' := by rfl) : OpR X (compareOp .NotIn) (rIn_ K' not) := by
  subst hK
  exact op_notIn_ (hu := hu)
end
theorem ops_in_ {K : PySem.W.Frag} {k : Bool → Bool} : OpS K .fz (rIn_ K k) (fun d e => (itemsD e).bind fun ds => if SeqAt.shaped d = true ∧ SeqAt.shaped e = true then some (.bool (k (memD d ds))) else none) := by
  intro F H Ha Hb x y d e z Q fh r1 r2 hz q
  obtain ⟨ds, h0, hz⟩ := bind_some hz
  obtain ⟨⟨h1, h2⟩, rfl⟩ := if_some hz
  exact ⟨d, e, ds, r1.dp fh (nd_shaped h1), r2.dp fh (nd_shaped h2), h0, h1, h2, q _ F H (.refl fh) (Rep.bl _)⟩
theorem ops_in {K : PySem.W.Frag} : OpS K .fz (rIn_ K id) inD := ops_in_
theorem ops_notIn {K : PySem.W.Frag} : OpS K .fz (rIn_ K not) notInD := ops_in_
/-! ### xs[i] -/
def ixD : D → D → Option D
  | .list ds, .int i => atI ds i
  | .tuple ds, .int i => atI ds i
  | .str z, .int i => if z.length ≤ sizeLine then (atI z.cps.toList i).map fun c => .str ⟨#[c]⟩ else none
  | _, _ => none
theorem repA_atI {K : PySem.W.Frag} {F : Hp} {vs : List V} {ds : List D} {i : Int} {d : D} (r : RepA K F vs ds) (h : atI ds i = some d) : ∃ v, atI vs i = some v ∧ Rep K F v d := by
  unfold atI at h ⊢
  rw [r.length]
  obtain ⟨j, h1, h2⟩ := bind_some h
  rw [h1]
  obtain ⟨v, h3, h4⟩ := r.get h2
  exact ⟨v, h3, h4⟩
theorem ops_ix {K : PySem.W.Frag} : OpS K .fz (rIx K) ixD := by
  intro F H Ha Hb x y d e z Q fh r1 r2 hz q
  cases e with
  | int i =>
    cases d with
    | list ds =>
      obtain ⟨a, xs, rfl, s1, p1⟩ := r1.list fh
      obtain ⟨v, h1, h2⟩ := repA_atI p1 hz
      exact .inl ⟨a, xs, i, v, rfl, r2.int, s1, h1, q _ F H (.refl fh) h2⟩
    | tuple ds =>
      obtain ⟨a, xs, rfl, s1, p1⟩ := r1.tup fh
      obtain ⟨v, h1, h2⟩ := repA_atI p1 hz
      exact .inr (.inl ⟨a, xs, i, v, rfl, r2.int, s1.sq, h1, q _ F H (.refl fh) h2⟩)
    | str s =>
      by_cases hl : s.length ≤ sizeLine
      · have hz' : (if s.length ≤ sizeLine then (atI s.cps.toList i).map fun c => PyData.str ⟨#[c]⟩ else none) = some z := hz
        rw [if_pos hl] at hz'
        obtain ⟨c, h1, h2⟩ := Option.map_eq_some_iff.mp hz'
        subst h2
        exact .inr (.inr ⟨s, i, c, r1.str, r2.int, hl, h1, q _ F H (.refl fh) (Rep.str _)⟩)
      · have hz' : (if s.length ≤ sizeLine then (atI s.cps.toList i).map fun c => PyData.str ⟨#[c]⟩ else none) = some z := hz
        rw [if_neg hl] at hz'
        cases hz'
    | _ => cases hz
  | _ => cases d <;> cases hz
section
variable {X : Cx} {a b c : Expr} {ta tb tc : TE} {pos : Pos} {m m1 m2 m3 : Md} {r r' : R2} {g g' : D → D → Option D} {fa fb fc : Rho → Option D}
theorem de_ix (ha : DE X m1 a ta fa) (hb : DE X m2 b tb fb) (hs : PlainIx b := by exact fun _ _ => rfl) : DE X .fz (.Subscript a b pos) (tOp (rIx X.K) ta tb) (f2 ixD fa fb) :=
  ⟨pe_ix ix_seq ha.p hb.p hs, sem_op ops_ix ha.s hb.s⟩
theorem de_ixK (K' : PySem.W.Frag) (ha : DE X m1 a ta fa) (hb : DE X m2 b tb fb) (hs : PlainIx b := by exact fun _ _ => rfl) (hK : X.K = K' := by rfl) : DE X .fz (.Subscript a b pos) (tOp (rIx K') ta tb) (f2 ixD fa fb) := by
  subst hK
  exact de_ix (ha := ha) (hb := hb) (hs := hs)
/-! ### a op b op' c -/
def f3 (g g' : D → D → Option D) (fa fb fc : Rho → Option D) : Rho → Option D := fun ρ => (fa ρ).bind fun x => (fb ρ).bind fun y => (g x y).bind fun z => match z with
  | .bool true => (fc ρ).bind fun w => g' y w
  | .bool false => some (.bool false)
  | _ => none
theorem sem_chain {K : PySem.W.Frag} (hs : OpS K .fz r g) (hs' : OpS K .fz r' g') (ha : SemE K m1 ta fa) (hb : SemE K m2 tb fb) (hc : SemE K m3 tc fc) : SemE K .fz (tChain r r' ta tb tc) (f3 g g' fa fb fc) := by
  intro B F H σ ρ z Q rel hf q
  obtain ⟨d, h1, h2⟩ := bind_some hf
  obtain ⟨e, h3, h4⟩ := bind_some h2
  obtain ⟨k, h5, h6⟩ := bind_some h4
  refine ha B F H σ ρ d _ rel h1 fun x F1 H1 x1 r1 => ?_
  refine hb B F1 H1 σ ρ e _ (rel.ext x1) h3 fun y F2 H2 x2 r2 => ?_
  refine hs F2 H2 H H1 x y d e k _ x2.s (r1.mono x2).any r2.any h5 fun v F3 H3 x3 r3 => ?_
  have x03 := (x1.trans x2).trans x3
  cases k with
  | bool k =>
    refine ⟨k, Res.bl (m := .fz) (H0 := H) (H := H3) r3, ?_⟩
    cases k with
    | true =>
      obtain ⟨w, h7, h8⟩ := bind_some (show ((fc ρ).bind fun w => g' e w) = some z from h6)
      show tc σ H3 _
      refine hc B F3 H3 σ ρ w _ (rel.ext x03) h7 fun u F4 H4 x4 r4 => ?_
      exact hs' F4 H4 H1 H3 y u e w z _ x4.s ((r2.mono x3).mono x4).any r4.any h8 fun v5 F5 H5 x5 r5 => q v5 F5 H5 ((x03.trans x4).trans x5) r5
    | false =>
      have e1 : z = .bool false := (Option.some.inj (show some (PyData.bool false) = some z from h6)).symm
      subst e1
      show Q (.bl false) H3
      exact q _ F3 H3 x03 (Rep.bl false)
  | _ => exact nomatch (show (none : Option D) = some z from h6)
theorem de_chain {op op' : CmpOp} (ho : OpR X (compareOp op) r) (ho' : OpR X (compareOp op') r') (hs : OpS X.K .fz r g) (hs' : OpS X.K .fz r' g') (ha : DE X m1 a ta fa) (hb : DE X m2 b tb fb) (hc : DE X m3 c tc fc)
    (hm : lastMarks [op, op'] [b, c] = false := by with_unfolding_all rfl) : DE X .fz (.Compare a [op, op'] [b, c] pos) (tChain r r' ta tb tc) (f3 g g' fa fb fc) :=
  ⟨pe_chain ho ho' ha.p hb.p hc.p hm, sem_chain hs hs' ha.s hb.s hc.s⟩
theorem dt_chain {op op' : CmpOp} (ho : OpR X (compareOp op) r) (ho' : OpR X (compareOp op') r') (hs : OpS X.K .fz r g) (hs' : OpS X.K .fz r' g') (ha : DE X m1 a ta fa) (hb : DE X m2 b tb fb) (hc : DE X m3 c tc fc)
    (hm : lastMarks [op, op'] [b, c] = false := by with_unfolding_all rfl) : DT X (.Compare a [op, op'] [b, c] pos) (tTest (tChain r r' ta tb tc)) (fT (f3 g g' fa fb fc)) :=
  ⟨pt_chain ho ho' ha.p hb.p hc.p hm, sem_test (sem_chain hs hs' ha.s hb.s hc.s)⟩
/-! ### truth, and, or, not, if -/
def truD : D → Option Bool
  | .none => some false
  | .bool b => some b
  | .int i => some (i != 0)
  | .str z => if z.length ≤ sizeLine then some ((z.length : Int) != 0) else none
  | .list ds => some (!ds.isEmpty)
  | .tuple ds => some (!ds.isEmpty)
  | .dict _ => none
theorem isEmpty_len {α β : Type} {xs : List α} {ys : List β} (h : xs.length = ys.length) : xs.isEmpty = ys.isEmpty := by
  cases xs <;> cases ys <;> first | rfl | (simp at h)
theorem truV_of {K : PySem.W.Frag} {H0 F H : Hp} {x : V} {d : D} {b : Bool} (r : Res K m H0 F H x d) (fh : Same F H) (h : truD d = some b) : TruV K x H b := by
  cases d with
  | none => rw [r.non]; cases h; rfl
  | bool k => rw [r.bl]; cases h; rfl
  | int i => rw [r.int]; cases h; rfl
  | str z =>
    rw [r.str]
    obtain ⟨h1, h2⟩ := if_some h
    exact ⟨h1, h2.symm⟩
  | list ds =>
    obtain ⟨a, xs, rfl, s1, p1⟩ := r.list fh
    cases h
    exact .inl ⟨xs, s1, by rw [isEmpty_len p1.length]⟩
  | tuple ds =>
    obtain ⟨a, xs, rfl, s1, p1⟩ := r.tup fh
    cases h
    exact .inr (.inl ⟨xs, s1.sq, by rw [isEmpty_len p1.length]⟩)
  | dict _ => cases h
def fTr (f : Rho → Option D) : Rho → Option Bool := fun ρ => (f ρ).bind truD
theorem dt_tru (ha : DE X m a ta fa) (he : ∀ whole, isTrue a X.env whole = (do let v ← whole; standAt a.pos; holding [v] (truthy v)) := by intro _; rfl) : DT X a (fun σ H Q => ta σ H fun x H' => ∃ k, TruV X.K x H' k ∧ Q k H') (fTr fa) :=
  ⟨pt_truth ha.p he, fun B F H σ ρ b Q rel hf q => by
    obtain ⟨d, h1, h2⟩ := bind_some hf
    exact ha.s B F H σ ρ d _ rel h1 fun x F1 H1 x1 r1 => ⟨b, truV_of r1 x1.s h2, q F1 H1 x1⟩⟩
theorem dt_truK (K' : PySem.W.Frag) (ha : DE X m a ta fa) (he : ∀ whole, isTrue a X.env whole = (do let v ← whole; standAt a.pos; holding [v] (truthy v)) := by intro _; rfl) (hK : X.K = K' := by rfl) : DT X a (fun σ H Q => ta σ H fun x H' => ∃ k, TruV K' x H' k ∧ Q k H') (fTr fa) := by
  subst hK
  exact dt_tru (ha := ha) (he := he)
def fNotT (f : Rho → Option Bool) : Rho → Option Bool := fun ρ => (f ρ).map not
def fAndT (f g : Rho → Option Bool) : Rho → Option Bool := fun ρ => (f ρ).bind fun b => if b = true then g ρ else some false
def fOrT (f g : Rho → Option Bool) : Rho → Option Bool := fun ρ => (f ρ).bind fun b => if b = true then some true else g ρ
variable {tt tu : TT} {ft fu : Rho → Option Bool} {rest : List Expr}
theorem dt_not (ha : DT X a tt ft) : DT X (.UnaryOp .Not a pos) (tNot tt) (fNotT ft) := ⟨pt_not ha.p, fun B F H σ ρ b Q rel hf q => by
  obtain ⟨c, h1, rfl⟩ := Option.map_eq_some_iff.mp hf
  exact ha.s B F H σ ρ c _ rel h1 fun F1 H1 x1 => q F1 H1 x1⟩
/-- a row of and, of or -/
structure DW (X : Cx) (e : Expr) (t : TT) (f : Rho → Option Bool) : Prop where
  p : PW X e t
  s : SemT X.K t f
theorem dw_and1 (ha : DT X a tt ft) : DW X (.BoolOp .And [a] pos) tt ft := ⟨pw_and1 ha.p, ha.s⟩
theorem dw_or1 (ha : DT X a tt ft) : DW X (.BoolOp .Or [a] pos) tt ft := ⟨pw_or1 ha.p, ha.s⟩
theorem sem_and {K : PySem.W.Frag} (ha : SemT K tt ft) (hb : SemT K tu fu) : SemT K (tAnd tt tu) (fAndT ft fu) := by
  intro B F H σ ρ b Q rel hf q
  obtain ⟨c, h1, h2⟩ := bind_some hf
  refine ha B F H σ ρ c _ rel h1 fun F1 H1 x1 => ?_
  cases c with
  | true => exact hb B F1 H1 σ ρ b _ (rel.ext x1) h2 fun F2 H2 x2 => q F2 H2 (x1.trans x2)
  | false =>
    cases (show some false = some b from h2)
    exact q F1 H1 x1
theorem sem_or {K : PySem.W.Frag} (ha : SemT K tt ft) (hb : SemT K tu fu) : SemT K (tOr tt tu) (fOrT ft fu) := by
  intro B F H σ ρ b Q rel hf q
  obtain ⟨c, h1, h2⟩ := bind_some hf
  refine ha B F H σ ρ c _ rel h1 fun F1 H1 x1 => ?_
  cases c with
  | false => exact hb B F1 H1 σ ρ b _ (rel.ext x1) h2 fun F2 H2 x2 => q F2 H2 (x1.trans x2)
  | true =>
    cases (show some true = some b from h2)
    exact q F1 H1 x1
theorem dw_and (ha : DT X a tt ft) (hb : DW X (.BoolOp .And (b :: rest) pos) tu fu) : DW X (.BoolOp .And (a :: b :: rest) pos) (tAnd tt tu) (fAndT ft fu) := ⟨pw_and ha.p hb.p, sem_and ha.s hb.s⟩
theorem dw_or (ha : DT X a tt ft) (hb : DW X (.BoolOp .Or (b :: rest) pos) tu fu) : DW X (.BoolOp .Or (a :: b :: rest) pos) (tOr tt tu) (fOrT ft fu) := ⟨pw_or ha.p hb.p, sem_or ha.s hb.s⟩
theorem dt_w {e : Expr} (h : DW X e tt ft) : DT X e tt ft := ⟨h.p.pt, h.s⟩
/-- .. as values -/
def fNot (f : Rho → Option D) : Rho → Option D := fun ρ => ((f ρ).bind truD).map fun b => .bool (!b)
def fAnd (f g : Rho → Option D) : Rho → Option D := fun ρ => (f ρ).bind fun d => (truD d).bind fun b => if b = true then g ρ else some d
def fOr (f g : Rho → Option D) : Rho → Option D := fun ρ => (f ρ).bind fun d => (truD d).bind fun b => if b = true then some d else g ρ
theorem de_not (ha : DE X m a ta fa) : DE X .fz (.UnaryOp .Not a pos) (tNotT X.K ta) (fNot fa) := ⟨pe_notT ha.p, fun B F H σ ρ d Q rel hf q => by
  obtain ⟨c, h1, rfl⟩ := Option.map_eq_some_iff.mp hf
  obtain ⟨d, h2, h3⟩ := bind_some h1
  exact ha.s B F H σ ρ d _ rel h2 fun x F1 H1 x1 r1 => ⟨c, truV_of r1 x1.s h3, q _ F1 H1 x1 (Rep.bl _)⟩⟩
theorem de_notK (K' : PySem.W.Frag) (ha : DE X m a ta fa) (hK : X.K = K' := by rfl) : DE X .fz (.UnaryOp .Not a pos) (tNotT K' ta) (fNot fa) := by
  subst hK
  exact de_not (ha := ha)
theorem de_one {op} (h : DE X m a ta fa) : DE X m (.BoolOp op [a] pos) ta fa := ⟨pe_one h.p, h.s⟩
theorem de_and (ha : DE X .fz a ta fa) (hb : DE X .fz (.BoolOp .And (b :: rest) pos) tb fb) : DE X .fz (.BoolOp .And (a :: b :: rest) pos) (tAndT X.K ta tb) (fAnd fa fb) := ⟨pe_andT ha.p hb.p, fun B F H σ ρ d Q rel hf q => by
  obtain ⟨d1, h1, h2⟩ := bind_some hf
  obtain ⟨c, h3, h4⟩ := bind_some h2
  refine ha.s B F H σ ρ d1 _ rel h1 fun x F1 H1 x1 r1 => ⟨c, truV_of (m := .fz) (H0 := H) r1 x1.s h3, ?_⟩
  cases c with
  | true => exact hb.s B F1 H1 σ ρ d _ (rel.ext x1) h4 fun v F2 H2 x2 r2 => q v F2 H2 (x1.trans x2) r2
  | false =>
    cases (show some d1 = some d from h4)
    exact q x F1 H1 x1 r1⟩
theorem de_andK (K' : PySem.W.Frag) (ha : DE X .fz a ta fa) (hb : DE X .fz (.BoolOp .And (b :: rest) pos) tb fb) (hK : X.K = K' := by rfl) : DE X .fz (.BoolOp .And (a :: b :: rest) pos) (tAndT K' ta tb) (fAnd fa fb) := by
  subst hK
  exact de_and (ha := ha) (hb := hb)
theorem de_or (ha : DE X .fz a ta fa) (hb : DE X .fz (.BoolOp .Or (b :: rest) pos) tb fb) : DE X .fz (.BoolOp .Or (a :: b :: rest) pos) (tOrT X.K ta tb) (fOr fa fb) := ⟨pe_orT ha.p hb.p, fun B F H σ ρ d Q rel hf q => by
  obtain ⟨d1, h1, h2⟩ := bind_some hf
  obtain ⟨c, h3, h4⟩ := bind_some h2
  refine ha.s B F H σ ρ d1 _ rel h1 fun x F1 H1 x1 r1 => ⟨c, truV_of (m := .fz) (H0 := H) r1 x1.s h3, ?_⟩
  cases c with
  | false => exact hb.s B F1 H1 σ ρ d _ (rel.ext x1) h4 fun v F2 H2 x2 r2 => q v F2 H2 (x1.trans x2) r2
  | true =>
    cases (show some d1 = some d from h4)
    exact q x F1 H1 x1 r1⟩
theorem de_orK (K' : PySem.W.Frag) (ha : DE X .fz a ta fa) (hb : DE X .fz (.BoolOp .Or (b :: rest) pos) tb fb) (hK : X.K = K' := by rfl) : DE X .fz (.BoolOp .Or (a :: b :: rest) pos) (tOrT K' ta tb) (fOr fa fb) := by
  subst hK
  exact de_or (ha := ha) (hb := hb)
def fIf (c : Rho → Option Bool) (f g : Rho → Option D) : Rho → Option D := fun ρ => (c ρ).bind fun b => if b = true then f ρ else g ρ
theorem de_if (hc : DT X c tt ft) (ha : DE X m a ta fa) (hb : DE X m b tb fb) : DE X m (.IfExp c a b pos) (tIf tt ta tb) (fIf ft fa fb) := ⟨pe_ifExp hc.p ha.p hb.p, fun B F H σ ρ d Q rel hf q => by
  obtain ⟨k, h1, h2⟩ := bind_some hf
  refine hc.s B F H σ ρ k _ rel h1 fun F1 H1 x1 => ?_
  cases k with
  | true => exact ha.s B F1 H1 σ ρ d _ (rel.ext x1) h2 fun v F2 H2 x2 r2 => q v F2 H2 (x1.trans x2) (r2.back (F1 := F1) x1.h)
  | false => exact hb.s B F1 H1 σ ρ d _ (rel.ext x1) h2 fun v F2 H2 x2 r2 => q v F2 H2 (x1.trans x2) (r2.back (F1 := F1) x1.h)⟩
/-! ### -a -/
def negD : D → Option D
  | .int i => some (.int (-i))
  | _ => none
theorem de_neg (ha : DE X m a ta fa) : DE X .fz (.UnaryOp .USub a pos) (tUn (rU fun i => .int (-i)) ta) (f1 negD fa) := ⟨pe_un un_neg ha.p, fun B F H σ ρ d Q rel hf q => by
  obtain ⟨d1, h1, h2⟩ := bind_some hf
  refine ha.s B F H σ ρ d1 _ rel h1 fun x F1 H1 x1 r1 => ?_
  cases d1 with
  | int i => cases h2; exact ⟨i, r1.int, q _ F1 H1 x1 (Rep.int _)⟩
  | _ => cases h2⟩
/-! ### rows of arguments, displays -/
variable {e : Expr} {es : List Expr} {te : TE} {t : TA} {f : Rho → Option D} {fs : Rho → Option (List D)}
def aNil : Rho → Option (List D) := fun _ => some []
def aCons (f : Rho → Option D) (fs : Rho → Option (List D)) : Rho → Option (List D) := fun ρ => (f ρ).bind fun d => (fs ρ).bind fun ds => some (d :: ds)
theorem ResA.back {K : PySem.W.Frag} {H0 H1 F H : Hp} (s : Same H0 H1) : ∀ {vs : List V} {ds : List D}, ResA K m H1 F H vs ds → ResA K m H0 F H vs ds
  | _, _, .nil => .nil
  | _, _, .cons h r => .cons (h.back (F1 := F) s) (ResA.back s r)
theorem da_nil : DA X m [] tNil aNil := ⟨pa_nil, fun B F H σ ρ ds Q rel hf q => by cases hf; exact q [] F H (.refl rel.fh) .nil, fun ρ ds h => by cases h; rfl⟩
theorem da_cons (ha : DE X m e te f) (hr : DA X m es t fs) (hs : starEach (e :: es) X.env = (false, eval e X.env) :: starEach es X.env := by rfl) : DA X m (e :: es) (tCons te t) (aCons f fs) :=
  ⟨pa_cons ha.p hr.p hs, fun B F H σ ρ ds Q rel hf q => by
    obtain ⟨d, h1, h2⟩ := bind_some hf
    obtain ⟨ds', h3, h4⟩ := bind_some h2
    cases h4
    refine ha.s B F H σ ρ d _ rel h1 fun x F1 H1 x1 r1 => ?_
    exact hr.s B F1 H1 σ ρ ds' _ (rel.ext x1) h3 fun xs F2 H2 x2 r2 => q _ F2 H2 (x1.trans x2) (.cons (r1.mono x2) (r2.back x1.h)), fun ρ ds h => by
    obtain ⟨d, h1, h2⟩ := bind_some h
    obtain ⟨ds', h3, h4⟩ := bind_some h2
    cases h4
    exact congrArg Nat.succ (hr.n ρ ds' h3)⟩
def tTupF (t : TA) : TE := fun σ H Q => t σ H fun xs H1 => xs.length ≤ sizeLine ∧ NewT xs H1 Q
theorem pe_tupF {x1} (h : PA X es t) : PE X (.Tuple es x1 pos) (tTupF t) := by
  refine ⟨fun pins s σ H Q I hq => ?_⟩
  refine wpAny_Tuple_spliced (thn (h.run pos pins s σ H _ I hq) fun us s1 ⟨xs, H1, I1, r, z, q⟩ => ⟨by rw [← r.length]; exact z, ?_⟩)
  exact ⟨.ref s1.heap.objs.size, _, I1.laidT (t' := s1.toks) r z, rfl, q _ _ (I1.hok.fresh (Nat.le_refl _)) rfl rfl⟩
def fTup (fs : Rho → Option (List D)) : Rho → Option D := fun ρ => (fs ρ).map .tuple
def fLst (fs : Rho → Option (List D)) : Rho → Option D := fun ρ => (fs ρ).map .list
theorem small_es {n : Nat} (h : n ≤ 1000) : n ≤ sizeLine := Nat.le_of_lt (small1000 h)
theorem de_tup {k : Nat} (h : DA X .fz es t fs) (hn : es.length ≤ 1000 := by decide) : DE X .fz (.Tuple es k pos) (tTupF t) (fTup fs) := ⟨pe_tupF h.p, fun B F H σ ρ d Q rel hf q => by
  obtain ⟨ds, h1, rfl⟩ := Option.map_eq_some_iff.mp hf
  refine h.s B F H σ ρ ds _ rel h1 fun xs F1 H1 x1 r1 => ⟨small_es (by rw [r1.length, h.n ρ ds h1]; exact hn), newT_rep x1 r1.rep q⟩⟩
theorem de_lst (h : DA X .fz es t fs) (hn : es.length ≤ 1000 := by decide) : DE X .fr (.List es pos) (tLst t) (fLst fs) := ⟨pe_lst h.p, fun B F H σ ρ d Q rel hf q => by
  obtain ⟨ds, h1, rfl⟩ := Option.map_eq_some_iff.mp hf
  refine h.s B F H σ ρ ds _ rel h1 fun xs F1 H1 x1 r1 => ⟨small_es (by rw [r1.length, h.n ρ ds h1]; exact hn), newL_res x1 r1.rep q⟩⟩
/-! ### built-ins called with values -/
def CallS (K : PySem.W.Frag) (m : Md) (r : List V → Hp → VK → Prop) (g : List D → Option D) : Prop :=
  ∀ (F H Ha : Hp) (xs : List V) (ds : List D) (z : D) (Q : VK), Same F H → ResA K .pk Ha F H xs ds → g ds = some z → (∀ v F' H', Ext F H F' H' → Res K m H F' H' v z → Q v H') → r xs H Q
theorem ResA.any {K : PySem.W.Frag} {H0 F H : Hp} : ∀ {vs : List V} {ds : List D}, ResA K m H0 F H vs ds → ResA K .pk H0 F H vs ds
  | _, _, .nil => .nil
  | _, _, .cons h r => .cons h.any (ResA.any r)
def fB (g : List D → Option D) (fs : Rho → Option (List D)) : Rho → Option D := fun ρ => (fs ρ).bind g
variable {x : Str} {p : Pos} {rc : List V → Hp → VK → Prop} {gc : List D → Option D} {id T : String}
theorem sem_cb {K : PySem.W.Frag} (hs : CallS K m rc gc) (ha : SemA K m1 t fs) : SemE K m (tCB rc t) (fB gc fs) := by
  intro B F H σ ρ z Q rel hf q
  obtain ⟨ds, h1, h2⟩ := bind_some hf
  refine ha B F H σ ρ ds _ rel h1 fun xs F1 H1 x1 r1 => ?_
  exact hs F1 H1 H xs ds z Q x1.s r1.any h2 fun v F' H' x2 r2 => q v F' H' (x1.trans x2) (r2.back (F1 := F1) x1.h)
theorem de_cb (hc : CallR X (.builtin id) rc) (hs : CallS X.K m rc gc) (hg : Gl X x) (hm : X.mg x = none) (hv : bootBuiltins x = some (.builtin id)) (ha : DA X m1 (e :: es) t fs) (hn : x ≠ "__name__" := by decide) (hdb : (x == ("__debug__" : Str)) = false := by decide)
    (he : starEach (e :: es) X.env = (false, eval e X.env) :: starEach es X.env := by rfl) (hpl : (backTo pos (starEach es X.env)).any (·.1) = false := by rfl) : DE X m (.Call (.Name x p) (e :: es) [] pos) (tCB rc t) (fB gc fs) :=
  ⟨pe_callB hc hg hm hv ha.p hn hdb he hpl, sem_cb hs ha.s⟩
theorem de_ct (hc : CallR X (.type T) rc) (hs : CallS X.K m rc gc) (hg : Gl X x) (hm : X.mg x = none) (hv : bootBuiltins x = some (.type T)) (ha : DA X m1 (e :: es) t fs) (hn : x ≠ "__name__" := by decide) (hdb : (x == ("__debug__" : Str)) = false := by decide)
    (he : starEach (e :: es) X.env = (false, eval e X.env) :: starEach es X.env := by rfl) (hpl : (backTo pos (starEach es X.env)).any (·.1) = false := by rfl) : DE X m (.Call (.Name x p) (e :: es) [] pos) (tCB rc t) (fB gc fs) :=
  ⟨pe_callTy hc hg hm hv ha.p hn hdb he hpl, sem_cb hs ha.s⟩
end
theorem resA1 {K : PySem.W.Frag} {m : Md} {H0 F H : Hp} {vs : List V} {d : D} (h : ResA K m H0 F H vs [d]) : ∃ v, vs = [v] ∧ Res K m H0 F H v d := by
  cases h with
  | cons h1 r => cases r; exact ⟨_, rfl, h1⟩
theorem resA2 {K : PySem.W.Frag} {m : Md} {H0 F H : Hp} {vs : List V} {d e : D} (h : ResA K m H0 F H vs [d, e]) : ∃ v w, vs = [v, w] ∧ Res K m H0 F H v d ∧ Res K m H0 F H w e := by
  cases h with
  | cons h1 r => cases r with
    | cons h2 r => cases r; exact ⟨_, _, rfl, h1, h2⟩
end Q
end

/-! part: Q4 -/
section
set_option Elab.async false
set_option linter.all false
set_option maxRecDepth 100000
set_option maxHeartbeats 4000000
set_option autoImplicit false
namespace Q
open PySem PySem.Spec PySem.Calls PyProof.Rows L2
/-! ### collect, sorted over a list or a tuple -/
section
variable {prog : Program} {w : World} {A : Around} {E : Value → Shared → Prop} {s : Shared}
theorem collect_sq {T : String} {it : Addr} {o : Obj} {vs : List Value} {n : Nat} {Q : List Value → Shared → Prop} (hT : T = "list" ∨ T = "tuple") (ho : s.heap.get? it = some o) (hc : o.cls = .type T) (hd : o.data = .seq vs.toArray n)
    (hQ : Q vs { s with heap := (s.heap.push (seqObj "list" #[] 0)).update s.heap.objs.size (Obj.mapSeq (· ++ vs.toArray)) }) (hsz : vs.length ≤ sizeLine) :
    wpAny (model prog w) A (collect (.ref it)) Q E s := by
  unfold collect
  refine wpAny_bind (wpAny_runValue (codeAny_builtin PySem.F.entry_proto_collect ?_))
  rw [Around.under_plainId PySem.F.plain_proto_collect _]
  show wpAny _ A.in1 (newList [] >>= fun l => again (.builtin "list.__iadd__" ⟨[l, .ref it], []⟩)) _ _ s
  refine wpAny_bind (wpAny_newObj_type ?_)
  refine wpAny_pure ⟨plainId_quiet PySem.F.plain_list_iadd _, codeAny_builtin PySem.F.entry_list_iadd ?_⟩
  rw [Around.under_plainId PySem.F.plain_list_iadd _]
  show wpAny _ A.in1 (Builtin.List.listExtendWith (.ref s.heap.objs.size) (.ref it) (.ref s.heap.objs.size)) _ _ _
  have hS : (s.heap.push { cls := .type "list", data := .seq ([] : List Value).toArray }).get? s.heap.objs.size = some { cls := .type "list", data := .seq #[] 0 } := Heap.get?_push_size _ rfl
  have hS₂ := Heap.get?_update_self (Obj.mapSeq (· ++ vs.toArray)) hS rfl
  have fin' : wpAny (model prog w) A (match Value.ref s.heap.objs.size with
      | Value.ref a => do
        match (← load a).data with
          | Data.seq xs _ => pure xs.toList
          | _ => unsupported "internal:collect"
      | _ => unsupported "internal:collect") Q E { s with heap := (s.heap.push { cls := .type "list", data := .seq ([] : List Value).toArray }).update s.heap.objs.size (Obj.mapSeq (· ++ vs.toArray)) } := by
    show wpAny _ A (load s.heap.objs.size >>= _) _ _ _
    refine wpAny_bind (wpAny_load hS₂ ?_)
    refine wpAny_pure ?_
    have e : ((#[] : Array Value) ++ vs.toArray).toList = vs := by simp
    show Q ((#[] : Array Value) ++ vs.toArray).toList _
    rw [e]
    exact hQ
  refine wpAny_mono (wpAny_extend_seq (hsz := by rw [List.size_toArray]; exact hsz) (A := A) (R := fun r s' => r = .ok (.ret (.ref s.heap.objs.size)) ∧ s' = { s with heap := (s.heap.push { cls := .type "list", data := .seq ([] : List Value).toArray }).update s.heap.objs.size (Obj.mapSeq (· ++ vs.toArray)) })
    (s := { s with heap := s.heap.push { cls := .type "list", data := .seq ([] : List Value).toArray } }) _ it _ 0 hT hS (Heap.get?_push_of_some _ ho) hc hd ⟨rfl, rfl⟩) (fun fin s' h => ?_) (fun e s' h => ?_)
  · cases fin with
    | done f =>
      obtain ⟨e, rfl⟩ := h
      cases e
      exact fin'
    | again c' => exact ⟨h.1, codeAny_mono h.2 fun r s'' hr => by obtain ⟨rfl, rfl⟩ := hr; exact fin'⟩
  · exact absurd h.1 (by simp)
theorem sorted_sq {T : String} {l : Addr} {o : Obj} {vs : List Value} {n : Nat} {kw : List (Str × Value)} {Q : Value → Shared → Prop} (hT : T = "list" ∨ T = "tuple") (ho : s.heap.get? l = some o) (hc : o.cls = .type T) (hd : o.data = .seq vs.toArray n) (hL : vs.length ≤ sizeLine) (ha1 : argsOk "sorted" ⟨[.ref l], kw⟩) (ha2 : ∀ x, argsOk "list.sort" ⟨[.ref x], kw⟩)
    (body : ∀ E' : Value → Shared → Prop, wpAny (model prog w) A.in1.in1 (Builtin.«list.sort» ⟨[.ref (s.heap.objs.size + 1)], kw⟩) (fun f s' => f = .done (.ret .none) ∧ Q (.ref (s.heap.objs.size + 1)) s') E' { s with heap := PySem.W.copyHeap s.heap vs }) :
    wpAny (model prog w) A (call (.builtin "sorted") [.ref l] kw) Q E s := by
  refine call_function_entry_kw kind_sorted plain_sorted entry_sorted ha1 ?_
  unfold Builtin.«sorted»
  refine wpAny_bind (m := checkCount "sorted" 1 1 _) (wpAny_pure ?_)
  refine wpAny_bind (collect_sq hT ho hc hd ?_ hL)
  refine wpAny_bind (wpAny_newList ?_ hL)
  have hsz : ((s.heap.push (seqObj "list" #[] 0)).update s.heap.objs.size (Obj.mapSeq (· ++ vs.toArray))).objs.size = s.heap.objs.size + 1 := by
    rw [Heap.size_update, size_push']
  show wpAny _ _ _ _ _ { s with heap := PySem.W.copyHeap s.heap vs }
  rw [hsz]
  refine wpAny_bind (wpAny_holding (wpAny_call_entry_kw slot_list_sort ⟨_, PySem.W.copyHeap_at s.heap vs, rfl⟩ entry_list_sort ?body (ha2 _)))
  case body =>
    show wpAny (model prog w) A.in1.in1 (Builtin.«list.sort» ⟨[.ref (s.heap.objs.size + 1)], kw⟩) _ _ _
    refine wpAny_mono (body _) (fun f s' hf => ?_) fun _ _ e => e
    obtain ⟨rfl, hq⟩ := hf
    exact ⟨_, rfl, wpAny_pure ⟨_, rfl, hq⟩⟩
theorem sorted_sq_data {β : Type} {vs : List Value} {bs : List β} {enc : β → PyData} {R : Value → β → Prop} {T : String} {l : Addr} {o : Obj} {n : Nat} {Q : Value → Shared → Prop} (hT : T = "list" ∨ T = "tuple") (ho : s.heap.get? l = some o) (hc : o.cls = .type T) (hd : o.data = .seq vs.toArray n)
    (e : PySem.W.EachIs R vs bs) (er : PySem.W.EachIs (fun v b => ∃ as, Reads s.heap v (enc b) as) vs bs) (hal : PySem.W.AllAlike (bs.map enc)) (hk : PySem.W.Sortable (bs.map enc)) (hL : bs.length ≤ sizeLine)
    (hu : ∀ b, b ∈ bs → A.units + 2 + (enc b).depth < cLine) (h : ∀ out, out.length = bs.length → PySem.W.EachIs R out (bs.mergeSort (PySem.W.dataLe false enc)) → Q (.ref (s.heap.objs.size + 1)) { s with heap := sortedAll s.heap vs (List.toArray out) }) :
    wpAny (model prog w) A (call (.builtin "sorted") [.ref l]) Q E s := by
  have er' : PySem.W.EachIs (fun v b => ∃ as, Reads (PySem.W.sortingHeap (PySem.W.copyHeap s.heap vs) (s.heap.objs.size + 1) vs) v (enc b) as) vs bs := er.mono fun _ _ ⟨as, r⟩ => ⟨as, PyProof.Rows.Reads.keeps (fun _ _ => PySem.W.sorting_copy_old) r⟩
  exact sorted_sq hT ho hc hd (by rw [e.length]; exact hL) (args_sorted1 _) (fun _ => args_list_sort _) fun _ => PySem.W.list_sort_vals (s := { s with heap := PySem.W.copyHeap s.heap vs }) (PySem.W.copyHeap_at s.heap vs)
    (PySem.W.SortsAt.data (s := { s with heap := PySem.W.sortingHeap (PySem.W.copyHeap s.heap vs) (s.heap.objs.size + 1) vs }) (PySem.W.each_map (R := fun v d => ∃ as, Reads (PySem.W.sortingHeap (PySem.W.copyHeap s.heap vs) (s.heap.objs.size + 1) vs) v d as) enc er') hal hk (PySem.W.bound_map hu)) (by rw [e.length]; exact hL)
    ⟨rfl, h _ (by rw [PySem.W.sortVals_length false rfl]; exact e.length) (PySem.W.sortVals_data false e er' hal)⟩
end
/-! ### a list or a tuple read -/
def SqA (K : PySem.W.Frag) (H : Hp) (p : Addr) (xs : List V) : Prop := SqL K H p xs ∨ SqT K H p xs
theorem Res.items {K : PySem.W.Frag} {m : Md} {H0 F H : Hp} {v : V} {d : D} {ds : List D} (h : Res K m H0 F H v d) (fh : Same F H) (e : itemsD d = some ds) : ∃ a xs, v = .ref a ∧ SqA K H a xs ∧ RepA K F xs ds := by
  cases d with
  | list es => cases e; obtain ⟨a, xs, e1, s1, r⟩ := h.list fh; exact ⟨a, xs, e1, .inl s1, r⟩
  | tuple es => cases e; obtain ⟨a, xs, e1, s1, r⟩ := h.tup fh; exact ⟨a, xs, e1, .inr s1.sq, r⟩
  | _ => cases e
section
variable {X : Cx} {pins : List (Addr × Obj)} {σ : L2.St} {H : Hp} {s : Shared}
theorem _root_.L2.Inv.seq (I : Inv X pins σ H s) {p : Addr} {xs : List V} (h : SqA X.K H p xs) : ∃ (T : String) (o : Obj) (its : List Value) (n : Nat), (T = "list" ∨ T = "tuple") ∧ s.heap.get? p = some o ∧ o.cls = .type T ∧ o.data = .seq its.toArray n ∧ Vals xs its ∧ xs.length ≤ sizeLine := by
  rcases h with h | h
  · obtain ⟨its, r, ⟨o, n, e, c, _, d⟩, z⟩ := I.list h
    exact ⟨"list", o, its, n, .inl rfl, e, c, d, r, z⟩
  · obtain ⟨its, r, ⟨o, e, c, n, d⟩, z⟩ := I.tuple h
    exact ⟨"tuple", o, its, n, .inr rfl, e, c, d, r, z⟩
end
theorem each_of_vals {K : PySem.W.Frag} {F : Hp} {R : Value → D → Prop} : ∀ {xs : List V} {its : List Value} {ds : List D}, Vals xs its → RepA K F xs ds → (∀ v u d, RelV v u → Rep K F v d → R u d) → PySem.W.EachIs R its ds
  | _, _, _, .nil, .nil, _ => .nil
  | _, _, _, .cons r t, .cons q u, f => .cons (f _ _ _ r q) (each_of_vals t u f)
theorem each_of_valsM {K : PySem.W.Frag} {F : Hp} {R : Value → D → Prop} : ∀ {xs : List V} {its : List Value} {ds : List D}, Vals xs its → RepA K F xs ds → (∀ v u d, d ∈ ds → RelV v u → Rep K F v d → R u d) → PySem.W.EachIs R its ds
  | _, _, _, .nil, .nil, _ => .nil
  | _, _, _, .cons r t, .cons q u, f => .cons (f _ _ _ List.mem_cons_self r q) (each_of_valsM t u fun v u d hd r q => f v u d (List.mem_cons_of_mem _ hd) r q)
theorem vals_of_each {K : PySem.W.Frag} {F : Hp} : ∀ {its : List Value} {ds : List D}, PySem.W.EachIs (fun u d => ∃ v, RelV v u ∧ Rep K F v d) its ds → ∃ xs, Vals xs its ∧ RepA K F xs ds
  | _, _, .nil => ⟨[], .nil, .nil⟩
  | _, _, .cons ⟨v, r, q⟩ t => by
    obtain ⟨xs, h1, h2⟩ := vals_of_each t
    exact ⟨v :: xs, .cons r h1, .cons q h2⟩
mutual
theorem nd_alike : ∀ d : D, PySem.W.alike d d = true → nd d = true
  | .none, _ => rfl
  | .bool _, _ => rfl
  | .int _, _ => rfl
  | .str _, _ => rfl
  | .list xs, h => by rw [nd]; exact nd_alikeA xs (by simpa [PySem.W.alike] using h)
  | .tuple xs, h => by rw [nd]; exact nd_alikeA xs (by simpa [PySem.W.alike] using h)
  | .dict _, h => by simp [PySem.W.alike] at h
theorem nd_alikeA : ∀ ds : List D, PySem.W.alikeAll ds ds = true → ndA ds = true
  | [], _ => by rw [ndA]
  | x :: xs, h => by
    rw [ndA]
    rw [PySem.W.alikeAll, Bool.and_eq_true] at h
    rw [nd_alike x h.1, nd_alikeA xs h.2]
    rfl
end
theorem ndA_of : ∀ ds : List D, (∀ d ∈ ds, nd d = true) → ndA ds = true
  | [], _ => by rw [ndA]
  | x :: xs, h => by
    rw [ndA, h x List.mem_cons_self, ndA_of xs fun d hd => h d (List.mem_cons_of_mem _ hd)]
    rfl
/-! ### sorted -/
/-- may they be sorted -/
def srtOk (ds : List D) : Bool := (ds.all fun d => ds.all fun e => PySem.W.alike d e) && ((ds.all fun d => match d with
  | .tuple (_ :: _) => true
  | _ => false) || ds.all fun d => match d with
  | .none => false
  | .tuple _ => false
  | _ => true) && ds.all fun d => decide (d.depth ≤ 64)
theorem srtOk_of {ds : List D} (h : srtOk ds = true) : PySem.W.AllAlike ds ∧ PySem.W.Sortable ds ∧ ∀ d ∈ ds, d.depth ≤ 64 := by
  unfold srtOk at h
  simp only [Bool.and_eq_true, Bool.or_eq_true, List.all_eq_true, decide_eq_true_eq] at h
  obtain ⟨⟨h1, h2⟩, h3⟩ := h
  refine ⟨h1, ?_, h3⟩
  rcases h2 with h2 | h2
  · refine .inl fun d hd => ?_
    have := h2 d hd
    cases d with
    | tuple xs =>
      cases xs with
      | nil => cases this
      | cons a b => exact ⟨a, b, rfl⟩
    | _ => cases this
  · refine .inr fun d hd => ?_
    have := h2 d hd
    refine ⟨fun z => ?_, fun xs z => ?_⟩
    · subst z; cases this
    · subst z; cases this
def srt (ds : List D) : List D := ds.mergeSort (PySem.W.dataLe false id)
def sortedD : List D → Option D
  | [d] => (itemsD d).bind fun ds => if srtOk ds = true then some (.list (srt ds)) else none
  | _ => none
/-- the state hidden in a sort: the items as values, as data -/
def rSrt (K : PySem.W.Frag) : List V → Hp → VK → Prop := fun vs H Q => ∃ a xs F ds, vs = [.ref a] ∧ Same F H ∧ SqA K H a xs ∧ RepA K F xs ds ∧ srtOk ds = true ∧ ∀ ys, RepA K F ys (srt ds) → NewL ys H Q
section
variable {X : Cx}
theorem cr_srt (hu : X.A.units + 70 < cLine) : CallR X (.builtin "sorted") (rSrt X.K) := by
  intro pins s σ H vs us Q I r h
  obtain ⟨a, xs, F, ds, rfl, fh, sq, rp, ok, q⟩ := h
  obtain ⟨u, rfl, ru⟩ := vals1 r
  cases ru
  obtain ⟨T, o, its, n, hT, e, c, d, rv, hz⟩ := I.seq sq
  obtain ⟨h1, h2, h3⟩ := srtOk_of ok
  have em : (ds.map id) = ds := List.map_id _
  refine sorted_sq_data (enc := id) (R := fun u d => ∃ v, RelV v u ∧ Rep X.K F v d) hT e c d (each_of_vals rv rp fun v u d r q => ⟨v, r, q⟩)
    (each_of_valsM rv rp fun v u d hd r q => Dp.reads I d v u ((q.mono fh).dp (nd_alike d (h1 d hd d hd))) r) (by rw [em]; exact h1) (by rw [em]; exact h2) (by rw [← rp.length]; exact hz) (fun b hb => by have := h3 b hb; show X.A.units + 2 + b.depth < cLine; omega) fun out ho hE => ?_
  obtain ⟨ys, v1, r1⟩ := vals_of_each hE
  obtain ⟨c', hc'⟩ := sortedAll_at s.heap its out.toArray
  have hlen : ys.length ≤ sizeLine := by rw [v1.length, ho, ← rp.length]; exact hz
  refine ⟨.ref (s.heap.objs.size + 1), _, I.laid (t' := s.toks) (o := .lst ys) (fun b u q => sortedAll_old q) (Nat.le_succ _) ⟨hlen, out, c', v1, hc'⟩, rfl, q ys r1 _ (I.hok.fresh (Nat.le_succ _))⟩
theorem cr_srtK (K' : PySem.W.Frag) (hu : X.A.units + 70 < cLine) (hK : X.K = K' := by rfl) : CallR X (.builtin "sorted") (rSrt K') := by
  subst hK
  exact cr_srt (hu := hu)
end
theorem cs_srt {K : PySem.W.Frag} : CallS K .fr (rSrt K) sortedD := by
  intro F H Ha vs ds z Q fh r hz q
  match ds, r, hz with
  | [d], r, hz =>
    obtain ⟨es, h1, h2⟩ := bind_some (show (itemsD d).bind (fun ds => if srtOk ds = true then some (PyData.list (srt ds)) else none) = some z from hz)
    obtain ⟨ok, rfl⟩ := if_some h2
    obtain ⟨v, rfl, r1⟩ := resA1 r
    obtain ⟨a, xs, rfl, s1, p1⟩ := r1.items fh h1
    exact ⟨a, xs, F, es, rfl, fh, s1, p1, ok, fun ys ry => newL_res (.refl fh) ry q⟩
/-! ### len, int, tuple, list, abs, min, max of two -/
def lenD : List D → Option D
  | [.list ds] => some (.int ds.length)
  | [.tuple ds] => some (.int ds.length)
  | [.str z] => if z.length ≤ sizeLine then some (.int z.length) else none
  | _ => none
def rLen (K : PySem.W.Frag) : List V → Hp → VK → Prop := fun xs H Q => ∃ x n, xs = [x] ∧ LenV K x H n ∧ Q (.int n) H
theorem cs_len {K : PySem.W.Frag} : CallS K .fz (rLen K) lenD := by
  intro F H Ha vs ds z Q fh r hz q
  match ds, r, hz with
  | [.list es], r, hz =>
    cases hz
    obtain ⟨v, rfl, r1⟩ := resA1 r
    obtain ⟨a, xs, rfl, s1, p1⟩ := r1.list fh
    refine ⟨_, es.length, rfl, .inl ⟨xs, s1, p1.length.symm⟩, q _ F H (.refl fh) (Rep.int _)⟩
  | [.tuple es], r, hz =>
    cases hz
    obtain ⟨v, rfl, r1⟩ := resA1 r
    obtain ⟨a, xs, rfl, s1, p1⟩ := r1.tup fh
    refine ⟨_, es.length, rfl, .inr ⟨xs, s1.sq, p1.length.symm⟩, q _ F H (.refl fh) (Rep.int _)⟩
  | [.str y], r, hz =>
    obtain ⟨hl, rfl⟩ := if_some (show (if y.length ≤ sizeLine then some (PyData.int y.length) else none) = some z from hz)
    obtain ⟨v, rfl, r1⟩ := resA1 r
    rw [r1.str]
    exact ⟨_, _, rfl, ⟨hl, rfl⟩, q _ F H (.refl fh) (Rep.int _)⟩
def intD : List D → Option D
  | [.int i] => some (.int i)
  | [.bool b] => some (.int (if b then 1 else 0))
  | _ => none
def rInt : List V → Hp → VK → Prop := fun xs H Q => (∃ i, xs = [.int i] ∧ Q (.int i) H) ∨ ∃ k, xs = [.bl k] ∧ Q (.int (if k then 1 else 0)) H
theorem cs_int {K : PySem.W.Frag} : CallS K .fz rInt intD := by
  intro F H Ha vs ds z Q fh r hz q
  match ds, r, hz with
  | [.int i], r, hz =>
    cases hz
    obtain ⟨v, rfl, r1⟩ := resA1 r
    rw [r1.int]
    exact .inl ⟨i, rfl, q _ F H (.refl fh) (Rep.int _)⟩
  | [.bool b], r, hz =>
    cases hz
    obtain ⟨v, rfl, r1⟩ := resA1 r
    rw [r1.bl]
    exact .inr ⟨b, rfl, q _ F H (.refl fh) (Rep.int _)⟩
def absD : List D → Option D
  | [.int i] => some (.int (if i < 0 then -i else i))
  | _ => none
def rAbs : List V → Hp → VK → Prop := fun xs H Q => ∃ i, xs = [.int i] ∧ Q (.int (if i < 0 then -i else i)) H
theorem cs_abs {K : PySem.W.Frag} : CallS K .fz rAbs absD := by
  intro F H Ha vs ds z Q fh r hz q
  match ds, r, hz with
  | [.int i], r, hz =>
    cases hz
    obtain ⟨v, rfl, r1⟩ := resA1 r
    rw [r1.int]
    exact ⟨i, rfl, q _ F H (.refl fh) (Rep.int _)⟩
def max2D : List D → Option D
  | [.int i, .int j] => some (.int (if j > i then j else i))
  | _ => none
def min2D : List D → Option D
  | [.int i, .int j] => some (.int (if j < i then j else i))
  | _ => none
def rMax2 : List V → Hp → VK → Prop := fun xs H Q => ∃ i j, xs = [.int i, .int j] ∧ Q (.int (if j > i then j else i)) H
def rMin2 : List V → Hp → VK → Prop := fun xs H Q => ∃ i j, xs = [.int i, .int j] ∧ Q (.int (if j < i then j else i)) H
theorem cs_max2 {K : PySem.W.Frag} : CallS K .fz rMax2 max2D := by
  intro F H Ha vs ds z Q fh r hz q
  match ds, r, hz with
  | [.int i, .int j], r, hz =>
    cases hz
    obtain ⟨v, w, rfl, r1, r2⟩ := resA2 r
    rw [r1.int, r2.int]
    exact ⟨i, j, rfl, q _ F H (.refl fh) (Rep.int _)⟩
theorem cs_min2 {K : PySem.W.Frag} : CallS K .fz rMin2 min2D := by
  intro F H Ha vs ds z Q fh r hz q
  match ds, r, hz with
  | [.int i, .int j], r, hz =>
    cases hz
    obtain ⟨v, w, rfl, r1, r2⟩ := resA2 r
    rw [r1.int, r2.int]
    exact ⟨i, j, rfl, q _ F H (.refl fh) (Rep.int _)⟩
def tupD : List D → Option D
  | [.list ds] => some (.tuple ds)
  | [.tuple ds] => some (.tuple ds)
  | _ => none
def rTupC (K : PySem.W.Frag) : List V → Hp → VK → Prop := fun xs H Q => ∃ p ys, xs = [.ref p] ∧ ((SqL K H p ys ∧ NewT ys H Q) ∨ (SqT K H p ys ∧ Q (.ref p) H))
theorem cr_tup {X : Cx} : CallR X (.type "tuple") (rTupC X.K) := by
  intro pins s σ H vs us Q I r h
  obtain ⟨p, xs, rfl, h⟩ := h
  obtain ⟨u, rfl, ru⟩ := vals1 r
  cases ru
  rcases h with ⟨hs, q⟩ | ⟨hs, q⟩
  · obtain ⟨its, rv, pl, hz⟩ := I.list hs
    refine call_tuple_list pl.isList (fun h' hk => ?_) (by rw [List.size_toArray, ← rv.length]; exact hz)
    have I1 : Inv X pins σ H { s with heap := h' } := I.kept (t' := s.toks) hk
    exact ⟨.ref h'.objs.size, _, Inv.laidT (s := { s with heap := h' }) (t' := s.toks) I1 rv hz, rfl, q _ _ (I1.hok.fresh (Nat.le_refl _)) rfl rfl⟩
  · obtain ⟨its, rv, pl, hz⟩ := I.tuple hs
    exact call_tuple_tup pl ⟨.ref p, H, I, rfl, q⟩
theorem cr_tupK {X : Cx} (K' : PySem.W.Frag) (hK : X.K = K' := by rfl) : CallR X (.type "tuple") (rTupC K') := by
  subst hK
  exact cr_tup 
theorem cs_tup {K : PySem.W.Frag} : CallS K .fz (rTupC K) tupD := by
  intro F H Ha vs ds z Q fh r hz q
  match ds, r, hz with
  | [.list es], r, hz =>
    cases hz
    obtain ⟨v, rfl, r1⟩ := resA1 r
    obtain ⟨a, xs, rfl, s1, p1⟩ := r1.list fh
    exact ⟨a, xs, rfl, .inl ⟨s1, newT_rep (.refl fh) p1 q⟩⟩
  | [.tuple es], r, hz =>
    cases hz
    obtain ⟨v, rfl, r1⟩ := resA1 r
    have rr := Res.rep r1 (fun _ z => nomatch z) (fun _ z => nomatch z)
    obtain ⟨a, xs, rfl, s1, p1⟩ := r1.tup fh
    exact ⟨a, xs, rfl, .inr ⟨s1.sq, q _ F H (.refl fh) rr⟩⟩
def lstD : List D → Option D
  | [d] => (itemsD d).map .list
  | _ => none
def rLstC (K : PySem.W.Frag) : List V → Hp → VK → Prop := fun xs H Q => ∃ p ys, xs = [.ref p] ∧ (SqL K H p ys ∨ SqT K H p ys) ∧ ∀ l, H l = none → Q (.ref l) (upd H l (.lst ys))
theorem cs_lst {K : PySem.W.Frag} : CallS K .fr (rLstC K) lstD := by
  intro F H Ha vs ds z Q fh r hz q
  match ds, r, hz with
  | [d], r, hz =>
    obtain ⟨es, h1, rfl⟩ := Option.map_eq_some_iff.mp (show (itemsD d).map PyData.list = some z from hz)
    obtain ⟨v, rfl, r1⟩ := resA1 r
    obtain ⟨a, xs, rfl, s1, p1⟩ := r1.items fh h1
    exact ⟨a, xs, rfl, s1, newL_res (.refl fh) p1 q⟩
/-! ### sum, all, any, min, max over items -/
def intsOf : List D → Option (List Int)
  | [] => some []
  | .int i :: ds => (intsOf ds).map (i :: ·)
  | _ => none
theorem intsOf_map : ∀ {ds : List D} {ns : List Int}, intsOf ds = some ns → ds = ns.map .int
  | [], _, h => by cases h; rfl
  | .int i :: ds, ns, h => by
    obtain ⟨ms, h1, rfl⟩ := Option.map_eq_some_iff.mp (show (intsOf ds).map (i :: ·) = some ns from h)
    rw [intsOf_map h1]; rfl
theorem intsOf_ints : ∀ (ns : List Int), intsOf (ns.map .int) = some ns
  | [] => rfl
  | n :: ns => by show (intsOf (ns.map .int)).map (n :: ·) = _; rw [intsOf_ints ns]; rfl
def sumD : List D → Option D
  | [d] => (itemsD d).bind fun ds => (intsOf ds).map fun ns => .int ns.sum
  | _ => none
def rSumA (K : PySem.W.Frag) : List V → Hp → VK → Prop := fun vs H Q => ∃ (a : Addr) (ns : List Int), vs = [V.ref a] ∧ SqA K H a (ns.map V.int) ∧ Q (.int ns.sum) H
theorem cr_sumA {X : Cx} (hc : X.calm = true) : CallR X (.builtin "sum") (rSumA X.K) := by
  intro pins s σ H vs us Q I r h
  obtain ⟨a, ns, rfl, sq, q⟩ := h
  rcases sq with sq | sq
  · exact cr_sum hc pins s σ H _ us Q I r ⟨a, ns, rfl, sq, q⟩
  · obtain ⟨u, rfl, ru⟩ := vals1 r
    cases ru
    obtain ⟨its, rv, pl, hz⟩ := I.tuple sq
    have hi : IntsAre its ns := rv.ints
    obtain ⟨xs, hx⟩ := hi.allInts.items
    have hn : numsOf its.toArray.toList = ns := by rw [show its.toArray.toList = its from rfl, hi.numsOf]
    rw [hx] at pl hn
    rw [nums_intItems] at hn
    refine PySem.W.ktm_sumG (I.ok.hd hc) pl fun h' tk t' hk => ?_
    rw [preSum_eq, List.take_of_length_le (by simp), hn]
    exact ⟨.int ns.sum, H, I.kept hk, ⟨t', rfl⟩, q⟩
theorem cr_sumAK {X : Cx} (K' : PySem.W.Frag) (hc : X.calm = true) (hK : X.K = K' := by rfl) : CallR X (.builtin "sum") (rSumA K') := by
  subst hK
  exact cr_sumA (hc := hc)
theorem cs_sum {K : PySem.W.Frag} : CallS K .fz (rSumA K) sumD := by
  intro F H Ha vs ds z Q fh r hz q
  match ds, r, hz with
  | [d], r, hz =>
    obtain ⟨es, h1, h2⟩ := bind_some (show (itemsD d).bind (fun ds => (intsOf ds).map fun ns => PyData.int ns.sum) = some z from hz)
    obtain ⟨ns, h3, rfl⟩ := Option.map_eq_some_iff.mp h2
    obtain ⟨v, rfl, r1⟩ := resA1 r
    obtain ⟨a, xs, rfl, s1, p1⟩ := r1.items fh h1
    have e := intsOf_map h3
    subst e
    have e2 := RepA.ints p1
    subst e2
    exact ⟨a, ns, rfl, s1, q _ F H (.refl fh) (Rep.int _)⟩
def blsOf : List D → Option (List Bool)
  | [] => some []
  | .bool b :: ds => (blsOf ds).map (b :: ·)
  | _ => none
theorem blsOf_map : ∀ {ds : List D} {ns : List Bool}, blsOf ds = some ns → ds = ns.map .bool
  | [], _, h => by cases h; rfl
  | .bool i :: ds, ns, h => by
    obtain ⟨ms, h1, rfl⟩ := Option.map_eq_some_iff.mp (show (blsOf ds).map (i :: ·) = some ns from h)
    rw [blsOf_map h1]; rfl
theorem blsOf_bls : ∀ (ns : List Bool), blsOf (ns.map .bool) = some ns
  | [] => rfl
  | n :: ns => by show (blsOf (ns.map .bool)).map (n :: ·) = _; rw [blsOf_bls ns]; rfl
def allD : List D → Option D
  | [.list ds] => (blsOf ds).map fun bs => .bool (bs.all id)
  | _ => none
def anyD : List D → Option D
  | [.list ds] => (blsOf ds).map fun bs => .bool (bs.any id)
  | _ => none
theorem cs_all {K : PySem.W.Frag} : CallS K .fz (rAll K) allD := by
  intro F H Ha vs ds z Q fh r hz q
  match ds, r, hz with
  | [.list es], r, hz =>
    obtain ⟨bs, h3, rfl⟩ := Option.map_eq_some_iff.mp (show (blsOf es).map (fun bs => PyData.bool (bs.all id)) = some z from hz)
    obtain ⟨v, rfl, r1⟩ := resA1 r
    obtain ⟨a, xs, rfl, s1, p1⟩ := r1.list fh
    have e := blsOf_map h3
    subst e
    have e2 := RepA.bls p1
    subst e2
    exact ⟨a, bs, rfl, s1, q _ F H (.refl fh) (Rep.bl _)⟩
theorem cs_any {K : PySem.W.Frag} : CallS K .fz (rAny K) anyD := by
  intro F H Ha vs ds z Q fh r hz q
  match ds, r, hz with
  | [.list es], r, hz =>
    obtain ⟨bs, h3, rfl⟩ := Option.map_eq_some_iff.mp (show (blsOf es).map (fun bs => PyData.bool (bs.any id)) = some z from hz)
    obtain ⟨v, rfl, r1⟩ := resA1 r
    obtain ⟨a, xs, rfl, s1, p1⟩ := r1.list fh
    have e := blsOf_map h3
    subst e
    have e2 := RepA.bls p1
    subst e2
    exact ⟨a, bs, rfl, s1, q _ F H (.refl fh) (Rep.bl _)⟩
def bestOk (ds : List D) : Bool := (ds.all fun d => ds.all fun e => PySem.W.alike d e) && (ds.all fun d => match d with
  | .none => false
  | _ => true) && decide (PyData.depthAll ds ≤ 64)
theorem bestOk_of {ds : List D} (h : bestOk ds = true) : PySem.W.AlikeAll ds ∧ PyData.depthAll ds ≤ 64 := by
  unfold bestOk at h
  simp only [Bool.and_eq_true, List.all_eq_true, decide_eq_true_eq] at h
  obtain ⟨⟨h1, h2⟩, h3⟩ := h
  refine ⟨⟨h1, fun d hd z => ?_⟩, h3⟩
  subst z
  exact nomatch h2 _ hd
def minOf : List D → Option D
  | [] => none
  | x :: xs => if bestOk (x :: xs) = true then some (PySem.W.minD x xs) else none
def maxOf : List D → Option D
  | [] => none
  | x :: xs => if bestOk (x :: xs) = true then some (PySem.W.maxD x xs) else none
def minA : List D → Option D
  | [d] => (itemsD d).bind minOf
  | _ => none
def maxA : List D → Option D
  | [d] => (itemsD d).bind maxOf
  | _ => none
theorem minD_mem (x : D) : ∀ xs : List D, PySem.W.minD x xs ∈ x :: xs := by
  intro xs
  unfold PySem.W.minD
  induction xs generalizing x with
  | nil => exact List.mem_singleton.mpr rfl
  | cons y ys ih =>
    rw [List.foldl_cons]
    split
    · exact List.mem_cons_of_mem _ (ih y)
    · rcases List.mem_cons.mp (ih x) with e | e
      · rw [e]; exact List.mem_cons_self
      · exact List.mem_cons_of_mem _ (List.mem_cons_of_mem _ e)
theorem maxD_mem (x : D) : ∀ xs : List D, PySem.W.maxD x xs ∈ x :: xs := by
  intro xs
  unfold PySem.W.maxD
  induction xs generalizing x with
  | nil => exact List.mem_singleton.mpr rfl
  | cons y ys ih =>
    rw [List.foldl_cons]
    split
    · exact List.mem_cons_of_mem _ (ih y)
    · rcases List.mem_cons.mp (ih x) with e | e
      · rw [e]; exact List.mem_cons_self
      · exact List.mem_cons_of_mem _ (List.mem_cons_of_mem _ e)
def rBest (K : PySem.W.Frag) (f : D → List D → D) : List V → Hp → VK → Prop := fun vs H Q => ∃ a xs F x ds, vs = [V.ref a] ∧ Same F H ∧ SqA K H a xs ∧ RepA K F xs (x :: ds) ∧ bestOk (x :: ds) = true ∧ ∀ v, Rep K F v (f x ds) → Q v H
theorem best_end {X : Cx} {pins : List (Addr × Obj)} {σ : L2.St} {H F : Hp} {s : Shared} {xs : List V} {its : List Value} {ds : List D} {i : Nat} {u : Value} {h' : Heap} {tk : Nat} {m : D} {bs : List Addr} (I : Inv X pins σ H s) (fh : Same F H) (rv : Vals xs its) (rp : RepA X.K F xs ds) (ok : PySem.W.AlikeAll ds) (hm : m ∈ ds)
    (hu : its.toArray[i]? = some u) (hr : Reads h' u m bs) (hk : ∀ b o, s.heap.get? b = some o → h'.get? b = some o) : ∃ v, RelV v u ∧ Rep X.K F v m := by
  have hu' : its[i]? = some u := by rw [← hu]; simp
  have hi : i < xs.length := by rw [rv.length]; exact (List.getElem?_eq_some_iff.mp hu').1
  obtain ⟨u2, h2, r2⟩ := rv.get (List.getElem?_eq_getElem hi)
  rw [hu'] at h2; cases h2
  obtain ⟨d, h3, r3⟩ := rp.getV (List.getElem?_eq_getElem hi)
  have I2 : Inv X pins σ H { s with heap := h', toks := tk } := I.kept hk
  obtain ⟨as, r4⟩ := Dp.reads I2 d _ u ((r3.mono fh).dp (nd_alike d (ok.1 _ (List.mem_of_getElem? h3) _ (List.mem_of_getElem? h3)))) r2
  have e := PySem.W.alike_unique _ _ _ _ _ (ok.1 _ (List.mem_of_getElem? h3) _ hm) r4 hr
  subst e
  exact ⟨_, r2, r3⟩
theorem cr_minA {X : Cx} (hc : X.calm = true) (hu : X.A.units + 70 < cLine) : CallR X (.builtin "min") (rBest X.K PySem.W.minD) := by
  intro pins s σ H vs us Q I r h
  obtain ⟨a, xs, F, x, ds, rfl, fh, sq, rp, ok, q⟩ := h
  obtain ⟨u, rfl, ru⟩ := vals1 r
  cases ru
  obtain ⟨h1, h2⟩ := bestOk_of ok
  rcases sq with sq | sq
  · obtain ⟨its, rv, pl, hz⟩ := I.list sq
    obtain ⟨as, hr⟩ := Dp.readsAll I (x :: ds) xs its ((rp.mono fh).dp (ndA_of _ fun d hd => nd_alike d (h1.1 d hd d hd))) rv
    refine PySem.W.min_list_data (I.ok.hd hc) pl.isList (show ReadsAll s.heap its.toArray.toList _ _ from hr) h1 (by omega) fun i v h' tk bs hi hr' hk => ?_
    obtain ⟨w, r1, r2⟩ := best_end (tk := tk) I fh rv rp h1 (minD_mem x ds) hi hr' hk
    exact ⟨w, H, I.kept hk, r1, q w r2⟩
  · obtain ⟨its, rv, pl, hz⟩ := I.tuple sq
    obtain ⟨as, hr⟩ := Dp.readsAll I (x :: ds) xs its ((rp.mono fh).dp (ndA_of _ fun d hd => nd_alike d (h1.1 d hd d hd))) rv
    refine PySem.W.min_tuple_data (I.ok.hd hc) pl (show ReadsAll s.heap its.toArray.toList _ _ from hr) h1 (by omega) fun i v h' tk bs hi hr' hk => ?_
    obtain ⟨w, r1, r2⟩ := best_end (tk := tk) I fh rv rp h1 (minD_mem x ds) hi hr' hk
    exact ⟨w, H, I.kept hk, r1, q w r2⟩
theorem cr_minAK {X : Cx} (K' : PySem.W.Frag) (hc : X.calm = true) (hu : X.A.units + 70 < cLine) (hK : X.K = K' := by rfl) : CallR X (.builtin "min") (rBest K' PySem.W.minD) := by
  subst hK
  exact cr_minA (hc := hc) (hu := hu)
theorem cr_maxA {X : Cx} (hc : X.calm = true) (hu : X.A.units + 70 < cLine) : CallR X (.builtin "max") (rBest X.K PySem.W.maxD) := by
  intro pins s σ H vs us Q I r h
  obtain ⟨a, xs, F, x, ds, rfl, fh, sq, rp, ok, q⟩ := h
  obtain ⟨u, rfl, ru⟩ := vals1 r
  cases ru
  obtain ⟨h1, h2⟩ := bestOk_of ok
  rcases sq with sq | sq
  · obtain ⟨its, rv, pl, hz⟩ := I.list sq
    obtain ⟨as, hr⟩ := Dp.readsAll I (x :: ds) xs its ((rp.mono fh).dp (ndA_of _ fun d hd => nd_alike d (h1.1 d hd d hd))) rv
    refine PySem.W.max_list_data (I.ok.hd hc) pl.isList (show ReadsAll s.heap its.toArray.toList _ _ from hr) h1 (by omega) fun i v h' tk bs hi hr' hk => ?_
    obtain ⟨w, r1, r2⟩ := best_end (tk := tk) I fh rv rp h1 (maxD_mem x ds) hi hr' hk
    exact ⟨w, H, I.kept hk, r1, q w r2⟩
  · obtain ⟨its, rv, pl, hz⟩ := I.tuple sq
    obtain ⟨as, hr⟩ := Dp.readsAll I (x :: ds) xs its ((rp.mono fh).dp (ndA_of _ fun d hd => nd_alike d (h1.1 d hd d hd))) rv
    refine PySem.W.max_tuple_data (I.ok.hd hc) pl (show ReadsAll s.heap its.toArray.toList _ _ from hr) h1 (by omega) fun i v h' tk bs hi hr' hk => ?_
    obtain ⟨w, r1, r2⟩ := best_end (tk := tk) I fh rv rp h1 (maxD_mem x ds) hi hr' hk
    exact ⟨w, H, I.kept hk, r1, q w r2⟩
theorem cr_maxAK {X : Cx} (K' : PySem.W.Frag) (hc : X.calm = true) (hu : X.A.units + 70 < cLine) (hK : X.K = K' := by rfl) : CallR X (.builtin "max") (rBest K' PySem.W.maxD) := by
  subst hK
  exact cr_maxA (hc := hc) (hu := hu)
theorem cs_minA {K : PySem.W.Frag} : CallS K .fz (rBest K PySem.W.minD) minA := by
  intro F H Ha vs ds z Q fh r hz q
  match ds, r, hz with
  | [d], r, hz =>
    obtain ⟨es, h1, h2⟩ := bind_some (show (itemsD d).bind minOf = some z from hz)
    obtain ⟨v, rfl, r1⟩ := resA1 r
    obtain ⟨a, xs, rfl, s1, p1⟩ := r1.items fh h1
    match es, h2, p1 with
    | x :: es, h2, p1 =>
      obtain ⟨ok, rfl⟩ := if_some h2
      exact ⟨a, xs, F, x, es, rfl, fh, s1, p1, ok, fun v rv => q v F H (.refl fh) rv⟩
theorem cs_maxA {K : PySem.W.Frag} : CallS K .fz (rBest K PySem.W.maxD) maxA := by
  intro F H Ha vs ds z Q fh r hz q
  match ds, r, hz with
  | [d], r, hz =>
    obtain ⟨es, h1, h2⟩ := bind_some (show (itemsD d).bind maxOf = some z from hz)
    obtain ⟨v, rfl, r1⟩ := resA1 r
    obtain ⟨a, xs, rfl, s1, p1⟩ := r1.items fh h1
    match es, h2, p1 with
    | x :: es, h2, p1 =>
      obtain ⟨ok, rfl⟩ := if_some h2
      exact ⟨a, xs, F, x, es, rfl, fh, s1, p1, ok, fun v rv => q v F H (.refl fh) rv⟩
end Q
end

/-! part: Q5 -/
section
set_option Elab.async false
set_option linter.all false
set_option maxRecDepth 100000
set_option maxHeartbeats 4000000
set_option autoImplicit false
namespace Q
open PySem PySem.Spec PySem.Calls PyProof.Rows L2
/-! ### statements -/
inductive Out where
  | nx (ρ : Rho)
  | bk (ρ : Rho)
  | ct (ρ : Rho)
  | rt (d : D)
abbrev Bd := Rho → Option Out
/-- what is known behind a return -/
def RtOk (K : PySem.W.Frag) (m : Md) (B : Bs) (F H : Hp) (v : V) (d : D) : Prop := Same B.F0 F ∧ Same B.G H ∧ Same F H ∧ New B.F0 F B.G ∧ Res K m B.G F H v d
/-- the ends that a statement's denotation reaches -/
def Ends_ (K : PySem.W.Frag) (m : Md) (W : List Nat) (B : Bs) (σ : L2.St) (D : Ends) (o : Out) : Prop := match o with
  | .nx ρ' => ∀ (σ' : L2.St) (F' H' : Hp), Rel K B F' H' σ' ρ' → (∀ j, j ∉ W → σ'[j]? = σ[j]?) → D.nx σ' H'
  | .bk ρ' => ∀ (σ' : L2.St) (F' H' : Hp), Rel K B F' H' σ' ρ' → (∀ j, j ∉ W → σ'[j]? = σ[j]?) → D.bk σ' H'
  | .ct ρ' => ∀ (σ' : L2.St) (F' H' : Hp), Rel K B F' H' σ' ρ' → (∀ j, j ∉ W → σ'[j]? = σ[j]?) → D.ct σ' H'
  | .rt d => ∀ (v : V) (F' H' : Hp), RtOk K m B F' H' v d → D.rt v H'
def SemS (K : PySem.W.Frag) (m : Md) (W : List Nat) (t : TS) (b : Bd) : Prop :=
  ∀ (B : Bs) (F H : Hp) (σ : L2.St) (ρ : Rho) (o : Out) (D : Ends), Rel K B F H σ ρ → b ρ = some o → Ends_ K m W B σ D o → t D σ H
structure DS (X : Cx) (m : Md) (W : List Nat) (st : Stmt) (t : TS) (b : Bd) : Prop where
  p : PS X st t
  s : SemS X.K m W t b
structure DSs (X : Cx) (m : Md) (W : List Nat) (st : List Stmt) (t : TS) (b : Bd) : Prop where
  p : PSs X st t
  s : SemS X.K m W t b
def bNext : Bd := fun ρ => some (.nx ρ)
def bSeq (a b : Bd) : Bd := fun ρ => (a ρ).bind fun o => match o with
  | .nx ρ' => b ρ'
  | o => some o
theorem ends_mono {K : PySem.W.Frag} {m : Md} {W W' : List Nat} {B : Bs} {σ : L2.St} {D : Ends} {o : Out} (h : Ends_ K m W' B σ D o) (hw : ∀ j, j ∈ W → j ∈ W') : Ends_ K m W B σ D o := by
  cases o with
  | nx ρ => exact fun σ' F' H' r k => h σ' F' H' r fun j hj => k j fun z => hj (hw j z)
  | bk ρ => exact fun σ' F' H' r k => h σ' F' H' r fun j hj => k j fun z => hj (hw j z)
  | ct ρ => exact fun σ' F' H' r k => h σ' F' H' r fun j hj => k j fun z => hj (hw j z)
  | rt d => exact h
theorem SemS.mono {K : PySem.W.Frag} {m : Md} {W W' : List Nat} {t : TS} {b : Bd} (h : SemS K m W t b) (hw : ∀ j, j ∈ W → j ∈ W') : SemS K m W' t b :=
  fun B F H σ ρ o D r hb e => h B F H σ ρ o D r hb (ends_mono e hw)
section
variable {X : Cx} {m : Md} {W W1 W2 : List Nat} {st : Stmt} {rest : List Stmt} {t u : TS} {b c : Bd} {pos : Pos}
theorem dss_nil : DSs X m [] [] tNext bNext := ⟨pss_nil, fun B F H σ ρ o D r hb e => by cases hb; exact e σ F H r fun _ _ => rfl⟩
theorem ends_after {K : PySem.W.Frag} {σ σ1 : L2.St} {B : Bs} {D : Ends} {o : Out} (e : Ends_ K m (W1 ++ W2) B σ D o) (k1 : ∀ j, j ∉ W1 → σ1[j]? = σ[j]?) : Ends_ K m W2 B σ1 D o := by
  have kk : ∀ (σ' : L2.St), (∀ j, j ∉ W2 → σ'[j]? = σ1[j]?) → ∀ j, j ∉ W1 ++ W2 → σ'[j]? = σ[j]? := fun σ' k' j hj =>
    (k' j fun z => hj (List.mem_append_right _ z)).trans (k1 j fun z => hj (List.mem_append_left _ z))
  cases o with
  | nx ρ2 => exact fun σ' F' H' r' k' => e σ' F' H' r' (kk σ' k')
  | bk ρ2 => exact fun σ' F' H' r' k' => e σ' F' H' r' (kk σ' k')
  | ct ρ2 => exact fun σ' F' H' r' k' => e σ' F' H' r' (kk σ' k')
  | rt d => exact e
theorem sem_seq {K : PySem.W.Frag} (h1 : SemS K m W1 t b) (h2 : SemS K m W2 u c) : SemS K m (W1 ++ W2) (tSeq t u) (bSeq b c) := by
  intro B F H σ ρ o D r hb e
  obtain ⟨o1, e1, e2⟩ := bind_some hb
  refine h1 B F H σ ρ o1 _ r e1 ?_
  cases o1 with
  | nx ρ1 => exact fun σ1 F1 H1 r1 k1 => h2 B F1 H1 σ1 ρ1 o D r1 e2 (ends_after e k1)
  | bk ρ1 => cases e2; exact fun σ' F' H' r' k' => e σ' F' H' r' fun j hj => k' j fun z => hj (List.mem_append_left _ z)
  | ct ρ1 => cases e2; exact fun σ' F' H' r' k' => e σ' F' H' r' fun j hj => k' j fun z => hj (List.mem_append_left _ z)
  | rt d => cases e2; exact e
theorem dss_cons (h1 : DS X m W1 st t b) (h2 : DSs X m W2 rest u c) : DSs X m (W1 ++ W2) (st :: rest) (tSeq t u) (bSeq b c) := ⟨pss_cons h1.p h2.p, sem_seq h1.s h2.s⟩
theorem dss_one (h1 : DS X m W st t b) : DSs X m W [st] t b := ⟨pss_one h1.p, h1.s⟩
theorem ds_pass : DS X m [] (.Pass pos) tNext bNext := ⟨ps_pass, fun B F H σ ρ o D r hb e => by cases hb; exact e σ F H r fun _ _ => rfl⟩
def bBreak : Bd := fun ρ => some (.bk ρ)
def bCont : Bd := fun ρ => some (.ct ρ)
def bNever : Bd := fun _ => none
theorem ds_break : DS X m [] (.Break pos) tBreak bBreak := ⟨ps_break, fun B F H σ ρ o D r hb e => by cases hb; exact e σ F H r fun _ _ => rfl⟩
theorem ds_cont : DS X m [] (.Continue pos) tCont bCont := ⟨ps_continue, fun B F H σ ρ o D r hb e => by cases hb; exact e σ F H r fun _ _ => rfl⟩
theorem ds_never : DS X m [] st tNever bNever := ⟨ps_never, fun B F H σ ρ o D r hb e => nomatch hb⟩
theorem dss_never {sts : List Stmt} : DSs X m [] sts tNever bNever := ⟨pss_never, fun B F H σ ρ o D r hb e => nomatch hb⟩
def bIf (c : Rho → Option Bool) (a b : Bd) : Bd := fun ρ => (c ρ).bind fun k => if k = true then a ρ else b ρ
theorem ds_if {e : Expr} {p q : List Stmt} {tc : TT} {fc : Rho → Option Bool} (hc : DT X e tc fc) (ha : DSs X m W1 p t b) (hb : DSs X m W2 q u c) : DS X m (W1 ++ W2) (.If e p q pos) (tIfS tc t u) (bIf fc b c) :=
  ⟨ps_if hc.p ha.p hb.p, fun B F H σ ρ o D r hf e => by
    obtain ⟨k, h1, h2⟩ := bind_some hf
    refine hc.s B F H σ ρ k _ r h1 fun F1 H1 x1 => ?_
    cases k with
    | true => exact ha.s B F1 H1 σ ρ o D (r.ext x1) h2 (ends_mono e fun j hj => List.mem_append_left _ hj)
    | false => exact hb.s B F1 H1 σ ρ o D (r.ext x1) h2 (ends_mono e fun j hj => List.mem_append_right _ hj)⟩
end
/-! ### the state changed -/
section
variable {K : PySem.W.Frag} {B : Bs} {F H : Hp} {σ : L2.St} {ρ : Rho}
theorem set_at {α : Type} {l : List α} {i j : Nat} {x y : α} (h : (l.set i x)[j]? = some y) : (j = i ∧ i < l.length ∧ y = x) ∨ (j ≠ i ∧ l[j]? = some y) := by
  by_cases e : j = i
  · subst e
    by_cases hl : j < l.length
    · rw [List.getElem?_set_self hl] at h
      exact .inl ⟨rfl, hl, (Option.some.inj h).symm⟩
    · rw [List.getElem?_eq_none (by simpa using hl)] at h
      cases h
  · rw [List.getElem?_set_ne (Ne.symm e)] at h
    exact .inr ⟨e, h⟩
theorem Rel.setIm (r : Rel K B F H σ ρ) {i : Nat} {v : V} {d : D} (h : Rep K F v d) : Rel K B F H (σ.set i (some v)) (ρ.set i (.im d)) := by
  refine ⟨by simpa using r.len, r.f0, r.g, r.fh, r.nw, fun j o s h1 h2 => ?_, fun j k d1 d2 a hjk h1 h2 h3 h4 => ?_⟩
  · rcases set_at h1 with ⟨rfl, _, rfl⟩ | ⟨n1, h1⟩
    · rcases set_at h2 with ⟨_, _, rfl⟩ | ⟨n2, _⟩
      · exact ⟨v, rfl, h⟩
      · exact absurd rfl n2
    · rcases set_at h2 with ⟨e, _, _⟩ | ⟨_, h2⟩
      · exact absurd e n1
      · exact r.sl j o s h1 h2
  · rcases set_at h1 with ⟨_, _, e⟩ | ⟨n1, h1⟩
    · cases e
    rcases set_at h2 with ⟨_, _, e⟩ | ⟨n2, h2⟩
    · cases e
    rw [List.getElem?_set_ne (Ne.symm n1)] at h3
    rw [List.getElem?_set_ne (Ne.symm n2)] at h4
    exact r.sep j k d1 d2 a hjk h1 h2 h3 h4
/-- a new object gets a name of its own -/
theorem Rel.setOw (r : Rel K B F H σ ρ) {i : Nat} {a : Addr} {d : D} (h0 : F a = none) (h1 : B.G a = none) (ho : Own K F H a d) (hn : ∀ (j : Nat) (e : D), j ≠ i → ρ[j]? = some (.ow e) → σ[j]? ≠ some (some (.ref a))) : Rel K B F H (σ.set i (some (.ref a))) (ρ.set i (.ow d)) := by
  refine ⟨by simpa using r.len, r.f0, r.g, r.fh, r.nw, fun j o s e1 e2 => ?_, fun j k d1 d2 b hjk e1 e2 e3 e4 => ?_⟩
  · rcases set_at e1 with ⟨rfl, _, rfl⟩ | ⟨n1, e1⟩
    · rcases set_at e2 with ⟨_, _, rfl⟩ | ⟨n2, _⟩
      · exact ⟨a, rfl, h0, h1, ho⟩
      · exact absurd rfl n2
    · rcases set_at e2 with ⟨e, _, _⟩ | ⟨_, e2⟩
      · exact absurd e n1
      · exact r.sl j o s e1 e2
  · by_cases hj : j = i
    · subst hj
      rcases set_at e3 with ⟨_, _, e⟩ | ⟨n, _⟩
      · cases e
        have hk : k ≠ j := fun z => hjk z.symm
        rw [List.getElem?_set_ne (Ne.symm hk)] at e2 e4
        exact hn k d2 hk e2 e4
      · exact absurd rfl n
    · by_cases hk : k = i
      · subst hk
        rcases set_at e4 with ⟨_, _, e⟩ | ⟨n, _⟩
        · cases e
          rw [List.getElem?_set_ne (Ne.symm hj)] at e1 e3
          exact hn j d1 hj e1 e3
        · exact absurd rfl n
      · rw [List.getElem?_set_ne (Ne.symm hj)] at e1 e3
        rw [List.getElem?_set_ne (Ne.symm hk)] at e2 e4
        exact r.sep j k d1 d2 b hjk e1 e2 e3 e4
/-- an owned object is written -/
theorem Rel.write (r : Rel K B F H σ ρ) {i : Nat} {a : Addr} {d d' : D} {o' : HO} (h1 : ρ[i]? = some (.ow d)) (h2 : σ[i]? = some (some (.ref a))) (h0 : F a = none) (hg : B.G a = none) (ho : Own K F (upd H a o') a d') : Rel K B F (upd H a o') σ (ρ.set i (.ow d')) := by
  refine ⟨by simpa using r.len, r.f0, fun b u q => ?_, fun b u q => ?_, r.nw, fun j o s e1 e2 => ?_, fun j k d1 d2 b hjk e1 e2 e3 e4 => ?_⟩
  · rw [upd_ne (ne_of_none q hg)]; exact r.g b u q
  · rw [upd_ne (ne_of_none q h0)]; exact r.fh b u q
  · rcases set_at e2 with ⟨rfl, _, rfl⟩ | ⟨n, e2⟩
    · rw [h2] at e1; cases e1
      exact ⟨a, rfl, h0, hg, ho⟩
    · have q := r.sl j o s e1 e2
      cases s with
      | un => trivial
      | im d1 => exact q
      | ow d1 =>
        obtain ⟨c, rfl, f, g, w⟩ := q
        have hca : c ≠ a := fun z => by
          subst z
          exact r.sep j i d1 d c n e2 h1 e1 h2
        refine ⟨c, rfl, f, g, ?_⟩
        cases d1 with
        | list ds =>
          obtain ⟨vs, w1, w2⟩ := w
          exact ⟨vs, by rw [upd_ne hca]; exact w1, w2⟩
        | dict ds =>
          obtain ⟨vs, w1, w2⟩ := w
          exact ⟨vs, by rw [upd_ne hca]; exact w1, w2⟩
        | _ => exact w.elim
  · have old : ∀ {j : Nat} {e : D}, (ρ.set i (.ow d'))[j]? = some (.ow e) → ∃ e', ρ[j]? = some (.ow e') := fun {j e} q => by
      rcases set_at q with ⟨rfl, _, _⟩ | ⟨_, q⟩
      · exact ⟨d, h1⟩
      · exact ⟨e, q⟩
    obtain ⟨d1', e1⟩ := old e1
    obtain ⟨d2', e2⟩ := old e2
    exact r.sep j k d1' d2' b hjk e1 e2 e3 e4
/-- an owned object is frozen -/
theorem Rel.freeze (r : Rel K B F H σ ρ) {i : Nat} {d : D} (h1 : ρ[i]? = some (.ow d)) : ∃ F' v, Same F F' ∧ σ[i]? = some (some v) ∧ Rep K F' v d ∧ Rel K B F' H σ (ρ.set i (.im d)) := by
  obtain ⟨o, e, a, rfl, f, g, w⟩ := r.at h1
  cases d with
  | list ds =>
    obtain ⟨vs, w1, w2⟩ := w
    have s1 : Same F (upd F a (.lst vs)) := same_upd f
    have hrep : Rep K (upd F a (.lst vs)) (.ref a) (.list ds) := .lst (.of upd_same) (w2.mono s1)
    refine ⟨upd F a (.lst vs), .ref a, s1, e, hrep, ⟨by simpa using r.len, r.f0.trans s1, r.g, same_upd2 r.fh w1 f, fun b q => ?_, fun j o s e1 e2 => ?_, fun j k d1 d2 b hjk e1 e2 e3 e4 => ?_⟩⟩
    · by_cases z : b = a
      · subst z; exact .inr g
      · rw [upd_ne z] at q; exact r.nw b q
    · rcases set_at e2 with ⟨rfl, _, rfl⟩ | ⟨n, e2⟩
      · rw [e] at e1; cases e1
        exact ⟨_, rfl, hrep⟩
      · have q := r.sl j o s e1 e2
        cases s with
        | un => trivial
        | im d1 => obtain ⟨v, q1, q2⟩ := q; exact ⟨v, q1, q2.mono s1⟩
        | ow d1 =>
          obtain ⟨c, rfl, f', g', w'⟩ := q
          have hca : c ≠ a := fun z => by
            subst z
            exact r.sep j i d1 _ c n e2 h1 e1 e
          exact ⟨c, rfl, by rw [upd_ne hca]; exact f', g', w'.mono s1 (.refl _)⟩
    · rcases set_at e1 with ⟨_, _, z⟩ | ⟨n1, e1⟩
      · cases z
      rcases set_at e2 with ⟨_, _, z⟩ | ⟨n2, e2⟩
      · cases z
      exact r.sep j k d1 d2 b hjk e1 e2 e3 e4
  | dict ds =>
    obtain ⟨vs, w1, w2⟩ := w
    have s1 : Same F (upd F a (.dK vs)) := same_upd f
    have hrep : Rep K (upd F a (.dK vs)) (.ref a) (.dict ds) := .dct (.of upd_same) (w2.mono s1)
    refine ⟨upd F a (.dK vs), .ref a, s1, e, hrep, ⟨by simpa using r.len, r.f0.trans s1, r.g, same_upd2 r.fh w1 f, fun b q => ?_, fun j o s e1 e2 => ?_, fun j k d1 d2 b hjk e1 e2 e3 e4 => ?_⟩⟩
    · by_cases z : b = a
      · subst z; exact .inr g
      · rw [upd_ne z] at q; exact r.nw b q
    · rcases set_at e2 with ⟨rfl, _, rfl⟩ | ⟨n, e2⟩
      · rw [e] at e1; cases e1
        exact ⟨_, rfl, hrep⟩
      · have q := r.sl j o s e1 e2
        cases s with
        | un => trivial
        | im d1 => obtain ⟨v, q1, q2⟩ := q; exact ⟨v, q1, q2.mono s1⟩
        | ow d1 =>
          obtain ⟨c, rfl, f', g', w'⟩ := q
          have hca : c ≠ a := fun z => by
            subst z
            exact r.sep j i d1 _ c n e2 h1 e1 e
          exact ⟨c, rfl, by rw [upd_ne hca]; exact f', g', w'.mono s1 (.refl _)⟩
    · rcases set_at e1 with ⟨_, _, z⟩ | ⟨n1, e1⟩
      · cases z
      rcases set_at e2 with ⟨_, _, z⟩ | ⟨n2, e2⟩
      · cases z
      exact r.sep j k d1 d2 b hjk e1 e2 e3 e4
  | _ => exact w.elim
theorem set_keep {i : Nat} {v : Option V} : ∀ j, j ∉ [i] → (σ.set i v)[j]? = σ[j]? := fun j hj => List.getElem?_set_ne fun z => hj (by rw [z]; exact List.mem_singleton.mpr rfl)
end
/-! ### assignments, return -/
section
variable {X : Cx} {m m1 : Md} {pos pos' : Pos} {e : Expr} {te : TE} {f : Rho → Option D}
def bAsg (i : Nat) (f : Rho → Option D) : Bd := fun ρ => (f ρ).bind fun d => some (.nx (ρ.set i (.im d)))
def bOwn (i : Nat) (f : Rho → Option D) : Bd := fun ρ => (f ρ).bind fun d => some (.nx (ρ.set i (.ow d)))
theorem sem_asg {K : PySem.W.Frag} {i : Nat} (h : SemE K .fz te f) : SemS K m [i] (tAsg te (gName i)) (bAsg i f) := by
  intro B F H σ ρ o D r hb q
  obtain ⟨d, h1, h2⟩ := bind_some hb
  cases h2
  exact h B F H σ ρ d _ r h1 fun v F1 H1 x1 r1 => q _ F1 H1 ((r.ext x1).setIm r1) set_keep
theorem own_ne {K : PySem.W.Frag} {B : Bs} {F H : Hp} {σ : L2.St} {ρ : Rho} (r : Rel K B F H σ ρ) {a : Addr} (h : H a = none) : ∀ (j : Nat) (e : D), ρ[j]? = some (.ow e) → σ[j]? ≠ some (some (.ref a)) := fun j e h1 h2 => by
  have q := r.sl j _ _ h2 h1
  obtain ⟨b, eb, _, _, w⟩ := q
  cases eb
  exact w.there h
theorem sem_own {K : PySem.W.Frag} {i : Nat} (h : SemE K .fr te f) : SemS K m [i] (tAsg te (gName i)) (bOwn i f) := by
  intro B F H σ ρ o D r hb q
  obtain ⟨d, h1, h2⟩ := bind_some hb
  cases h2
  refine h B F H σ ρ d _ r h1 fun v F1 H1 x1 r1 => ?_
  obtain ⟨a, rfl, h0, h3, ho⟩ := r1
  exact q _ F1 H1 ((r.ext x1).setOw h3 (r.g.free h0) ho fun j e _ e1 => own_ne r h0 j e e1) set_keep
theorem ds_asg {i : Nat} {x : Str} (he : DE X .fz e te f) (hN : X.N.Nodup) (hi : X.N[i]? = some x := by rfl) (hx : Loc X.env.scope x := by first | exact Or.inl rfl | exact Or.inr rfl) (hs : swapsWith e (some (.Name x pos')) pos.line X.env = pure false := by rfl)
    (hf : X.fn x = true ∨ X.env.scope.names.lookup x = some .local := by first | exact .inl rfl | exact .inr rfl) : DS X m [i] (.Assign [.Name x pos'] e pos) (tAsg te (gName i)) (bAsg i f) := ⟨ps_set hN hi hx he.p hs hf, sem_asg he.s⟩
theorem ds_own {i : Nat} {x : Str} (he : DE X .fr e te f) (hN : X.N.Nodup) (hi : X.N[i]? = some x := by rfl) (hx : Loc X.env.scope x := by first | exact Or.inl rfl | exact Or.inr rfl) (hs : swapsWith e (some (.Name x pos')) pos.line X.env = pure false := by rfl)
    (hf : X.fn x = true ∨ X.env.scope.names.lookup x = some .local := by first | exact .inl rfl | exact .inr rfl) : DS X m [i] (.Assign [.Name x pos'] e pos) (tAsg te (gName i)) (bOwn i f) := ⟨ps_set hN hi hx he.p hs hf, sem_own he.s⟩
/-- x = y, y an owned object: frozen from then on -/
def bMove (i j : Nat) : Bd := fun ρ => match ρ[j]? with
  | some (.im d) => some (.nx (ρ.set i (.im d)))
  | some (.ow d) => some (.nx ((ρ.set j (.im d)).set i (.im d)))
  | _ => none
theorem sem_move {K : PySem.W.Frag} {i j : Nat} : SemS K m [i] (tAsg (tVar j) (gName i)) (bMove i j) := by
  intro B F H σ ρ o D r hb q
  unfold bMove at hb
  split at hb
  · rename_i d e1
    cases hb
    obtain ⟨o, h1, v, rfl, h2⟩ := r.at e1
    exact ⟨v, h1, q _ F H (r.setIm h2) set_keep⟩
  · rename_i d e1
    cases hb
    obtain ⟨F', v, s1, h1, h2, r2⟩ := r.freeze e1
    exact ⟨v, h1, q _ F' H (r2.setIm h2) set_keep⟩
  · cases hb
theorem ds_move {i j : Nat} {x y : Str} {p : Pos} (hN : X.N.Nodup) (hi : X.N[i]? = some x := by rfl) (hx : Loc X.env.scope x := by first | exact Or.inl rfl | exact Or.inr rfl) (hs : swapsWith (.Name y p) (some (.Name x pos')) pos.line X.env = pure false := by rfl)
    (hf : X.fn x = true ∨ X.env.scope.names.lookup x = some .local := by first | exact .inl rfl | exact .inr rfl) (hj : X.N[j]? = some y := by rfl) (hv : Vis X.env.scope y := by first | exact Or.inl rfl | exact Or.inr (Or.inl rfl) | exact Or.inr (Or.inr rfl))
    (hd : (y == ("__debug__" : Str)) = false := by decide) (hcd : (y == ("__classdict__" : Str)) = false := by decide) : DS X m [i] (.Assign [.Name x pos'] (.Name y p) pos) (tAsg (tVar j) (gName i)) (bMove i j) := ⟨ps_set hN hi hx (pe_var hj hv hd hcd) hs hf, sem_move⟩
def bRet (f : Rho → Option D) : Bd := fun ρ => (f ρ).map .rt
theorem rel_rt {K : PySem.W.Frag} {B : Bs} {F H : Hp} {σ : L2.St} {ρ : Rho} {v : V} {d : D} (r : Rel K B F H σ ρ) (h : Res K m B.G F H v d) : RtOk K m B F H v d := ⟨r.f0, r.g, r.fh, r.nw, h⟩
theorem ds_ret (he : DE X m e te f) : DS X m [] (.Return (some e) pos) (tRet te) (bRet f) := ⟨ps_ret he.p, fun B F H σ ρ o D r hb q => by
  obtain ⟨d, h1, rfl⟩ := Option.map_eq_some_iff.mp hb
  exact he.s B F H σ ρ d _ r h1 fun v F1 H1 x1 r1 => q v F1 H1 (rel_rt (r.ext x1) (r1.back (F1 := F1) r.g))⟩
/-- return of an owned name: the object itself -/
def vO (i : Nat) : Rho → Option D := fun ρ => match ρ[i]? with
  | some (.ow d) => some d
  | _ => none
theorem ds_retOwn {i : Nat} {x : Str} {p : Pos} (hN : X.N[i]? = some x := by rfl) (hv : Vis X.env.scope x := by first | exact Or.inl rfl | exact Or.inr (Or.inl rfl) | exact Or.inr (Or.inr rfl)) (hd : (x == ("__debug__" : Str)) = false := by decide)
    (hcd : (x == ("__classdict__" : Str)) = false := by decide) : DS X .fr [] (.Return (some (.Name x p)) pos) (tRet (tVar i)) (bRet (vO i)) := ⟨ps_ret (pe_var hN hv hd hcd), fun B F H σ ρ o D r hb q => by
  obtain ⟨d, h1, rfl⟩ := Option.map_eq_some_iff.mp hb
  unfold vO at h1
  split at h1
  · rename_i d' e1
    cases h1
    obtain ⟨o, h1, a, rfl, h2, h3, h4⟩ := r.at e1
    exact ⟨_, h1, q _ F H (rel_rt r ⟨a, rfl, h3, h2, h4⟩)⟩
  · cases h1⟩
/-- return of a name whatever it is, frozen -/
theorem ds_retP {i : Nat} {x : Str} {p : Pos} (hN : X.N[i]? = some x := by rfl) (hv : Vis X.env.scope x := by first | exact Or.inl rfl | exact Or.inr (Or.inl rfl) | exact Or.inr (Or.inr rfl)) (hd : (x == ("__debug__" : Str)) = false := by decide)
    (hcd : (x == ("__classdict__" : Str)) = false := by decide) : DS X .fz [] (.Return (some (.Name x p)) pos) (tRet (tVar i)) (bRet (vP i)) := ⟨ps_ret (pe_var hN hv hd hcd), fun B F H σ ρ o D r hb q => by
  obtain ⟨d, h1, rfl⟩ := Option.map_eq_some_iff.mp hb
  unfold vP at h1
  split at h1
  · rename_i d' e1
    cases h1
    obtain ⟨o, h1, v, rfl, h2⟩ := r.at e1
    exact ⟨v, h1, q _ F H (rel_rt r h2)⟩
  · rename_i d' e1
    cases h1
    obtain ⟨F', v, s1, h1, h2, r2⟩ := r.freeze e1
    exact ⟨v, h1, q _ F' H (rel_rt r2 h2)⟩
  · cases h1⟩
theorem ds_retN : DS X .fz [] (.Return none pos) tRetN (fun _ => some (.rt .none)) := ⟨ps_retN, fun B F H σ ρ o D r hb q => by cases hb; exact q _ F H (rel_rt r Rep.non)⟩
end
end Q
end

/-! part: Q6 -/
section
set_option Elab.async false
set_option linter.all false
set_option maxRecDepth 100000
set_option maxHeartbeats 4000000
set_option autoImplicit false
namespace Q
open PySem PySem.Spec PySem.Calls PyProof.Rows L2
/-! ### what is walked -/
/-- a value as a datum; w: a pair made by an iterator will do -/
def RepB (w : Bool) (K : PySem.W.Frag) (F : Hp) (v : V) (d : D) : Prop := Rep K F v d ∨ (w = true ∧ ∃ a xs ds, v = .ref a ∧ d = .tuple ds ∧ SqT K F a xs ∧ RepA K F xs ds)
theorem RepB.strong {K : PySem.W.Frag} {F : Hp} {v : V} {d : D} (h : RepB false K F v d) : Rep K F v d := h.elim id fun z => nomatch z.1
/-- over data: fixed. st: what must stand besides F (none for an iterable that is frozen) -/
structure ItO (w : Bool) (K : PySem.W.Frag) (J : It) (F : Hp) (st : Hp → Prop) (ds : List D) : Prop where
  go : ∀ (i : Nat) (F' H' : Hp), i < ds.length → Same F F' → Same F' H' → st H' → J.go i H'
  yld : ∀ (i : Nat) (d : D) (F' H' : Hp) (x : V) (H3 : Hp), ds[i]? = some d → Same F F' → Same F' H' → st H' → J.yld i H' x H3 → ∃ F3, Ext F' H' F3 H3 ∧ RepB w K F3 x d
  stop : ∀ (i : Nat) (F' H' : Hp), ds.length ≤ i → Same F F' → Same F' H' → st H' → J.stop i H'
theorem ItO.weak {w : Bool} {K : PySem.W.Frag} {J : It} {F : Hp} {st : Hp → Prop} {ds : List D} (h : ItO false K J F st ds) : ItO w K J F st ds :=
  ⟨h.go, fun i d F' H' x H3 h1 h2 h3 h4 h5 => by
    obtain ⟨F3, e, r⟩ := h.yld i d F' H' x H3 h1 h2 h3 h4 h5
    exact ⟨F3, e, .inl r.strong⟩, h.stop⟩
theorem ItO.imp {w : Bool} {K : PySem.W.Frag} {J : It} {F : Hp} {st st' : Hp → Prop} {ds : List D} (h : ItO w K J F st ds) (i : ∀ H, st' H → st H) : ItO w K J F st' ds :=
  ⟨fun a b c h1 h2 h3 h4 => h.go a b c h1 h2 h3 (i _ h4), fun a d b c x y h1 h2 h3 h4 h5 => h.yld a d b c x y h1 h2 h3 (i _ h4) h5, fun a b c h1 h2 h3 h4 => h.stop a b c h1 h2 h3 (i _ h4)⟩
/-- frozen: m = fz: nothing must stand but F; m = pk: the heap as it is must be kept -/
def SemI (w : Bool) (K : PySem.W.Frag) (m : Md) (wi : TI) (f : Rho → Option (List D)) : Prop :=
  ∀ (B : Bs) (F H : Hp) (σ : L2.St) (ρ : Rho) (ds : List D) (R : It → Hp → Prop), Rel K B F H σ ρ → f ρ = some ds →
    (∀ J F' H', Ext F H F' H' → ItO w K J F' (match m with
      | .fz => fun _ => True
      | _ => fun H2 => Same H' H2) ds → R J H') → wi σ H R
structure DI (w : Bool) (X : Cx) (m : Md) (tg iter : Expr) (wi : TI) (f : Rho → Option (List D)) : Prop where
  p : PI X tg iter wi
  s : SemI w X.K m wi f
theorem DI.pk {w : Bool} {X : Cx} {m : Md} {tg iter : Expr} {wi : TI} {f : Rho → Option (List D)} (h : DI w X m tg iter wi f) : DI w X .pk tg iter wi f := ⟨h.p, fun B F H σ ρ ds R r hf q => h.s B F H σ ρ ds R r hf fun J F' H' x it => q J F' H' x (by
  cases m with
  | fz => exact it.imp fun _ _ => trivial
  | pk => exact it
  | fr => exact it)⟩
/-! a list, a tuple, a text -/
def iAny (K : PySem.W.Frag) (te : TE) : TI := fun σ H R => te σ H fun x H1 => (∃ a, x = .ref a ∧ (∃ xs, SqL K H1 a xs) ∧ R (Itl K a) H1) ∨ ((∃ a, x = .ref a ∧ (∃ xs, SqT K H1 a xs) ∧ R (Itt K a) H1) ∨ ∃ z, x = .str z ∧ R (Its z) H1)
theorem pi_any {X : Cx} {tg l : Expr} {tl : TE} (hl : PE X l tl) : PI X tg l (iAny X.K tl) := by
  refine ⟨fun pins s σ H R I h => ?_⟩
  refine thn (hl.run pins s σ H _ I h) fun v s1 ⟨x, H1, I1, r1, q1⟩ => ?_
  rcases q1 with ⟨a, e, ⟨xs, hq⟩, q⟩ | ⟨a, e, ⟨xs, hq⟩, q⟩ | ⟨z, e, q⟩
  · subst e
    cases r1
    obtain ⟨its, rv, p, hz⟩ := I1.list hq
    refine wpAny_pyIter_list p.isList ?_
    refine ⟨s1.heap.objs.size, [s1.heap.objs.size], _, _, H1, rfl, I1.kept (t' := s1.toks) fun b o e => Heap.get?_push_of_some _ e, turn_list a _, ⟨_, Heap.get?_push_size _ rfl, rfl, rfl⟩, fun b hb => ?_, q⟩
    have e : b = s1.heap.objs.size := by simpa using hb
    subst e
    exact I1.fpOk (Nat.le_refl _) (I1.hok.fresh (Nat.le_refl _))
  · subst e
    cases r1
    obtain ⟨its, rv, p, hz⟩ := I1.tuple hq
    refine wpAny_pyIter_tuple (show s1.heap.IsTuple a its.toArray from p) ?_
    refine ⟨s1.heap.objs.size, [s1.heap.objs.size], _, _, H1, rfl, I1.kept (t' := s1.toks) fun b o e => Heap.get?_push_of_some _ e, turn_tuple a _, ⟨_, Heap.get?_push_size _ rfl, rfl, rfl⟩, fun b hb => ?_, q⟩
    have e : b = s1.heap.objs.size := by simpa using hb
    subst e
    exact I1.fpOk (Nat.le_refl _) (I1.hok.fresh (Nat.le_refl _))
  · subst e
    obtain ⟨t, rfl⟩ := r1
    cases ha : z.cps.all (· < 128)
    · exact wpAny_pyIter_wide ha (pi_one (tk := s1.toks) I1 _ (turn_str _ z t "str_iterator" (.inr rfl)) ⟨_, Heap.get?_push_size _ rfl, rfl, rfl⟩ q)
    · exact wpAny_pyIter_ascii ha (pi_one (tk := s1.toks) I1 _ (turn_str _ z t "str_ascii_iterator" (.inl rfl)) ⟨_, Heap.get?_push_size _ rfl, rfl, rfl⟩ q)
def signsD (z : Str) : List D := z.cps.toList.map fun c => .str ⟨#[c]⟩
def walkD : D → Option (List D)
  | .list ds => some ds
  | .tuple ds => some ds
  | .str z => some (signsD z)
  | _ => none
def fI (f : Rho → Option D) : Rho → Option (List D) := fun ρ => (f ρ).bind walkD
theorem SqL.inj {K : PySem.W.Frag} {F H : Hp} {a : Addr} {xs ys : List V} (h : SqL K F a xs) (s : Same F H) (h' : SqL K H a ys) (nk : ∀ o, K.lookup a = some o → F a = none → True) : True := trivial
theorem sq_it {K : PySem.W.Frag} {H : Hp} {a : Addr} {xs : List V} {d : D} {ds : List D} {F : Hp} {i : Nat} (r : RepA K F xs ds) (h : ds[i]? = some d) : ∃ x, xs[i]? = some x ∧ Rep K F x d := r.get h
theorem itl_ok {K : PySem.W.Frag} {F : Hp} {a : Addr} {xs : List V} {ds : List D} {st : Hp → Prop} (hs : ∀ H, Same F H → st H → SqL K H a xs) (r : RepA K F xs ds) : ItO false K (Itl K a) F st ds :=
  ⟨fun i F' H' hi s1 s2 s3 => by
    obtain ⟨x, h1, _⟩ := r.get (List.getElem?_eq_getElem hi)
    exact ⟨xs, x, hs H' (s1.trans s2) s3, h1⟩, fun i d F' H' x H3 hd s1 s2 s3 y => by
    obtain ⟨rfl, y⟩ := y
    obtain ⟨x', h1, h2⟩ := r.get hd
    have e := y xs (hs _ (s1.trans s2) s3)
    rw [h1] at e
    cases e
    exact ⟨F', .refl s2, .inl (h2.mono s1)⟩, fun i F' H' hi s1 s2 s3 => ⟨xs, hs H' (s1.trans s2) s3, by rw [r.length]; exact hi⟩⟩
theorem itt_ok {K : PySem.W.Frag} {F : Hp} {a : Addr} {xs : List V} {ds : List D} {st : Hp → Prop} (hs : ∀ H, Same F H → st H → SqT K H a xs) (r : RepA K F xs ds) : ItO false K (Itt K a) F st ds :=
  ⟨fun i F' H' hi s1 s2 s3 => by
    obtain ⟨x, h1, _⟩ := r.get (List.getElem?_eq_getElem hi)
    exact ⟨xs, x, hs H' (s1.trans s2) s3, h1⟩, fun i d F' H' x H3 hd s1 s2 s3 y => by
    obtain ⟨rfl, y⟩ := y
    obtain ⟨x', h1, h2⟩ := r.get hd
    have e := y xs (hs _ (s1.trans s2) s3)
    rw [h1] at e
    cases e
    exact ⟨F', .refl s2, .inl (h2.mono s1)⟩, fun i F' H' hi s1 s2 s3 => ⟨xs, hs H' (s1.trans s2) s3, by rw [r.length]; exact hi⟩⟩
theorem its_ok {K : PySem.W.Frag} {F : Hp} {z : Str} {st : Hp → Prop} : ItO false K (Its z) F st (signsD z) := by
  have hl : (signsD z).length = z.cps.size := by unfold signsD; rw [List.length_map, Array.length_toList]
  refine ⟨fun i F' H' hi s1 s2 s3 => by rw [hl] at hi; exact hi, fun i d F' H' x H3 hd s1 s2 s3 y => ?_, fun i F' H' hi s1 s2 s3 => by rw [hl] at hi; exact hi⟩
  obtain ⟨rfl, c, h1, rfl⟩ := y
  have e : (signsD z)[i]? = some (.str ⟨#[c]⟩) := by
    unfold signsD
    rw [List.getElem?_map, Array.getElem?_toList, h1]
    rfl
  rw [e] at hd
  cases hd
  exact ⟨F', .refl s2, .inl (Rep.str _)⟩
theorem sem_any {K : PySem.W.Frag} {te : TE} {f : Rho → Option D} (h : SemE K .fz te f) : SemI false K .fz (iAny K te) (fI f) := by
  intro B F H σ ρ ds R rel hf q
  obtain ⟨d, h1, h2⟩ := bind_some hf
  refine h B F H σ ρ d _ rel h1 fun v F1 H1 x1 r1 => ?_
  cases d with
  | list es =>
    cases h2
    cases r1 with
    | lst hs hr => exact .inl ⟨_, rfl, ⟨_, x1.s.seq hs⟩, q _ F1 H1 x1 (itl_ok (fun H s _ => s.seq hs) hr)⟩
  | tuple es =>
    cases h2
    cases r1 with
    | tup hs hr => exact .inr (.inl ⟨_, rfl, ⟨_, (hs.mono x1.s).sq⟩, q _ F1 H1 x1 (itt_ok (fun H s _ => (hs.mono s).sq) hr)⟩)
  | str z =>
    cases h2
    cases r1 with
    | str => exact .inr (.inr ⟨z, rfl, q _ F1 H1 x1 its_ok⟩)
  | _ => cases h2
theorem sem_anyP {K : PySem.W.Frag} {te : TE} {f : Rho → Option D} {m : Md} (h : SemE K m te f) : SemI false K .pk (iAny K te) (fI f) := by
  intro B F H σ ρ ds R rel hf q
  obtain ⟨d, h1, h2⟩ := bind_some hf
  refine h B F H σ ρ d _ rel h1 fun v F1 H1 x1 r1 => ?_
  cases d with
  | list es =>
    cases h2
    obtain ⟨a, xs, rfl, hs, hr⟩ := r1.list x1.s
    exact .inl ⟨a, rfl, ⟨xs, hs⟩, q _ F1 H1 x1 (itl_ok (fun H _ s => s.seq hs) hr)⟩
  | tuple es =>
    cases h2
    obtain ⟨a, xs, rfl, hs, hr⟩ := r1.tup x1.s
    exact .inr (.inl ⟨a, rfl, ⟨xs, hs.sq⟩, q _ F1 H1 x1 (itt_ok (fun H _ s => (hs.mono s).sq) hr)⟩)
  | str z =>
    cases h2
    rw [r1.str]
    exact .inr (.inr ⟨z, rfl, q _ F1 H1 x1 its_ok⟩)
  | _ => cases h2
section
variable {X : Cx} {tg e : Expr} {te : TE} {f : Rho → Option D} {m : Md} {es : List Expr} {ta : TA} {fs : Rho → Option (List D)} {p pos : Pos}
theorem di_any (h : DE X .fz e te f) : DI false X .fz tg e (iAny X.K te) (fI f) := ⟨pi_any h.p, sem_any h.s⟩
theorem di_anyK (K' : PySem.W.Frag) (h : DE X .fz e te f) (hK : X.K = K' := by rfl) : DI false X .fz tg e (iAny K' te) (fI f) := by
  subst hK
  exact di_any (h := h)
theorem di_anyP (h : DE X m e te f) : DI false X .pk tg e (iAny X.K te) (fI f) := ⟨pi_any h.p, sem_anyP h.s⟩
theorem di_anyPK (K' : PySem.W.Frag) (h : DE X m e te f) (hK : X.K = K' := by rfl) : DI false X .pk tg e (iAny K' te) (fI f) := by
  subst hK
  exact di_anyP (h := h)
/-! ranges -/
def rgD (lo : Int) (n : Nat) : List D := (List.range n).map fun i => .int (lo + (i : Nat))
theorem rgD_at {lo : Int} {n i : Nat} {d : D} (h : (rgD lo n)[i]? = some d) : d = .int (lo + (i : Nat)) := by
  unfold rgD at h
  rw [List.getElem?_map] at h
  obtain ⟨j, h1, rfl⟩ := Option.map_eq_some_iff.mp h
  obtain ⟨h2, h3⟩ := List.getElem?_eq_some_iff.mp h1
  rw [List.getElem_range] at h3
  rw [h3]
theorem rgD_length (lo : Int) (n : Nat) : (rgD lo n).length = n := by unfold rgD; rw [List.length_map, List.length_range]
theorem itr_ok {K : PySem.W.Frag} {F : Hp} {lo : Int} {n : Nat} {st : Hp → Prop} : ItO false K (Itr lo n) F st (rgD lo n) :=
  ⟨fun i F' H' hi s1 s2 s3 => by rw [rgD_length] at hi; exact hi, fun i d F' H' x H3 hd s1 s2 s3 y => by
    obtain ⟨rfl, rfl⟩ := y
    rw [rgD_at hd]
    exact ⟨F', .refl s2, .inl (Rep.int _)⟩, fun i F' H' hi s1 s2 s3 => by rw [rgD_length] at hi; exact hi⟩
def rg1D : List D → Option (List D)
  | [.int j] => if -(2 ^ 62) ≤ j ∧ j < 2 ^ 62 then some (rgD 0 j.toNat) else none
  | _ => none
def rg2D : List D → Option (List D)
  | [.int i, .int j] => if -(2 ^ 62) ≤ i ∧ i < 2 ^ 62 ∧ -(2 ^ 62) ≤ j ∧ j < 2 ^ 62 then some (rgD i (j - i).toNat) else none
  | _ => none
def fIs (g : List D → Option (List D)) (fs : Rho → Option (List D)) : Rho → Option (List D) := fun ρ => (fs ρ).bind g
theorem sem_rg1 {K : PySem.W.Frag} (h : SemA K m ta fs) : SemI false K .fz (iRng1 ta) (fIs rg1D fs) := by
  intro B F H σ ρ ds R rel hf q
  obtain ⟨as, h1, h2⟩ := bind_some hf
  refine h B F H σ ρ as _ rel h1 fun vs F1 H1 x1 r1 => ?_
  match as, h2, r1 with
  | [.int j], h2, r1 =>
    obtain ⟨h3, rfl⟩ := if_some h2
    obtain ⟨v, rfl, rv⟩ := resA1 r1
    rw [rv.int]
    exact ⟨j, rfl, h3.1, h3.2, q _ F1 H1 x1 itr_ok⟩
theorem sem_rg2 {K : PySem.W.Frag} (h : SemA K m ta fs) : SemI false K .fz (iRng2 ta) (fIs rg2D fs) := by
  intro B F H σ ρ ds R rel hf q
  obtain ⟨as, h1, h2⟩ := bind_some hf
  refine h B F H σ ρ as _ rel h1 fun vs F1 H1 x1 r1 => ?_
  match as, h2, r1 with
  | [.int i, .int j], h2, r1 =>
    obtain ⟨h3, rfl⟩ := if_some h2
    obtain ⟨v, w, rfl, rv, rw'⟩ := resA2 r1
    rw [rv.int, rw'.int]
    exact ⟨i, j, rfl, h3, q _ F1 H1 x1 itr_ok⟩
theorem di_rg1 {a : Expr} (hg : Gl X "range") (hm : X.mg "range" = none) (ha : DA X m [a] ta fs) (hs : starEach [a] X.env = [(false, eval a X.env)] := by rfl) : DI false X .fz tg (.Call (.Name "range" p) [a] [] pos) (iRng1 ta) (fIs rg1D fs) := ⟨pi_range1 hg hm ha.p hs, sem_rg1 ha.s⟩
theorem di_rg2 {a b : Expr} (hg : Gl X "range") (hm : X.mg "range" = none) (ha : DA X m [a, b] ta fs) (hs : starEach [a, b] X.env = [(false, eval a X.env), (false, eval b X.env)] := by rfl) (hs2 : starEach [b] X.env = [(false, eval b X.env)] := by rfl) :
    DI false X .fz tg (.Call (.Name "range" p) [a, b] [] pos) (iRng2 ta) (fIs rg2D fs) := ⟨pi_range2 hg hm ha.p hs hs2, sem_rg2 ha.s⟩
/-! reversed -/
theorem rev_at {α : Type} {l : List α} {i : Nat} (h : i < l.length) : l.reverse[i]? = l[l.length - 1 - i]? := by
  rw [List.getElem?_reverse h]
theorem itv_ok {K : PySem.W.Frag} {F : Hp} {a : Addr} {xs : List V} {ds : List D} {st : Hp → Prop} (hs : ∀ H, Same F H → st H → SqL K H a xs) (r : RepA K F xs ds) : ItO false K (Itv K a xs.length) F st ds.reverse :=
  ⟨fun i F' H' hi s1 s2 s3 => by
    rw [List.length_reverse] at hi
    have hi' : i < xs.length := by rw [r.length]; exact hi
    exact ⟨hi', xs, xs[xs.length - 1 - i]'(by omega), hs H' (s1.trans s2) s3, List.getElem?_eq_getElem _⟩, fun i d F' H' x H3 hd s1 s2 s3 y => by
    obtain ⟨rfl, y⟩ := y
    have hi : i < ds.length := by have := (List.getElem?_eq_some_iff.mp hd).1; rwa [List.length_reverse] at this
    rw [rev_at hi, ← r.length] at hd
    obtain ⟨x', h1, h2⟩ := r.get hd
    have e := y xs (hs _ (s1.trans s2) s3)
    rw [h1] at e
    cases e
    exact ⟨F', .refl s2, .inl (h2.mono s1)⟩, fun i F' H' hi s1 s2 s3 => by rw [List.length_reverse, ← r.length] at hi; exact hi⟩
theorem itvT_ok {K : PySem.W.Frag} {F : Hp} {a : Addr} {xs : List V} {ds : List D} {st : Hp → Prop} (hs : ∀ H, Same F H → st H → SqT K H a xs) (r : RepA K F xs ds) : ItO false K (RT.ItvT K a xs.length) F st ds.reverse :=
  ⟨fun i F' H' hi s1 s2 s3 => by
    rw [List.length_reverse] at hi
    have hi' : i < xs.length := by rw [r.length]; exact hi
    exact ⟨hi', xs, xs[xs.length - 1 - i]'(by omega), hs H' (s1.trans s2) s3, List.getElem?_eq_getElem _⟩, fun i d F' H' x H3 hd s1 s2 s3 y => by
    obtain ⟨rfl, y⟩ := y
    have hi : i < ds.length := by have := (List.getElem?_eq_some_iff.mp hd).1; rwa [List.length_reverse] at this
    rw [rev_at hi, ← r.length] at hd
    obtain ⟨x', h1, h2⟩ := r.get hd
    have e := y xs (hs _ (s1.trans s2) s3)
    rw [h1] at e
    cases e
    exact ⟨F', .refl s2, .inl (h2.mono s1)⟩, fun i F' H' hi s1 s2 s3 => by rw [List.length_reverse, ← r.length] at hi; exact hi⟩
def revD (d : D) : Option (List D) := (itemsD d).map List.reverse
def fRev (f : Rho → Option D) : Rho → Option (List D) := fun ρ => (f ρ).bind revD
theorem sem_rev {K : PySem.W.Frag} (h : SemE K .fz te f) : SemI false K .fz (RT.iRevA K te) (fRev f) := by
  intro B F H σ ρ ds R rel hf q
  obtain ⟨d, h1, h2⟩ := bind_some hf
  obtain ⟨es, h3, rfl⟩ := Option.map_eq_some_iff.mp h2
  refine h B F H σ ρ d _ rel h1 fun v F1 H1 x1 r1 => ?_
  cases d with
  | list es =>
    cases h3
    cases r1 with
    | lst hs hr => exact ⟨_, _, rfl, .inl ⟨x1.s.seq hs, q _ F1 H1 x1 (itv_ok (fun H s _ => s.seq hs) hr)⟩⟩
  | tuple es =>
    cases h3
    cases r1 with
    | tup hs hr => exact ⟨_, _, rfl, .inr ⟨(hs.mono x1.s).sq, q _ F1 H1 x1 (itvT_ok (fun H s _ => (hs.mono s).sq) hr)⟩⟩
  | _ => cases h3
theorem di_rev (hg : Gl X "reversed") (hm : X.mg "reversed" = none) (he : DE X .fz e te f) (hs : starEach [e] X.env = (false, eval e X.env) :: starEach [] X.env := by rfl) : DI false X .fz tg (.Call (.Name "reversed" p) [e] [] pos) (RT.iRevA X.K te) (fRev f) := ⟨RT.pi_revA hg hm he.p hs, sem_rev he.s⟩
theorem di_revK (K' : PySem.W.Frag) (hg : Gl X "reversed") (hm : X.mg "reversed" = none) (he : DE X .fz e te f) (hs : starEach [e] X.env = (false, eval e X.env) :: starEach [] X.env := by rfl) (hK : X.K = K' := by rfl) : DI false X .fz tg (.Call (.Name "reversed" p) [e] [] pos) (RT.iRevA K' te) (fRev f) := by
  subst hK
  exact di_rev (hg := hg) (hm := hm) (he := he) (hs := hs)
/-! zip -/
theorem pair_ok {K : PySem.W.Frag} {F' H' : Hp} {T : Addr} {x y : V} {dx dy : D} (s2 : Same F' H') (hT : H' T = none) (hx : Rep K F' x dx) (hy : Rep K F' y dy) : ∃ F3, Ext F' H' F3 (upd H' T (.tup [x, y])) ∧ RepB true K F3 (.ref T) (.tuple [dx, dy]) := by
  have e := ext_new (o := .tup [x, y]) (Ext.refl s2) hT
  exact ⟨_, e, .inr ⟨rfl, T, [x, y], _, rfl, rfl, .of upd_same, .cons (hx.mono e.f) (.cons (hy.mono e.f) .nil)⟩⟩
def zipL : List D → List D → List D
  | d :: ds, e :: es => .tuple [d, e] :: zipL ds es
  | _, _ => []
theorem zipL_at : ∀ {ds es : List D} {i : Nat} {d : D}, (zipL ds es)[i]? = some d → ∃ x y, ds[i]? = some x ∧ es[i]? = some y ∧ d = .tuple [x, y]
  | [], _, _, _, h => by simp [zipL] at h
  | _ :: _, [], _, _, h => by simp [zipL] at h
  | x :: ds, y :: es, 0, d, h => by simp [zipL] at h; subst h; exact ⟨x, y, rfl, rfl, rfl⟩
  | x :: ds, y :: es, i + 1, d, h => by
    have h' : (zipL ds es)[i]? = some d := by simpa [zipL] using h
    obtain ⟨a, b, h1, h2, h3⟩ := zipL_at h'
    exact ⟨a, b, by simpa using h1, by simpa using h2, h3⟩
theorem zipL_length : ∀ (ds es : List D), (zipL ds es).length = min ds.length es.length
  | [], _ => by simp [zipL]
  | _ :: _, [] => by simp [zipL]
  | x :: ds, y :: es => by simp only [zipL, List.length_cons, zipL_length ds es]; omega
theorem itz_ok {K : PySem.W.Frag} {F : Hp} {a b : Addr} {xs ys : List V} {ds es : List D} {st : Hp → Prop} (hs : ∀ H, Same F H → st H → SqL K H a xs) (hs2 : ∀ H, Same F H → st H → SqL K H b ys) (r : RepA K F xs ds) (r2 : RepA K F ys es) : ItO true K (Itz K a b) F st (zipL ds es) :=
  ⟨fun i F' H' hi s1 s2 s3 => by
    obtain ⟨d, e, h1, h2, _⟩ := zipL_at (List.getElem?_eq_getElem hi)
    obtain ⟨x, h3, _⟩ := r.get h1
    obtain ⟨y, h4, _⟩ := r2.get h2
    exact ⟨xs, ys, x, y, hs H' (s1.trans s2) s3, hs2 H' (s1.trans s2) s3, h3, h4⟩, fun i d F' H' v H3 hd s1 s2 s3 yy => by
    obtain ⟨T, x, y, rfl, hT, rfl, y1, y2⟩ := yy
    obtain ⟨dx, dy, h1, h2, rfl⟩ := zipL_at hd
    obtain ⟨x', h3, h5⟩ := r.get h1
    obtain ⟨y', h4, h6⟩ := r2.get h2
    have e1 := y1 xs (hs H' (s1.trans s2) s3)
    have e2 := y2 ys (hs2 H' (s1.trans s2) s3)
    rw [h3] at e1
    rw [h4] at e2
    cases e1
    cases e2
    exact pair_ok s2 hT (h5.mono s1) (h6.mono s1), fun i F' H' hi s1 s2 s3 => by
    rw [zipL_length] at hi
    exact ⟨xs, ys, hs H' (s1.trans s2) s3, hs2 H' (s1.trans s2) s3, by rw [r.length, r2.length]; omega⟩⟩
theorem itzT_ok {K : PySem.W.Frag} {F : Hp} {a b : Addr} {xs ys : List V} {ds es : List D} {st : Hp → Prop} (hs : ∀ H, Same F H → st H → SqT K H a xs) (hs2 : ∀ H, Same F H → st H → SqT K H b ys) (r : RepA K F xs ds) (r2 : RepA K F ys es) : ItO true K (RZ.ItzT K a b) F st (zipL ds es) :=
  ⟨fun i F' H' hi s1 s2 s3 => by
    obtain ⟨d, e, h1, h2, _⟩ := zipL_at (List.getElem?_eq_getElem hi)
    obtain ⟨x, h3, _⟩ := r.get h1
    obtain ⟨y, h4, _⟩ := r2.get h2
    exact ⟨xs, ys, x, y, hs H' (s1.trans s2) s3, hs2 H' (s1.trans s2) s3, h3, h4⟩, fun i d F' H' v H3 hd s1 s2 s3 yy => by
    obtain ⟨T, x, y, rfl, hT, rfl, y1, y2⟩ := yy
    obtain ⟨dx, dy, h1, h2, rfl⟩ := zipL_at hd
    obtain ⟨x', h3, h5⟩ := r.get h1
    obtain ⟨y', h4, h6⟩ := r2.get h2
    have e1 := y1 xs (hs H' (s1.trans s2) s3)
    have e2 := y2 ys (hs2 H' (s1.trans s2) s3)
    rw [h3] at e1
    rw [h4] at e2
    cases e1
    cases e2
    exact pair_ok s2 hT (h5.mono s1) (h6.mono s1), fun i F' H' hi s1 s2 s3 => by
    rw [zipL_length] at hi
    exact ⟨xs, ys, hs H' (s1.trans s2) s3, hs2 H' (s1.trans s2) s3, by rw [r.length, r2.length]; omega⟩⟩
def zipD : List D → Option (List D)
  | [.list ds, .list es] => some (zipL ds es)
  | [.tuple ds, .tuple es] => some (zipL ds es)
  | _ => none
theorem sem_zip {K : PySem.W.Frag} (h : SemA K .fz ta fs) : SemI true K .fz (RZ.iZipA K ta) (fIs zipD fs) := by
  intro B F H σ ρ ds R rel hf q
  obtain ⟨as, h1, h2⟩ := bind_some hf
  refine h B F H σ ρ as _ rel h1 fun vs F1 H1 x1 r1 => ?_
  match as, h2, r1 with
  | [.list ds, .list es], h2, r1 =>
    cases h2
    obtain ⟨v, w, rfl, rv, rw'⟩ := resA2 r1
    cases rv with
    | lst hs hr =>
      cases rw' with
      | lst hs2 hr2 => exact ⟨_, _, _, _, rfl, .inl ⟨x1.s.seq hs, x1.s.seq hs2, q _ F1 H1 x1 (itz_ok (fun H s _ => s.seq hs) (fun H s _ => s.seq hs2) hr hr2)⟩⟩
  | [.tuple ds, .tuple es], h2, r1 =>
    cases h2
    obtain ⟨v, w, rfl, rv, rw'⟩ := resA2 r1
    cases rv with
    | tup hs hr =>
      cases rw' with
      | tup hs2 hr2 => exact ⟨_, _, _, _, rfl, .inr ⟨(hs.mono x1.s).sq, (hs2.mono x1.s).sq, q _ F1 H1 x1 (itzT_ok (fun H s _ => (hs.mono s).sq) (fun H s _ => (hs2.mono s).sq) hr hr2)⟩⟩
theorem di_zip {a b : Expr} {elts : List Expr} {kk : Nat} {tpos : Pos} (hg : Gl X "zip") (hm : X.mg "zip" = none) (ha : DA X .fz [a, b] ta fs) (hs : starEach [a, b] X.env = (false, eval a X.env) :: starEach [b] X.env := by rfl) (hpl : (backTo pos (starEach [b] X.env)).any (·.1) = false := by rfl) :
    DI true X .fz (.Tuple elts kk tpos) (.Call (.Name "zip" p) [a, b] [] pos) (RZ.iZipA X.K ta) (fIs zipD fs) := ⟨RZ.pi_zipA hg hm ha.p hs hpl, sem_zip ha.s⟩
theorem di_zipK (K' : PySem.W.Frag) {a b : Expr} {elts : List Expr} {kk : Nat} {tpos : Pos} (hg : Gl X "zip") (hm : X.mg "zip" = none) (ha : DA X .fz [a, b] ta fs) (hs : starEach [a, b] X.env = (false, eval a X.env) :: starEach [b] X.env := by rfl) (hpl : (backTo pos (starEach [b] X.env)).any (·.1) = false := by rfl) (hK : X.K = K' := by rfl) : DI true X .fz (.Tuple elts kk tpos) (.Call (.Name "zip" p) [a, b] [] pos) (RZ.iZipA K' ta) (fIs zipD fs) := by
  subst hK
  exact di_zip (hg := hg) (hm := hm) (ha := ha) (hs := hs) (hpl := hpl)
end
/-! ### targets -/
def SemG (w : Bool) (K : PySem.W.Frag) (W : List Nat) (g : TG) (s : D → Rho → Option Rho) : Prop :=
  ∀ (B : Bs) (F H : Hp) (σ : L2.St) (ρ ρ' : Rho) (v : V) (d : D) (Q : L2.St → Hp → Prop), Rel K B F H σ ρ → RepB w K F v d → s d ρ = some ρ' → (∀ σ', Rel K B F H σ' ρ' → (∀ j, j ∉ W → σ'[j]? = σ[j]?) → σ'.length = σ.length → Q σ' H) → g v σ H Q
structure DG (w : Bool) (X : Cx) (W : List Nat) (tg : Expr) (g : TG) (s : D → Rho → Option Rho) : Prop where
  p : PG X tg g
  s : SemG w X.K W g s
def SemGs (K : PySem.W.Frag) (W : List Nat) (g : TGs) (s : List D → Rho → Option Rho) : Prop :=
  ∀ (B : Bs) (F H : Hp) (σ : L2.St) (ρ ρ' : Rho) (vs : List V) (ds : List D) (Q : L2.St → Hp → Prop), Rel K B F H σ ρ → RepA K F vs ds → s ds ρ = some ρ' → (∀ σ', Rel K B F H σ' ρ' → (∀ j, j ∉ W → σ'[j]? = σ[j]?) → σ'.length = σ.length → Q σ' H) → g vs σ H Q
structure DGs (X : Cx) (W : List Nat) (tgs : List Expr) (g : TGs) (s : List D → Rho → Option Rho) : Prop where
  p : PGs X tgs g
  s : SemGs X.K W g s
def sN (i : Nat) : D → Rho → Option Rho := fun d ρ => some (ρ.set i (.im d))
def sNil : List D → Rho → Option Rho := fun ds ρ => match ds with
  | [] => some ρ
  | _ => none
def sCons (s : D → Rho → Option Rho) (ss : List D → Rho → Option Rho) : List D → Rho → Option Rho := fun ds ρ => match ds with
  | d :: ds => (s d ρ).bind (ss ds)
  | [] => none
def sT (n : Nat) (ss : List D → Rho → Option Rho) : D → Rho → Option Rho := fun d ρ => match d with
  | .tuple ds => if ds.length = n then ss ds ρ else none
  | _ => none
section
variable {X : Cx} {pos : Pos} {W W1 W2 : List Nat}
theorem dg_n {i : Nat} {x : Str} (hN : X.N.Nodup) (hi : X.N[i]? = some x := by rfl) (hx : Loc X.env.scope x := by first | exact Or.inl rfl | exact Or.inr rfl) (hf : X.fn x = true ∨ X.env.scope.names.lookup x = some .local := by first | exact .inl rfl | exact .inr rfl) : DG false X [i] (.Name x pos) (gName i) (sN i) :=
  ⟨pg_name hN hi hx hf, fun B F H σ ρ ρ' v d Q r hv hs q => by cases hs; exact q _ (r.setIm hv.strong) set_keep (by simp)⟩
theorem dgs_nil : DGs X [] [] gNil sNil := ⟨pgs_nil, fun B F H σ ρ ρ' vs ds Q r hv hs q => by
  cases hv with
  | nil => cases hs; exact ⟨rfl, q σ r (fun _ _ => rfl) rfl⟩
  | cons h t => cases hs⟩
theorem dgs_cons {e : Expr} {es : List Expr} {t : TG} {u : TGs} {s : D → Rho → Option Rho} {ss : List D → Rho → Option Rho} (h1 : DG false X W1 e t s) (h2 : DGs X W2 es u ss)
    (hs : (assignEach (e :: es) X.env).map (·.2) = assign e X.env :: (assignEach es X.env).map (·.2) := by rfl) : DGs X (W1 ++ W2) (e :: es) (gCons t u) (sCons s ss) := ⟨pgs_cons h1.p h2.p hs, fun B F H σ ρ ρ' vs ds Q r hv hs q => by
  cases hv with
  | nil => cases hs
  | @cons v vs d ds h t' =>
    obtain ⟨ρ1, e1, e2⟩ := bind_some (show (s d ρ).bind (ss ds) = some ρ' from hs)
    refine ⟨v, vs, rfl, h1.s B F H σ ρ ρ1 v d _ r (.inl h) e1 fun σ1 r1 k1 l1 => ?_⟩
    exact h2.s B F H σ1 ρ1 ρ' vs ds Q r1 t' e2 fun σ2 r2 k2 l2 => q σ2 r2 (fun j hj => (k2 j fun z => hj (List.mem_append_right _ z)).trans (k1 j fun z => hj (List.mem_append_left _ z))) (l2.trans l1)⟩
theorem dg_t {w : Bool} {es : List Expr} {k : Nat} {t : TGs} {n : Nat} {ss : List D → Rho → Option Rho} (h : DGs X W es t ss) (hc : X.calm = true := by rfl) (hn : (assignEach es X.env).length = n := by rfl) (hst : (assignEach es X.env).findIdx? (·.1) = none := by rfl) : DG w X W (.Tuple es k pos) (gTup X.K n t) (sT n ss) :=
  ⟨pg_tup hc h.p hn hst, fun B F H σ ρ ρ' v d Q r hv hs q => by
    have key : ∀ (a : Addr) (xs : List V) (ds : List D), SqT X.K H a xs → RepA X.K F xs ds → sT n ss (.tuple ds) ρ = some ρ' → gTup X.K n t (.ref a) σ H Q := fun a xs ds sq ra hs => by
      have hs' : (if ds.length = n then ss ds ρ else none) = some ρ' := hs
      by_cases hl : ds.length = n
      · rw [if_pos hl] at hs'
        exact ⟨a, xs, rfl, sq, by rw [ra.length]; exact hl, h.s B F H σ ρ ρ' xs ds Q r ra hs' q⟩
      · rw [if_neg hl] at hs'; cases hs'
    rcases hv with hv | ⟨_, a, xs, ds, rfl, rfl, sq, ra⟩
    · cases d with
      | tuple ds =>
        cases hv with
        | tup h1 h2 => exact key _ _ _ (h1.mono r.fh).sq h2 hs
      | _ => cases hs
    · exact key a xs ds (r.fh.sqT sq) ra hs⟩
theorem dg_tK (K' : PySem.W.Frag) {w : Bool} {es : List Expr} {k : Nat} {t : TGs} {n : Nat} {ss : List D → Rho → Option Rho} (h : DGs X W es t ss) (hc : X.calm = true := by rfl) (hn : (assignEach es X.env).length = n := by rfl) (hst : (assignEach es X.env).findIdx? (·.1) = none := by rfl) (hK : X.K = K' := by rfl) : DG w X W (.Tuple es k pos) (gTup K' n t) (sT n ss) := by
  subst hK
  exact dg_t (h := h) (hc := hc) (hn := hn) (hst := hst)
end
theorem Rel.rebase {K : PySem.W.Frag} {B : Bs} {F H : Hp} {σ : L2.St} {ρ : Rho} (r : Rel K B F H σ ρ) : Rel K { F0 := F, G := B.G } F H σ ρ := ⟨r.len, .refl _, r.g, r.fh, .refl, r.sl, r.sep⟩
theorem Rel.unbase {K : PySem.W.Frag} {B : Bs} {F H F' H' : Hp} {σ σ' : L2.St} {ρ ρ' : Rho} (r : Rel K B F H σ ρ) (r' : Rel K { F0 := F, G := B.G } F' H' σ' ρ') : Rel K B F' H' σ' ρ' :=
  ⟨r'.len, r.f0.trans r'.f0, r'.g, r'.fh, fun a q => (r'.nw a q).elim (r.nw a) .inr, r'.sl, r'.sep⟩
theorem Rel.unrt {K : PySem.W.Frag} {m : Md} {B : Bs} {F H F' H' : Hp} {σ : L2.St} {ρ : Rho} {v : V} {d : D} (r : Rel K B F H σ ρ) (r' : RtOk K m { F0 := F, G := B.G } F' H' v d) : RtOk K m B F' H' v d :=
  ⟨r.f0.trans r'.1, r'.2.1, r'.2.2.1, fun a q => (r'.2.2.2.1 a q).elim (r.nw a) .inr, r'.2.2.2.2⟩
/-! ### for -/
/-- the loop over data -/
def forL (step : D → Bd) : List D → Bd
  | [], ρ => some (.nx ρ)
  | d :: ds, ρ => (step d ρ).bind fun o => match o with
    | .nx ρ' => forL step ds ρ'
    | .ct ρ' => forL step ds ρ'
    | .bk ρ' => some (.nx ρ')
    | .rt d => some (.rt d)
def turnD (s : D → Rho → Option Rho) (b : Bd) : D → Bd := fun d ρ => (s d ρ).bind b
def bFor (f : Rho → Option (List D)) (s : D → Rho → Option Rho) (b : Bd) : Bd := fun ρ => (f ρ).bind fun ds => forL (turnD s b) ds ρ
theorem sem_for {w : Bool} {K : PySem.W.Frag} {m : Md} {W1 W2 : List Nat} {wi : TI} {g : TG} {tb : TS} {f : Rho → Option (List D)} {s : D → Rho → Option Rho} {b : Bd} (hi : SemI w K .fz wi f) (hg : SemG w K W1 g s) (hb : SemS K m W2 tb b) : SemS K m (W1 ++ W2) (tFor wi g tb) (bFor f s b) := by
  intro B F H σ ρ o D r hf e
  obtain ⟨ds, h1, h2⟩ := bind_some hf
  refine hi B F H σ ρ ds _ r h1 fun J F1 H1 x1 it => ?_
  refine ⟨fun i m σ' H' => m = ds.length - i ∧ i ≤ ds.length ∧ ∃ F' ρ', Rel K B F' H' σ' ρ' ∧ Same F1 F' ∧ (∀ j, j ∉ W1 ++ W2 → σ'[j]? = σ[j]?) ∧ forL (turnD s b) (ds.drop i) ρ' = some o, ⟨ds.length, by simp, Nat.zero_le _, F1, ρ, r.ext x1, .refl _, fun _ _ => rfl, by simpa using h2⟩, ?_⟩
  rintro i mm σ1 H2 ⟨rfl, hil, F2, ρ2, r2, s2, k2, hf2⟩
  by_cases hlt : i < ds.length
  · rw [List.drop_eq_getElem_cons hlt] at hf2
    obtain ⟨o1, e1, e2⟩ := bind_some (show (turnD s b ds[i] ρ2).bind _ = some o from hf2)
    obtain ⟨ρ3, e3, e4⟩ := bind_some (show (s ds[i] ρ2).bind b = some o1 from e1)
    refine .inr ⟨it.go i F2 H2 hlt s2 r2.fh trivial, fun σ' H' => i + 1 ≤ ds.length ∧ ∃ F' ρ', Rel K B F' H' σ' ρ' ∧ Same F1 F' ∧ (∀ j, j ∉ W1 ++ W2 → σ'[j]? = σ[j]?) ∧ forL (turnD s b) (ds.drop (i + 1)) ρ' = some o, fun σ' H' hn => ⟨ds.length - (i + 1), by omega, rfl, hn⟩, fun x H3 y => ?_⟩
    obtain ⟨F3, x3, rb⟩ := it.yld i ds[i] F2 H2 x H3 (List.getElem?_eq_getElem hlt) s2 r2.fh trivial y
    refine hg B F3 H3 σ1 ρ2 ρ3 x ds[i] _ (r2.ext x3) rb e3 fun σ3 r3 k3 _ => ?_
    have k13 : ∀ j, j ∉ W1 ++ W2 → σ3[j]? = σ[j]? := fun j hj => (k3 j fun z => hj (List.mem_append_left _ z)).trans (k2 j hj)
    have s3 : Same F1 F3 := s2.trans x3.f
    have key : ∀ {σ4 : L2.St}, (∀ j, j ∉ W2 → σ4[j]? = σ3[j]?) → ∀ j, j ∉ W1 ++ W2 → σ4[j]? = σ[j]? := fun k4 j hj => (k4 j fun z => hj (List.mem_append_right _ z)).trans (k13 j hj)
    -- the body, with the frozen part remembered
    refine hb { F0 := F3, G := B.G } F3 H3 σ3 ρ3 o1 _ r3.rebase e4 ?_
    cases o1 with
    | nx ρ4 => exact fun σ4 F4 H4 r4 k4 => ⟨hlt, F4, ρ4, r3.unbase r4, s3.trans r4.f0, key k4, e2⟩
    | ct ρ4 => exact fun σ4 F4 H4 r4 k4 => ⟨hlt, F4, ρ4, r3.unbase r4, s3.trans r4.f0, key k4, e2⟩
    | bk ρ4 => cases e2; exact fun σ4 F4 H4 r4 k4 => e σ4 F4 H4 (r3.unbase r4) (key k4)
    | rt d => cases e2; exact fun v F4 H4 r4 => e v F4 H4 (r3.unrt r4)
  · have ei : i = ds.length := by omega
    subst ei
    rw [List.drop_length] at hf2
    cases hf2
    exact .inl ⟨it.stop _ F2 H2 (Nat.le_refl _) s2 r2.fh trivial, e σ1 F2 H2 r2 k2⟩
section
variable {X : Cx} {m : Md} {W W1 W2 : List Nat} {pos : Pos} {w : Bool}
theorem ds_for {tg iter : Expr} {body : List Stmt} {wi : TI} {g : TG} {tb : TS} {f : Rho → Option (List D)} {s : D → Rho → Option Rho} {b : Bd} (hi : DI w X .fz tg iter wi f) (hg : DG w X W1 tg g s) (hb : DSs X m W2 body tb b)
    (hp : PassesOwn (model X.prog X.w) X.A X.env X.xe := by exact PassesOwn.never) (hc : X.calm = true := by rfl) (hs : ∀ x, foldedSetIterable iter X.env x = pure x := by intro _; rfl) : DS X m (W1 ++ W2) (.For tg iter body [] pos) (tFor wi g tb) (bFor f s b) :=
  ⟨ps_for hp hc hi.p hg.p hb.p hs, sem_for hi.s hg.s hb.s⟩
/-! over an owned list that the body may lengthen but not rebind -/
def forG (j : Nat) (step : D → Bd) : Nat → Nat → Bd
  | 0, _, _ => none
  | n + 1, i, ρ => match ρ[j]? with
    | some (.ow (.list ds)) => match ds[i]? with
      | none => some (.nx ρ)
      | some d => (step d ρ).bind fun o => match o with
        | .nx ρ' => forG j step n (i + 1) ρ'
        | .ct ρ' => forG j step n (i + 1) ρ'
        | .bk ρ' => some (.nx ρ')
        | .rt d => some (.rt d)
    | _ => none
def bForG (N j : Nat) (s : D → Rho → Option Rho) (b : Bd) : Bd := fun ρ => forG j (turnD s b) N 0 ρ
theorem sem_forG {K : PySem.W.Frag} {N j : Nat} {g : TG} {tb : TS} {s : D → Rho → Option Rho} {b : Bd} (hg : SemG false K W1 g s) (hb : SemS K m W2 tb b) (h1 : j ∉ W1) (h2 : j ∉ W2) : SemS K m (W1 ++ W2) (tFor (iList K (tVar j)) g tb) (bForG N j s b) := by
  intro B F H σ ρ o D r hf e
  obtain ⟨a, ha⟩ : ∃ a, ∃ ds, ρ[j]? = some (.ow (.list ds)) ∧ σ[j]? = some (some (.ref a)) := by
    cases N with
    | zero => cases hf
    | succ N =>
      have hf' : (match ρ[j]? with
        | some (.ow (.list ds)) => match ds[0]? with
          | none => some (.nx ρ)
          | some d => (turnD s b d ρ).bind fun o => match o with
            | .nx ρ' => forG j (turnD s b) N (0 + 1) ρ'
            | .ct ρ' => forG j (turnD s b) N (0 + 1) ρ'
            | .bk ρ' => some (.nx ρ')
            | .rt d => some (.rt d)
        | _ => none) = some o := hf
      split at hf'
      · rename_i ds e1
        obtain ⟨oo, e2, c, rfl, _⟩ := r.at e1
        exact ⟨c, ds, e1, e2⟩
      · cases hf'
  obtain ⟨ds0, e0, eσ⟩ := ha
  have lst : ∀ {B' : Bs} {F' H' : Hp} {σ' : L2.St} {ρ' : Rho} {ds : List PyData}, Rel K B' F' H' σ' ρ' → σ'[j]? = some (some (.ref a)) → ρ'[j]? = some (.ow (.list ds)) → ∃ vs, H' a = some (.lst vs) ∧ RepA K F' vs ds := fun r' eσ' e' => by
    obtain ⟨oo, e2, c, rfl, _, _, w⟩ := r'.at e'
    rw [eσ'] at e2
    cases e2
    exact w
  refine ⟨_, eσ, a, rfl, ?_, ?_⟩
  · obtain ⟨vs, h, _⟩ := lst r eσ e0
    exact ⟨vs, .of h⟩
  refine ⟨fun i mm σ' H' => ∃ F' ρ', Rel K B F' H' σ' ρ' ∧ (∀ l, l ∉ W1 ++ W2 → σ'[l]? = σ[l]?) ∧ forG j (turnD s b) mm i ρ' = some o, ⟨N, F, ρ, r, fun _ _ => rfl, hf⟩, ?_⟩
  rintro i mm σ1 H2 ⟨F2, ρ2, r2, k2, hf2⟩
  have jW : j ∉ W1 ++ W2 := fun z => (List.mem_append.mp z).elim h1 h2
  have eσ1 : σ1[j]? = some (some (.ref a)) := (k2 j jW).trans eσ
  cases mm with
  | zero => cases hf2
  | succ mm =>
    have hf' : (match ρ2[j]? with
      | some (.ow (.list ds)) => match ds[i]? with
        | none => some (.nx ρ2)
        | some d => (turnD s b d ρ2).bind fun o => match o with
          | .nx ρ' => forG j (turnD s b) mm (i + 1) ρ'
          | .ct ρ' => forG j (turnD s b) mm (i + 1) ρ'
          | .bk ρ' => some (.nx ρ')
          | .rt d => some (.rt d)
      | _ => none) = some o := hf2
    split at hf'
    · rename_i ds e1
      obtain ⟨vs, hv, rv⟩ := lst r2 eσ1 e1
      cases e3 : ds[i]? with
      | none =>
        rw [e3] at hf'
        cases hf'
        refine .inl ⟨⟨vs, .of hv, ?_⟩, e σ1 F2 H2 r2 k2⟩
        rw [rv.length]
        exact List.getElem?_eq_none_iff.mp e3
      | some d =>
        rw [e3] at hf'
        obtain ⟨o1, e4, e5⟩ := bind_some hf'
        obtain ⟨ρ3, e6, e7⟩ := bind_some (show (s d ρ2).bind b = some o1 from e4)
        obtain ⟨x, hx, rx⟩ := rv.get e3
        refine .inr ⟨⟨vs, x, .of hv, hx⟩, fun σ' H' => ∃ F' ρ', Rel K B F' H' σ' ρ' ∧ (∀ l, l ∉ W1 ++ W2 → σ'[l]? = σ[l]?) ∧ forG j (turnD s b) mm (i + 1) ρ' = some o, fun σ' H' hn => ⟨mm, Nat.lt_succ_self mm, hn⟩, fun y H3 yy => ?_⟩
        obtain ⟨rfl, yy⟩ := yy
        have ey := yy vs (.of hv)
        rw [hx] at ey
        cases ey
        refine hg B F2 _ σ1 ρ2 ρ3 x d _ r2 (.inl rx) e6 fun σ3 r3 k3 _ => ?_
        have k13 : ∀ l, l ∉ W1 ++ W2 → σ3[l]? = σ[l]? := fun l hl => (k3 l fun z => hl (List.mem_append_left _ z)).trans (k2 l hl)
        have key : ∀ {σ4 : L2.St}, (∀ l, l ∉ W2 → σ4[l]? = σ3[l]?) → ∀ l, l ∉ W1 ++ W2 → σ4[l]? = σ[l]? := fun k4 l hl => (k4 l fun z => hl (List.mem_append_right _ z)).trans (k13 l hl)
        refine hb B F2 _ σ3 ρ3 o1 _ r3 e7 ?_
        cases o1 with
        | nx ρ4 => exact fun σ4 F4 H4 r4 k4 => ⟨F4, ρ4, r4, key k4, e5⟩
        | ct ρ4 => exact fun σ4 F4 H4 r4 k4 => ⟨F4, ρ4, r4, key k4, e5⟩
        | bk ρ4 => cases e5; exact fun σ4 F4 H4 r4 k4 => e σ4 F4 H4 r4 (key k4)
        | rt d => cases e5; exact fun v F4 H4 r4 => e v F4 H4 r4
    · cases hf'
theorem ds_forG {N j : Nat} {x : Str} {tg : Expr} {p : Pos} {body : List Stmt} {g : TG} {tb : TS} {s : D → Rho → Option Rho} {b : Bd} (hg : DG false X W1 tg g s) (hb : DSs X m W2 body tb b) (h1 : j ∉ W1) (h2 : j ∉ W2)
    (hj : X.N[j]? = some x := by rfl) (hv : Vis X.env.scope x := by first | exact Or.inl rfl | exact Or.inr (Or.inl rfl) | exact Or.inr (Or.inr rfl)) (hd : (x == ("__debug__" : Str)) = false := by decide) (hcd : (x == ("__classdict__" : Str)) = false := by decide)
    (hp : PassesOwn (model X.prog X.w) X.A X.env X.xe := by exact PassesOwn.never) (hc : X.calm = true := by rfl) (hs : ∀ x', foldedSetIterable (.Name x p) X.env x' = pure x' := by intro _; rfl) : DS X m (W1 ++ W2) (.For tg (.Name x p) body [] pos) (tFor (iList X.K (tVar j)) g tb) (bForG N j s b) :=
  ⟨ps_for hp hc (pi_list (pe_var hj hv hd hcd)) hg.p hb.p hs, sem_forG hg.s hb.s h1 h2⟩
/-! ### while -/
def whileL (c : Rho → Option Bool) (b : Bd) : Nat → Bd
  | 0, _ => none
  | n + 1, ρ => (c ρ).bind fun k => if k = true then (b ρ).bind fun o => match o with
      | .nx ρ' => whileL c b n ρ'
      | .ct ρ' => whileL c b n ρ'
      | .bk ρ' => some (.nx ρ')
      | .rt d => some (.rt d)
    else some (.nx ρ)
theorem sem_while {K : PySem.W.Frag} {N : Nat} {c : TT} {tb : TS} {fc : Rho → Option Bool} {b : Bd} (hc : SemT K c fc) (hb : SemS K m W tb b) : SemS K m W (tWhile c tb) (whileL fc b N) := by
  intro B F H σ ρ o D r hf e
  refine ⟨fun mm σ' H' => ∃ F' ρ', Rel K B F' H' σ' ρ' ∧ (∀ l, l ∉ W → σ'[l]? = σ[l]?) ∧ whileL fc b mm ρ' = some o, ⟨N, F, ρ, r, fun _ _ => rfl, hf⟩, ?_⟩
  rintro mm σ1 H2 ⟨F2, ρ2, r2, k2, hf2⟩
  cases mm with
  | zero => cases hf2
  | succ mm =>
    obtain ⟨k, e1, e2⟩ := bind_some hf2
    refine hc B F2 H2 σ1 ρ2 k _ r2 e1 fun F3 H3 x3 => ?_
    cases k with
    | false =>
      cases e2
      exact e σ1 F3 H3 (r2.ext x3) k2
    | true =>
      obtain ⟨o1, e3, e4⟩ := bind_some e2
      refine ⟨fun σ' H' => ∃ F' ρ', Rel K B F' H' σ' ρ' ∧ (∀ l, l ∉ W → σ'[l]? = σ[l]?) ∧ whileL fc b mm ρ' = some o, fun σ' H' hn => ⟨mm, Nat.lt_succ_self mm, hn⟩, ?_⟩
      have key : ∀ {σ4 : L2.St}, (∀ l, l ∉ W → σ4[l]? = σ1[l]?) → ∀ l, l ∉ W → σ4[l]? = σ[l]? := fun k4 l hl => (k4 l hl).trans (k2 l hl)
      refine hb B F3 H3 σ1 ρ2 o1 _ (r2.ext x3) e3 ?_
      cases o1 with
      | nx ρ4 => exact fun σ4 F4 H4 r4 k4 => ⟨F4, ρ4, r4, key k4, e4⟩
      | ct ρ4 => exact fun σ4 F4 H4 r4 k4 => ⟨F4, ρ4, r4, key k4, e4⟩
      | bk ρ4 => cases e4; exact fun σ4 F4 H4 r4 k4 => e σ4 F4 H4 r4 (key k4)
      | rt d => cases e4; exact fun v F4 H4 r4 => e v F4 H4 r4
theorem ds_while {N : Nat} {c : Expr} {body : List Stmt} {tc : TT} {tb : TS} {fc : Rho → Option Bool} {b : Bd} (hc : DT X c tc fc) (hb : DSs X m W body tb b) (hp : PassesOwn (model X.prog X.w) X.A X.env X.xe := by exact PassesOwn.never) : DS X m W (.While c body [] pos) (tWhile tc tb) (whileL fc b N) :=
  ⟨ps_while hp hc.p hb.p, sem_while hc.s hb.s⟩
end
end Q
end

/-! part: Q7 -/
section
set_option Elab.async false
set_option linter.all false
set_option maxRecDepth 100000
set_option maxHeartbeats 4000000
set_option autoImplicit false
namespace Q
open PySem PySem.Spec PySem.Calls PyProof.Rows L2
/-! ### comprehensions -/
theorem wipe_at (σ : L2.St) (j : Nat) : ∀ vs : List Nat, (wipe σ vs)[j]? = if j ∈ vs then (if j < σ.length then some none else none) else σ[j]?
  | [] => by simp [wipe]
  | v :: vs => by
    unfold wipe
    by_cases e : j = v
    · subst e
      by_cases hl : j < σ.length
      · rw [List.getElem?_set_self (by rw [wipe_length]; exact hl)]
        simp [hl]
      · rw [List.getElem?_eq_none (by simp only [List.length_set, wipe_length]; omega)]
        simp [hl]
    · rw [List.getElem?_set_ne (Ne.symm e), wipe_at σ j vs]
      simp [e]
theorem wipe_back {σ σ2 : L2.St} {vs : List Nat} (hl : σ2.length = σ.length) (h : ∀ j, j ∉ vs → σ2[j]? = (wipe σ vs)[j]?) : wipe σ2 vs = wipe σ vs := by
  apply List.ext_getElem?
  intro j
  rw [wipe_at σ2, wipe_at σ, hl]
  by_cases hj : j ∈ vs
  · simp [hj]
  · simp only [hj, if_false]
    rw [h j hj, wipe_at σ]
    simp [hj]
def wipeR (ρ : Rho) : List Nat → Rho
  | [] => ρ
  | v :: vs => (wipeR ρ vs).set v .un
theorem Rel.setUn {K : PySem.W.Frag} {B : Bs} {F H : Hp} {σ : L2.St} {ρ : Rho} (r : Rel K B F H σ ρ) {i : Nat} {o : Option V} : Rel K B F H (σ.set i o) (ρ.set i .un) := by
  refine ⟨by simpa using r.len, r.f0, r.g, r.fh, r.nw, fun j o s h1 h2 => ?_, fun j k d1 d2 a hjk h1 h2 h3 h4 => ?_⟩
  · rcases set_at h2 with ⟨rfl, _, rfl⟩ | ⟨n2, h2⟩
    · trivial
    · rcases set_at h1 with ⟨e, _, _⟩ | ⟨_, h1⟩
      · exact absurd e n2
      · exact r.sl j o s h1 h2
  · rcases set_at h1 with ⟨_, _, e⟩ | ⟨n1, h1⟩
    · cases e
    rcases set_at h2 with ⟨_, _, e⟩ | ⟨n2, h2⟩
    · cases e
    rw [List.getElem?_set_ne (Ne.symm n1)] at h3
    rw [List.getElem?_set_ne (Ne.symm n2)] at h4
    exact r.sep j k d1 d2 a hjk h1 h2 h3 h4
theorem Rel.wiped {K : PySem.W.Frag} {B : Bs} {F H : Hp} {σ : L2.St} {ρ : Rho} (r : Rel K B F H σ ρ) : ∀ vs : List Nat, Rel K B F H (wipe σ vs) (wipeR ρ vs)
  | [] => r
  | v :: vs => (Rel.wiped r vs).setUn
/-- another object changes -/
theorem Rel.other {K : PySem.W.Frag} {B : Bs} {F H : Hp} {σ : L2.St} {ρ : Rho} (r : Rel K B F H σ ρ) {a : Addr} {o : HO} (hf : F a = none) (hg : B.G a = none) (hn : ∀ (j : Nat) (e : D), ρ[j]? = some (.ow e) → σ[j]? ≠ some (some (.ref a))) : Rel K B F (upd H a o) σ ρ := by
  refine ⟨r.len, r.f0, fun b u q => ?_, fun b u q => ?_, r.nw, fun j oo s h1 h2 => ?_, r.sep⟩
  · rw [upd_ne (ne_of_none q hg)]; exact r.g b u q
  · rw [upd_ne (ne_of_none q hf)]; exact r.fh b u q
  · have q := r.sl j oo s h1 h2
    cases s with
    | un => trivial
    | im d => exact q
    | ow d =>
      obtain ⟨c, rfl, f, g, w⟩ := q
      have hca : c ≠ a := fun z => by subst z; exact hn j d h2 h1
      refine ⟨c, rfl, f, g, ?_⟩
      cases d with
      | list ds =>
        obtain ⟨vs, w1, w2⟩ := w
        exact ⟨vs, by rw [upd_ne hca]; exact w1, w2⟩
      | dict ds =>
        obtain ⟨vs, w1, w2⟩ := w
        exact ⟨vs, by rw [upd_ne hca]; exact w1, w2⟩
      | _ => exact w.elim
def lcL (tt : D → Option Bool) (te : D → Option D) : List D → Option (List D)
  | [] => some []
  | d :: ds => (tt d).bind fun b => if b = true then (te d).bind fun y => (lcL tt te ds).map (y :: ·) else lcL tt te ds
def fLc (f : Rho → Option (List D)) (s : D → Rho → Option Rho) (ft : Rho → Option Bool) (fe : Rho → Option D) (vs : List Nat) : Rho → Option D := fun ρ => (f ρ).bind fun ds =>
  (lcL (fun d => (s d (wipeR ρ vs)).bind ft) (fun d => (s d (wipeR ρ vs)).bind fe) ds).bind fun rs => if rs.length ≤ sizeLine then some (.list rs) else none
theorem sem_lc {w : Bool} {K : PySem.W.Frag} {W1 vs : List Nat} {wi : TI} {g : TG} {tt : TT} {te : TE} {f : Rho → Option (List D)} {s : D → Rho → Option Rho} {ft : Rho → Option Bool} {fe : Rho → Option D} (hi : SemI w K .pk wi f) (hg : SemG w K W1 g s) (ht : SemT K tt ft) (he : SemE K .fz te fe) (hW : ∀ j ∈ W1, j ∈ vs) :
    SemE K .fr (tLc wi g tt te vs) (fLc f s ft fe vs) := by
  intro B F H σ ρ z Q rel hf q
  obtain ⟨ds, h1, h2⟩ := bind_some hf
  obtain ⟨rs, h3, h4⟩ := bind_some h2
  obtain ⟨h5, rfl⟩ := if_some h4
  refine hi B F H σ ρ ds _ rel h1 fun J F1 H1 x1 it => ?_
  intro L hL
  have r1 := (rel.ext x1).wiped vs
  have gL : B.G L = none := (rel.ext x1).g.free hL
  have nL : ∀ (j : Nat) (e : D), (wipeR ρ vs)[j]? = some (.ow e) → (wipe σ vs)[j]? ≠ some (some (.ref L)) := own_ne r1 hL
  refine ⟨fun i m H' => m = ds.length - i ∧ i ≤ ds.length ∧ ∃ F' acc rr r2, Rel K B F' H' (wipe σ vs) (wipeR ρ vs) ∧ Same F1 F' ∧ Same H1 H' ∧ New F1 F' H1 ∧ F' L = none ∧ H' L = some (.lst acc) ∧ RepA K F' acc rr ∧
    lcL (fun d => (s d (wipeR ρ vs)).bind ft) (fun d => (s d (wipeR ρ vs)).bind fe) (ds.drop i) = some r2 ∧ rs = rr ++ r2,
    ⟨ds.length, by simp, Nat.zero_le _, F1, [], [], rs, r1.other (x1.s.free hL) gL nL, .refl _, same_upd hL, .refl, x1.s.free hL, upd_same, .nil, by simpa using h3, rfl⟩, ?_⟩
  rintro i m H2 ⟨rfl, hil, F2, acc, rr, r2, rel2, f2, s2, n2, fL, hH, ra, hl, hrs⟩
  by_cases hlt : i < ds.length
  · rw [List.drop_eq_getElem_cons hlt] at hl
    obtain ⟨b, e1, e2⟩ := bind_some (show ((s ds[i] (wipeR ρ vs)).bind ft).bind _ = some r2 from hl)
    obtain ⟨ρ3, e3, e4⟩ := bind_some e1
    refine .inr ⟨it.go i F2 H2 hlt f2 rel2.fh s2, fun H' => i + 1 ≤ ds.length ∧ ∃ F' acc rr r2, Rel K B F' H' (wipe σ vs) (wipeR ρ vs) ∧ Same F1 F' ∧ Same H1 H' ∧ New F1 F' H1 ∧ F' L = none ∧ H' L = some (.lst acc) ∧ RepA K F' acc rr ∧
      lcL (fun d => (s d (wipeR ρ vs)).bind ft) (fun d => (s d (wipeR ρ vs)).bind fe) (ds.drop (i + 1)) = some r2 ∧ rs = rr ++ r2, fun H' hn => ⟨ds.length - (i + 1), by omega, rfl, hn⟩, fun x H3 y => ?_⟩
    obtain ⟨F3, x3, rb⟩ := it.yld i ds[i] F2 H2 x H3 (List.getElem?_eq_getElem hlt) f2 rel2.fh s2 y
    refine hg B F3 H3 (wipe σ vs) (wipeR ρ vs) ρ3 x ds[i] _ (rel2.ext x3) rb e3 fun σ3 r3 k3 l3 => ?_
    refine ⟨wipe_back (l3.trans (wipe_length σ vs)) fun j hj => k3 j fun z => hj (hW j z), ?_⟩
    refine ht B F3 H3 σ3 ρ3 b _ r3 e4 fun F4 H4 x4 => ?_
    have x34 := x3.trans x4
    -- the state behind the turn
    have back : ∀ {F5 H5 : Hp}, Ext F2 H2 F5 H5 → Rel K B F5 H5 (wipe σ vs) (wipeR ρ vs) ∧ Same F1 F5 ∧ Same H1 H5 ∧ New F1 F5 H1 ∧ F5 L = none ∧ H5 L = some (.lst acc) := fun {F5 H5} x => by
      refine ⟨rel2.ext x, f2.trans x.f, s2.trans x.h, fun a h => ?_, x.keepNone fL (by rw [hH]; exact fun z => nomatch z), x.h _ _ hH⟩
      exact (x.n a h).elim (n2 a) fun z => .inr (s2.free z)
    cases b with
    | false =>
      obtain ⟨a1, a2, a3, a4, a5, a6⟩ := back x34
      exact ⟨hlt, F4, acc, rr, r2, a1, a2, a3, a4, a5, a6, ra.mono x34.f, e2, hrs⟩
    | true =>
      obtain ⟨y0, e5, e6⟩ := bind_some (show ((s ds[i] (wipeR ρ vs)).bind fe).bind _ = some r2 from e2)
      obtain ⟨ρ4, e7, e8⟩ := bind_some e5
      rw [e3] at e7
      cases e7
      obtain ⟨r5, e9, rfl⟩ := Option.map_eq_some_iff.mp e6
      show te σ3 H4 _
      refine he B F4 H4 σ3 ρ3 y0 _ (r3.ext x4) e8 fun v F5 H5 x5 rv => ?_
      have x35 := x34.trans x5
      obtain ⟨a1, a2, a3, a4, a5, a6⟩ := back x35
      have hlen : acc.length < sizeLine := by
        have h6 : rs.length = rr.length + (r5.length + 1) := by rw [hrs]; simp
        have h7 := ra.length
        omega
      refine ⟨acc, a6, hlen, hlt, F5, acc ++ [v], rr ++ [y0], r5, a1.other a5 gL nL, a2, fun c u hc => ?_, a4, a5, upd_same, (ra.mono x35.f).append (.cons rv .nil), e9, by rw [hrs]; simp⟩
      rw [upd_ne (ne_of_none hc hL)]
      exact a3 _ _ hc
  · have ei : i = ds.length := by omega
    subst ei
    rw [List.drop_length] at hl
    cases hl
    rw [List.append_nil] at hrs
    subst hrs
    refine .inl ⟨it.stop _ F2 H2 (Nat.le_refl _) f2 rel2.fh s2, q _ F2 H2 ⟨x1.f.trans f2, x1.h.trans s2, fun a h => ?_, rel2.fh⟩ ⟨L, rfl, x1.h.free hL, fL, acc, hH, ra⟩⟩
    exact (n2 a h).elim (x1.n a) fun z => .inr (x1.h.free z)
section
variable {X : Cx} {m : Md} {W1 : List Nat} {pos : Pos} {w : Bool}
structure DTs (X : Cx) (ifs : List Expr) (t : TT) (f : Rho → Option Bool) : Prop where
  p : PTs X ifs t
  s : SemT X.K t f
def fYes : Rho → Option Bool := fun _ => some true
theorem dts_nil : DTs X [] tYes fYes := ⟨pts_nil, fun B F H σ ρ b Q r hf q => by cases hf; exact q F H (.refl r.fh)⟩
theorem dts_one {c : Expr} {t : TT} {f : Rho → Option Bool} (h : DT X c t f) : DTs X [c] t f := ⟨pts_one h.p, h.s⟩
variable {elt tg iter : Expr} {ifs : List Expr} {scope : Scope} {own : List (Str × Nat)} {wi : TI} {g : TG} {tt : TT} {te : TE} {f : Rho → Option (List D)} {s : D → Rho → Option Rho} {ft : Rho → Option Bool} {fe : Rho → Option D}
theorem de_lc {vs : List Nat} (own : List (Str × Nat)) (hN : X.N.Nodup) (hi : DI w X m tg iter wi f) (ok : blkC X.N X.env.scope scope own = true)
    (hg : ∀ (s' : Shared) (H : Hp) (C : Addr) (cl : List (Str × Addr)) (fp : List Addr), DG w (X.blk s' H scope (compEnvC scope cl C X.env) fp) W1 tg g s) (ht : ∀ (s : Shared) (H : Hp) (C : Addr) (cl : List (Str × Addr)) (fp : List Addr), DTs (X.blk s H scope (compEnvC scope cl C X.env) fp) ifs tt ft)
    (he : ∀ (s : Shared) (H : Hp) (C : Addr) (cl : List (Str × Addr)) (fp : List Addr), DE (X.blk s H scope (compEnvC scope cl C X.env) fp) .fz elt te fe) (hW : ∀ j ∈ W1, j ∈ vs) (hc : X.calm = true := by rfl) (hs : ∀ x, foldedSetIterable iter X.env x = pure x := by intro _; rfl) (hvs : own.map (·.2) = vs := by rfl) :
    DE X .fr (.ListComp elt [⟨tg, iter, ifs, 0⟩] scope pos) (tLc wi g tt te (vs)) (fLc f s ft fe (vs)) := by
  subst hvs
  exact
  ⟨pe_lc hc hN hi.p (blkOk_by ok) (fun s H C cl fp => (hg s H C cl fp).p) (fun s H C cl fp => (ht s H C cl fp).p) (fun s H C cl fp => (he s H C cl fp).p) hs,
    sem_lc hi.pk.s (hg X.s_0 (fun _ => none) 0 [] []).s (ht X.s_0 (fun _ => none) 0 [] []).s (he X.s_0 (fun _ => none) 0 [] []).s hW⟩
/-- name = [..], the name a local on the same line -/
theorem ds_asgLc {m1 : Md} {vs : List Nat} {i : Nat} {y : Str} {py spos : Pos} (own : List (Str × Nat)) (hN : X.N.Nodup) (hi : DI w X m tg iter wi f) (ok : blkC X.N X.env.scope scope own = true)
    (hg : ∀ (s' : Shared) (H : Hp) (C : Addr) (cl : List (Str × Addr)) (fp : List Addr), DG w (X.blk s' H scope (compEnvC scope cl C X.env) fp) W1 tg g s) (ht : ∀ (s : Shared) (H : Hp) (C : Addr) (cl : List (Str × Addr)) (fp : List Addr), DTs (X.blk s H scope (compEnvC scope cl C X.env) fp) ifs tt ft)
    (he : ∀ (s : Shared) (H : Hp) (C : Addr) (cl : List (Str × Addr)) (fp : List Addr), DE (X.blk s H scope (compEnvC scope cl C X.env) fp) .fz elt te fe) (hW : ∀ j ∈ W1, j ∈ vs) (hsw : swapsWith (.ListComp elt [⟨tg, iter, ifs, 0⟩] scope pos) (some (.Name y py)) spos.line X.env = pure true)
    (hy : X.N[i]? = some y := by rfl) (hyl : X.env.scope.names.lookup y = some .local := by rfl) (hc : X.calm = true := by rfl) (hs : ∀ x, foldedSetIterable iter X.env x = pure x := by intro _; rfl) (hvs : own.map (·.2) = vs := by rfl) :
    DS X m1 [i] (.Assign [.Name y py] (.ListComp elt [⟨tg, iter, ifs, 0⟩] scope pos) spos) (tAsg (tLc wi g tt te (vs)) (gName i)) (bAsg i (fLc f s ft fe (vs))) := by
  subst hvs
  have d := de_lc (pos := pos) own hN hi ok hg ht he hW hc hs
  exact ⟨ps_setLc hc hN hy hyl hsw hi.p (blkOk_by ok) (fun s H C cl fp => (hg s H C cl fp).p) (fun s H C cl fp => (ht s H C cl fp).p) (fun s H C cl fp => (he s H C cl fp).p) hs, sem_asg d.frz.s⟩
theorem ds_ownLc {m1 : Md} {vs : List Nat} {i : Nat} {y : Str} {py spos : Pos} (own : List (Str × Nat)) (hN : X.N.Nodup) (hi : DI w X m tg iter wi f) (ok : blkC X.N X.env.scope scope own = true)
    (hg : ∀ (s' : Shared) (H : Hp) (C : Addr) (cl : List (Str × Addr)) (fp : List Addr), DG w (X.blk s' H scope (compEnvC scope cl C X.env) fp) W1 tg g s) (ht : ∀ (s : Shared) (H : Hp) (C : Addr) (cl : List (Str × Addr)) (fp : List Addr), DTs (X.blk s H scope (compEnvC scope cl C X.env) fp) ifs tt ft)
    (he : ∀ (s : Shared) (H : Hp) (C : Addr) (cl : List (Str × Addr)) (fp : List Addr), DE (X.blk s H scope (compEnvC scope cl C X.env) fp) .fz elt te fe) (hW : ∀ j ∈ W1, j ∈ vs) (hsw : swapsWith (.ListComp elt [⟨tg, iter, ifs, 0⟩] scope pos) (some (.Name y py)) spos.line X.env = pure true)
    (hy : X.N[i]? = some y := by rfl) (hyl : X.env.scope.names.lookup y = some .local := by rfl) (hc : X.calm = true := by rfl) (hs : ∀ x, foldedSetIterable iter X.env x = pure x := by intro _; rfl) (hvs : own.map (·.2) = vs := by rfl) :
    DS X m1 [i] (.Assign [.Name y py] (.ListComp elt [⟨tg, iter, ifs, 0⟩] scope pos) spos) (tAsg (tLc wi g tt te (vs)) (gName i)) (bOwn i (fLc f s ft fe (vs))) := by
  subst hvs
  have d := de_lc (pos := pos) own hN hi ok hg ht he hW hc hs
  exact ⟨ps_setLc hc hN hy hyl hsw hi.p (blkOk_by ok) (fun s H C cl fp => (hg s H C cl fp).p) (fun s H C cl fp => (ht s H C cl fp).p) (fun s H C cl fp => (he s H C cl fp).p) hs, sem_own d.s⟩
end
end Q
end

/-! part: Q8 -/
section
set_option Elab.async false
set_option linter.all false
set_option maxRecDepth 100000
set_option maxHeartbeats 4000000
set_option autoImplicit false
namespace Q
open PySem PySem.Spec PySem.Calls PyProof.Rows L2
/-! ### defs of the text -/
def spM (K : PySem.W.Frag) (m : Md) (Φ : List D → Option D) : Sp := fun vs H Q _ => ∃ F ds r, Same F H ∧ RepA K F vs ds ∧ Φ ds = some r ∧ ∀ v F' H', Ext F H F' H' → Res K m H F' H' v r → Q v H'
def runB (n : Nat) (b : Bd) : List D → Option D := fun ds => (b (ds.map .im ++ List.replicate (n - ds.length) .un)).bind fun o => match o with
  | .rt d => some d
  | .nx _ => some .none
  | _ => none
section
variable {P : Program} {w : World} {K : PySem.W.Frag} {mg : Str → Option Value} {base : Heap}
theorem start_rel {N : List Str} {F H : Hp} : ∀ {vs : List V} {ds : List D}, RepA K F vs ds → ds.length ≤ N.length → Same F H → Rel K { F0 := F, G := H } F H (L2.start N vs) (ds.map Sl.im ++ List.replicate (N.length - ds.length) .un) := fun {vs ds} ra hl fh => by
  have el := ra.length
  refine ⟨?_, .refl _, .refl _, fh, .refl, fun i o s h1 h2 => ?_, fun i j d e a hij h1 h2 h3 h4 => ?_⟩
  · unfold L2.start; simp [el]
  · unfold L2.start at h1
    by_cases hi : i < ds.length
    · rw [List.getElem?_append_left (by simpa using hi)] at h2
      rw [List.getElem?_append_left (by simpa [el] using hi)] at h1
      rw [List.getElem?_map] at h1 h2
      obtain ⟨d, e1, rfl⟩ := Option.map_eq_some_iff.mp h2
      obtain ⟨v, e2, e3⟩ := ra.get e1
      rw [e2] at h1
      cases h1
      exact ⟨v, rfl, e3⟩
    · rw [List.getElem?_append_right (by simpa using hi)] at h2
      rw [List.getElem?_replicate] at h2
      split at h2
      · cases h2; trivial
      · cases h2
  · by_cases hi : i < ds.length
    · rw [List.getElem?_append_left (by simpa using hi), List.getElem?_map] at h1
      obtain ⟨d, _, e1⟩ := Option.map_eq_some_iff.mp h1
      cases e1
    · rw [List.getElem?_append_right (by simpa using hi), List.getElem?_replicate] at h1
      split at h1 <;> cases h1
/-- A DEF KEEPS WHAT ITS BODY'S DENOTATION SAYS -/
theorem fn_den {x qual : Str} {params : Arguments} {body : List Stmt} {scope : Scope} {dvs : List V} {kws : List (Str × V)} {f : Addr} {fd : FuncData} {N ps : List Str} {k : Nat} {m : Md} {b : Bd}
    (Fd : FunD K x qual params body scope dvs kws f fd) (S : FnScope N ps scope) (Φ : List D → Option D) (hΦ : ∀ ds r, Φ ds = some r → ds.length = ps.length ∧ runB N.length b ds = some r) (hm : m = .fz ∨ ∀ ds ρ', b ds ≠ some (.nx ρ'))
    (hb : ∀ (cdv : Value) (A : Around) (outer : List Env) (s : Shared) (H : Hp) (E : XK), Room k (A.deeper (envOfC qual scope s.heap.objs.size f cdv)) →
      ∃ W t, DSs (cxOf CX0 P w K mg base N qual scope f cdv A outer s H E).nox m W body t b) : FnOk P w K mg base CX0 (k + 1) f fd ps (spM K m Φ) := by
  have lenOf : ∀ vs H Q E, spM K m Φ vs H Q E → vs.length = ps.length := fun vs H Q E h => by
    obtain ⟨F, ds, r, _, ra, hr, _⟩ := h
    rw [ra.length]
    exact (hΦ ds r hr).1
  refine Fd.ok S lenOf fun cdv A outer s H vs Q E hr h => ?_
  obtain ⟨W, t, D⟩ := hb cdv A outer s H E hr
  refine ⟨t, D.p.nox, ?_⟩
  obtain ⟨F, ds, r, fh, ra, hP, q⟩ := h
  obtain ⟨hl, hrun⟩ := hΦ ds r hP
  obtain ⟨o, e1, e2⟩ := bind_some hrun
  have hlen : ps.length ≤ N.length := by
    have e := congrArg List.length S.pre
    rw [List.length_take] at e
    omega
  refine D.s { F0 := F, G := H } F H _ _ o _ (start_rel ra (by rw [hl]; exact hlen) fh) e1 ?_
  cases o with
  | rt d =>
    cases e2
    intro v F' H' ro
    obtain ⟨a1, a2, a3, a4, a5⟩ := ro
    exact q v F' H' ⟨a1, a2, a4, a3⟩ a5
  | nx ρ' =>
    cases e2
    rcases hm with rfl | hm
    · intro σ' F' H' r' _
      exact q .non F' H' ⟨r'.f0, r'.g, r'.nw, r'.fh⟩ Rep.non
    · exact absurd e1 (hm _ _)
  | bk ρ' => cases e2
  | ct ρ' => cases e2
end
section
variable {X : Cx} {m : Md} {k : Nat} {f : Addr} {fd : FuncData} {ps : List Str} {Φ : List D → Option D} {x : Str} {p pos : Pos} {e : Expr} {es : List Expr} {t : TA} {fs : Rho → Option (List D)}
theorem sem_call {K : PySem.W.Frag} (h : SemA K .fz t fs) : SemE K m (tCall (spM K m Φ) [] E0 t) (fB Φ fs) := by
  intro B F H σ ρ z Q rel hf q
  obtain ⟨ds, h1, h2⟩ := bind_some hf
  refine h B F H σ ρ ds _ rel h1 fun vs F1 H1 x1 r1 => ?_
  rw [List.append_nil]
  exact ⟨F1, ds, z, x1.s, r1.rep, h2, fun v F' H' x2 r2 => q v F' H' (x1.trans x2) (r2.back (F1 := F1) x1.h)⟩
/-- f(e, ..), f a def of the text -/
theorem de_call (F : FnOk X.prog X.w X.K X.mg X.base CX0 k f fd ps (spM X.K m Φ)) (hr : Room k X.A) (hg : Gl X x) (hm : X.mg x = some (.ref f)) (hk : PySem.W.keepIn X.K (.ref f) = true) (hb : Binds X.K fd ps []) (ha : DA X .fz (e :: es) t fs)
    (hdb : (x == ("__debug__" : Str)) = false := by decide) (he : starEach (e :: es) X.env = (false, eval e X.env) :: starEach es X.env := by rfl) (hpl : (backTo pos (starEach es X.env)).any (·.1) = false := by rfl) :
    DE X m (.Call (.Name x p) (e :: es) [] pos) (tCall (spM X.K m Φ) [] E0 t) (fB Φ fs) := ⟨pe_call F hr hg hm hk hb .nil pass0 ha.p hdb he hpl, sem_call ha.s⟩
theorem de_call0 (F : FnOk X.prog X.w X.K X.mg X.base CX0 k f fd ps (spM X.K m Φ)) (hr : Room k X.A) (hg : Gl X x) (hm : X.mg x = some (.ref f)) (hk : PySem.W.keepIn X.K (.ref f) = true) (hb : Binds X.K fd ps [])
    (hdb : (x == ("__debug__" : Str)) = false := by decide) : DE X m (.Call (.Name x p) [] [] pos) (tCall (spM X.K m Φ) [] E0 tNil) (fB Φ aNil) := ⟨pe_call0 F hr hg hm hk hb .nil pass0 hdb, sem_call (fs := aNil) fun B F H σ ρ ds Q rel hf q => by cases hf; exact q [] F H (.refl rel.fh) .nil⟩
end
/-! a result without lists: arguments that are owned stay so -/
mutual
def nm : D → Bool
  | .none => true
  | .bool _ => true
  | .int _ => true
  | .str _ => true
  | .tuple ds => nmA ds
  | .list _ => false
  | .dict _ => false
def nmA : List D → Bool
  | [] => true
  | d :: ds => nm d && nmA ds
end
/-- of a new list: its items -/
def okR (m : Md) (d : D) : Bool := match m, d with
  | .fr, .list ds => nmA ds
  | .fr, .dict es => es.all fun e => nm e.2
  | .fr, _ => false
  | _, d => nm d
/-- a list or a dict -/
def Mb (o : HO) : Prop := (∃ xs, o = .lst xs) ∨ ∃ ks, o = .dK ks
section
variable {K : PySem.W.Frag} {F F2 : Hp}
mutual
theorem Rep.less (h : ∀ a o, F a = some o → ¬ Mb o → F2 a = some o) : ∀ {v : V} {d : D}, Rep K F v d → nm d = true → Rep K F2 v d
  | _, _, .non, _ => .non
  | _, _, .bl b, _ => .bl b
  | _, _, .int i, _ => .int i
  | _, _, .str x, _ => .str x
  | _, _, .lst _ _, e => by simp [nm] at e
  | _, _, .dct _ _, e => by simp [nm] at e
  | _, .tuple ds, .tup h1 r, e => .tup (by
      rcases h1 with ⟨o, h1, h2⟩ | h1
      · exact .inl ⟨o, h _ _ h1 (fun z => by rcases z with ⟨_, z⟩ | ⟨_, z⟩ <;> cases z), h2⟩
      · exact .inr h1) (RepA.less h r (by simpa [nm] using e))
theorem RepA.less (h : ∀ a o, F a = some o → ¬ Mb o → F2 a = some o) : ∀ {vs : List V} {ds : List D}, RepA K F vs ds → nmA ds = true → RepA K F2 vs ds
  | _, _, .nil, _ => .nil
  | _, d :: ds, .cons h1 r, e => by
    have e' : nm d = true ∧ nmA ds = true := by simpa [nmA] using e
    exact .cons (Rep.less h h1 e'.1) (RepA.less h r e'.2)
end
theorem RepK.less (h : ∀ a o, F a = some o → ¬ Mb o → F2 a = some o) : ∀ {ks : List (Key × V)} {es : List (D × D)}, RepK K F ks es → (es.all fun e => nm e.2) = true → RepK K F2 ks es
  | _, _, .nil, _ => .nil
  | _, _, .cons h1 r, e => by
    simp only [List.all_cons, Bool.and_eq_true] at e
    exact .cons (Rep.less h h1 e.1) (RepK.less h r e.2)
end
/-- F with the objects at L added as they stand in H -/
def plus (F H : Hp) (L : List Addr) : Hp := fun a => match F a with
  | some o => some o
  | none => if a ∈ L then H a else none
theorem plus_f {F H : Hp} {L : List Addr} : Same F (plus F H L) := fun a o h => by unfold plus; rw [h]
theorem plus_h {F H : Hp} {L : List Addr} (s : Same F H) : Same (plus F H L) H := fun a o h => by
  unfold plus at h
  split at h
  · rename_i o' e; cases h; exact s _ _ e
  · split at h
    · exact h
    · cases h
theorem plus_mono {F H : Hp} {L L' : List Addr} (h : ∀ a ∈ L, a ∈ L') : Same (plus F H L) (plus F H L') := fun a o q => by
  unfold plus at q ⊢
  cases e : F a with
  | some o' => rw [e] at q; exact q
  | none =>
    rw [e] at q
    have q' : (if a ∈ L then H a else none) = some o := q
    show (if a ∈ L' then H a else none) = some o
    by_cases hm : a ∈ L
    · rw [if_pos hm] at q'; rw [if_pos (h a hm)]; exact q'
    · rw [if_neg hm] at q'; cases q'
theorem args_plus {K : PySem.W.Frag} {H0 F H : Hp} : ∀ {vs : List V} {ds : List D}, ResA K .pk H0 F H vs ds → ∃ L : List Addr, (∀ a ∈ L, F a = none ∧ ∃ u, Mb u ∧ H a = some u) ∧ RepA K (plus F H L) vs ds
  | _, _, .nil => ⟨[], by simp, .nil⟩
  | _, _, .cons h r => by
    obtain ⟨L, h1, h2⟩ := args_plus r
    rcases h with h | ⟨a, rfl, hf, o⟩
    · exact ⟨L, h1, .cons (h.mono plus_f) h2⟩
    · rename_i d ds
      cases d with
      | list es =>
        obtain ⟨xs, e, ra⟩ := o
        refine ⟨a :: L, fun b hb => ?_, .cons (.lst (.of ?_) (ra.mono plus_f)) (h2.mono (plus_mono fun b hb => List.mem_cons_of_mem _ hb))⟩
        · rcases List.mem_cons.mp hb with rfl | hb
          · exact ⟨hf, _, .inl ⟨xs, rfl⟩, e⟩
          · exact h1 b hb
        · unfold plus; rw [hf]; show (if a ∈ a :: L then H a else none) = _; rw [if_pos List.mem_cons_self]; exact e
      | dict es =>
        obtain ⟨xs, e, ra⟩ := o
        refine ⟨a :: L, fun b hb => ?_, .cons (.dct (.of ?_) (ra.mono plus_f)) (h2.mono (plus_mono fun b hb => List.mem_cons_of_mem _ hb))⟩
        · rcases List.mem_cons.mp hb with rfl | hb
          · exact ⟨hf, _, .inr ⟨xs, rfl⟩, e⟩
          · exact h1 b hb
        · unfold plus; rw [hf]; show (if a ∈ a :: L then H a else none) = _; rw [if_pos List.mem_cons_self]; exact e
      | _ => exact o.elim
def fBP (m : Md) (Φ : List D → Option D) (fs : Rho → Option (List D)) : Rho → Option D := fun ρ => (fs ρ).bind fun ds => (Φ ds).bind fun r => if okR m r = true then some r else none
section
variable {X : Cx} {m m1 : Md} {k : Nat} {f : Addr} {fd : FuncData} {ps : List Str} {Φ : List D → Option D} {x : Str} {p pos : Pos} {e : Expr} {es : List Expr} {t : TA} {fs : Rho → Option (List D)}
theorem sem_callP {K : PySem.W.Frag} (hm : m = .fz ∨ m = .fr) (h : SemA K m1 t fs) : SemE K m (tCall (spM K m Φ) [] E0 t) (fBP m Φ fs) := by
  intro B F H σ ρ z Q rel hf q
  obtain ⟨ds, h1, h2⟩ := bind_some hf
  obtain ⟨r, h3, h4⟩ := bind_some h2
  obtain ⟨hn, rfl⟩ := if_some h4
  refine h B F H σ ρ ds _ rel h1 fun vs F1 H1 x1 r1 => ?_
  rw [List.append_nil]
  obtain ⟨L, hL, ra⟩ := args_plus r1.any
  refine ⟨plus F1 H1 L, ds, r, plus_h x1.s, ra, h3, fun v F' H' x2 r2 => ?_⟩
  -- what the callee froze, without the caller's own
  have hex : ∃ F3 : Hp, Ext F1 H1 F3 H' ∧ (∀ a o, F' a = some o → ¬ Mb o → F3 a = some o) ∧ ∀ a, F' a = none → F3 a = none := by
    refine ⟨fun a => if a ∈ L then none else F' a, ⟨fun a o h => ?_, x2.h, fun a h => ?_, fun a o h => ?_⟩, fun a o h1 h2 => ?_, fun a h => ?_⟩
    · have : a ∉ L := fun z => by rw [(hL a z).1] at h; cases h
      rw [if_neg this]
      exact x2.f _ _ (plus_f _ _ h)
    · by_cases z : a ∈ L
      · exact absurd (if_pos z) h
      · have h' : F' a ≠ none := by intro e; exact h (by rw [if_neg z]; exact e)
        rcases x2.n a h' with w | w
        · left
          intro e
          apply w
          unfold plus
          rw [e]
          exact if_neg z
        · exact .inr w
    · by_cases z : a ∈ L
      · have h' : (none : Option HO) = some o := by rw [← h]; exact (if_pos z).symm
        cases h'
      · have h' : F' a = some o := by rw [← h]; exact (if_neg z).symm
        exact x2.s _ _ h'
    · have : a ∉ L := fun z => by
        obtain ⟨f1, u, hu, e⟩ := hL a z
        have : plus F1 H1 L a = some u := by unfold plus; rw [f1]; show (if a ∈ L then H1 a else none) = _; rw [if_pos z]; exact e
        have q := x2.f _ _ this
        rw [h1] at q
        exact h2 (by rw [Option.some.inj q]; exact hu)
      exact (if_neg this).trans h1
    · by_cases z : a ∈ L
      · exact if_pos z
      · exact (if_neg z).trans h
  obtain ⟨F3, x3, k1, k2⟩ := hex
  refine q v F3 H' (x1.trans x3) ?_
  rcases hm with rfl | rfl
  · exact Rep.less k1 r2 hn
  · obtain ⟨a, rfl, h0, hf0, o⟩ := r2
    refine ⟨a, rfl, x1.h.free h0, k2 a hf0, ?_⟩
    cases r with
    | list es =>
      obtain ⟨ws, e1, e2⟩ := o
      exact ⟨ws, e1, e2.less k1 hn⟩
    | dict es =>
      obtain ⟨ws, e1, e2⟩ := o
      exact ⟨ws, e1, e2.less k1 hn⟩
    | _ => exact o.elim
/-- f(e, ..), owned names among the arguments, no list in what comes back -/
theorem de_callP (hm0 : m = .fz ∨ m = .fr) (F : FnOk X.prog X.w X.K X.mg X.base CX0 k f fd ps (spM X.K m Φ)) (hr : Room k X.A) (hg : Gl X x) (hm : X.mg x = some (.ref f)) (hk : PySem.W.keepIn X.K (.ref f) = true) (hb : Binds X.K fd ps []) (ha : DA X .pk (e :: es) t fs)
    (hdb : (x == ("__debug__" : Str)) = false := by decide) (he : starEach (e :: es) X.env = (false, eval e X.env) :: starEach es X.env := by rfl) (hpl : (backTo pos (starEach es X.env)).any (·.1) = false := by rfl) :
    DE X m (.Call (.Name x p) (e :: es) [] pos) (tCall (spM X.K m Φ) [] E0 t) (fBP m Φ fs) := ⟨pe_call F hr hg hm hk hb .nil pass0 ha.p hdb he hpl, sem_callP hm0 ha.s⟩
end
end Q
end

/-! part: Q9 -/
section
set_option Elab.async false
set_option linter.all false
set_option maxRecDepth 100000
set_option maxHeartbeats 4000000
set_option autoImplicit false
namespace PySem
set_option maxHeartbeats 1000000 in
theorem meets_enumerate_new1 {v : Value} {o : Obj} {H : Heap → Prop} (B : Begins v o H) :
    Meets (Builtin.«enumerate.__new__» ⟨[.type "enumerate", v], []⟩) (fun _ R s => H s.heap ∧
      R (.ok (.ret (.ref (s.heap.push o).objs.size))) { s with heap := (s.heap.push o).push { cls := .type "enumerate", data := .fields #[.none, .bool false, .ref s.heap.objs.size, rawInt 0, .none, .none] } }) :=
  .of_wp fun prog w A R s h => by
    obtain ⟨hp, g, d, tk, os⟩ := s; obtain ⟨h1, h⟩ := h
    have hsub := sub_enumerate
    have q1 : ∀ {A' : Around} {E : Value → Shared → Prop} {Q : Value → Shared → Prop}, Q (.ref hp.objs.size) ⟨hp.push o, g, d, tk, os⟩ → wpAny (model prog w) A' (pyIter v) Q E ⟨hp, g, d, tk, os⟩ :=
      fun q => B.iter prog w _ _ ⟨hp, g, d, tk, os⟩ _ h1 q
    wp_walk using q1
    refine wpAny_stack_any fun st => wpAny_pure ?_
    split
    · rename_i c _ _ _ _ _
      cases (c == Value.type "enumerate")
      · wp_walk using q1
        exact ⟨_, rfl, h⟩
      · wp_walk using q1
        exact ⟨_, rfl, h⟩
    · wp_walk using q1
      exact ⟨_, rfl, h⟩
theorem enum_begins1 {prog : Program} {w : World} {A : Around} {E : Value → Shared → Prop} {s : Shared} {v : Value} {o : Obj} {H : Heap → Prop} {Q : Value → Shared → Prop} (B : Begins v o H) (h1 : H s.heap)
    (h : ∀ h', IsEnum h' (s.heap.objs.size + 1) s.heap.objs.size 0 .none → h'.get? s.heap.objs.size = some o → h'.objs.size = s.heap.objs.size + 2 →
      (∀ b o, s.heap.get? b = some o → h'.get? b = some o) → Q (.ref (s.heap.objs.size + 1)) { s with heap := h' }) :
    wpAny (model prog w) A (call (.type "enumerate") [v]) Q E s := by
  refine callType_new F.called_enumerate (by decide) (F.typeCall_enumerate_1 _) (F.newCall_enumerate_1 _) (fun obj => F.args_object_init_2 obj _) F.entry_enumerate_new
    (meets_enumerate_new1 B) ⟨h1, ?_⟩
  have hz : (s.heap.push o).objs.size = s.heap.objs.size + 1 := Heap.size_push ..
  show _ ∧ _
  rw [hz]
  have he : IsEnum ((s.heap.push o).push { cls := .type "enumerate", data := .fields #[.none, .bool false, .ref s.heap.objs.size, rawInt 0, .none, .none] }) (s.heap.objs.size + 1) s.heap.objs.size 0 .none := by
    have := Heap.get?_push_size (s.heap.push o) (o := { cls := .type "enumerate", data := .fields #[.none, .bool false, .ref s.heap.objs.size, rawInt 0, .none, .none] }) rfl
    rw [hz] at this; exact this
  refine ⟨⟨_, he, rfl⟩, h _ he (Heap.get?_push_of_some _ (Heap.get?_push_size _ B.free)) (by rw [Heap.size_push, hz]) fun b o x => Heap.get?_push_of_some _ (Heap.get?_push_of_some _ x)⟩
end PySem
namespace Q
open PySem PySem.Spec PySem.Calls PyProof.Rows L2
/-! ### enumerate over a tuple -/
def IteT (K : PySem.W.Frag) (a : Addr) (n : Nat) : It :=
  ⟨fun i H => i < n ∧ ∃ (xs : List V) (x : V), SqT K H a xs ∧ xs[i]? = some x, fun i H v H' => ∃ T x, v = .ref T ∧ H T = none ∧ H' = upd H T (.tup [.int (i : Nat), x]) ∧ ∀ xs, SqT K H a xs → xs[i]? = some x, fun i H => n ≤ i ∧ ∃ xs : List V, SqT K H a xs ∧ xs.length = n⟩
theorem turn_enumT {P : Program} {w : World} {K : PySem.W.Frag} {elts : List Expr} {kk : Nat} {tpos : Pos} (a e it : Addr) (n : Nat) :
    Turn P w K (.Tuple elts kk tpos) (IteT K a n) [e, it] e (fun i h => i ≤ n ∧ (∃ old, IsEnum h e it ((i : Nat) : Int) old) ∧ h.IsTupleIter it a i ∧ e ≠ it ∧ a ≠ it ∧ a ≠ e) where
  mem := by simp
  obj := fun i h st b hb => by
    obtain ⟨_, ⟨old, he⟩, ⟨o, ho, hc, hd⟩, _⟩ := st
    have e' : b = e ∨ b = it := by simpa using hb
    rcases e' with z | z
    · rw [z]; exact ⟨_, he, fun v q => nomatch q⟩
    · rw [z]; exact ⟨o, ho, fun v q => by rw [hd] at q; cases q⟩
  keep := fun i h h' st k => let ⟨hn, ⟨old, he⟩, hi, hne⟩ := st; ⟨hn, ⟨old, k e (by simp) _ he⟩, hi.at fun o q => k it (by simp) o q, hne⟩
  item := by
    intro X hP hw hK hc i pins s σ H E I hf st hg
    subst hP hw hK
    obtain ⟨_, ⟨old, he⟩, hit, hne, hai, hae⟩ := st
    obtain ⟨hin, xs, x, hq, hx⟩ := hg
    obtain ⟨its, rv, p, hz⟩ := I.tuple hq
    obtain ⟨u, hu, ru⟩ := rv.get hx
    have hel : e < s.heap.objs.size := Heap.lt_size he
    have hil : it < s.heap.objs.size := by obtain ⟨_, q, _⟩ := hit; exact Heap.lt_size q
    have Dr := Draws.tuple (prog := X.prog) (w := X.w) (A := X.A.in1) (I.ok.hd hc) it a hai its.toArray
    have hlt : i < its.toArray.size := by rw [List.size_toArray, ← rv.length]; exact (List.getElem?_eq_some_iff.mp hx).1
    refine wpAny_pyNext_enum_itemD Dr he ⟨hit, p⟩ hlt hne (by simp [hne, Ne.symm hae]) fun u' h' tk hP' ho hit' hT hsz hk => ?_
    have eu : u' = u := by
      have h1 : its.toArray[i]? = some u := by simpa using hu
      rw [h1] at hP'
      exact (Option.some.inj hP').symm
    subst eu
    refine ⟨_, rfl, wpAny_letOwnedTupleGo_enum (s := { s with heap := h', toks := tk + 1 }) ho fun h'' he' sb => ?_⟩
    have hT2 : h''.get? s.heap.objs.size = some { cls := .type "tuple", data := .seq #[.int i tk, u'] } := (sb.2 _ (Nat.ne_of_gt hel)).trans hT
    have new : ObjOk X.prog X.w (upd H s.heap.objs.size (.tup [.int (i : Nat), x])) h'' s.heap.objs.size (.tup [.int (i : Nat), x]) :=
      ⟨by show 2 ≤ sizeLine; decide, [.int i tk, u'], .cons ⟨_, rfl⟩ (.cons ru .nil), ⟨_, hT2, rfl, _, rfl⟩⟩
    have I1 : Inv X pins σ (upd H s.heap.objs.size (.tup [.int (i : Nat), x])) { s with heap := h'', toks := tk + 1 } :=
      I.turnedNew (ch := [e, it]) (fun b ob hb q => (sb.2 b (fun z => hb (by simp [z]))).trans (hk b ob (fun z => hb (by simp [z])) (fun z => hb (by simp [z])) q)) hf (Nat.le_refl _) new
    refine ⟨.ref s.heap.objs.size, _, I1, rfl, ⟨_, x, rfl, I.hok.fresh (Nat.le_refl _), rfl, fun ys hy => by rw [I.tuple_inj hy hq]; exact hx⟩, ⟨hin, ⟨u', ?_⟩, hit'.1.at fun o q => (sb.2 it (Ne.symm hne)).trans q, hne, hai, hae⟩, fun b hb => ?_⟩
    · have e1 : ((i + 1 : Nat) : Int) = (i : Int) + 1 := by omega
      rw [e1]; exact he'
    · have hb' : b < s.heap.objs.size := by
        have e' : b = e ∨ b = it := by simpa using hb
        rcases e' with z | z
        · rw [z]; exact hel
        · rw [z]; exact hil
      rw [upd_ne (Nat.ne_of_lt hb')]
      exact (hf b hb).1
  done := by
    intro X hP hw hK hc i pins s σ H E I hf st hg
    subst hP hw hK
    obtain ⟨hin, ⟨old, he⟩, hit, hne, hai, hae⟩ := st
    obtain ⟨hge, xs, hq, hx⟩ := hg
    obtain ⟨its, rv, p, hz⟩ := I.tuple hq
    obtain ⟨f0, f1, f2, f3, f4, f5⟩ := hf it (by simp)
    have Dr := Draws.tuple (prog := X.prog) (w := X.w) (A := X.A.in1) (I.ok.hd hc) it a hai its.toArray
    have ei : i = its.toArray.size := by rw [List.size_toArray, ← rv.length]; omega
    subst ei
    exact wpAny_pyNext_enum_endD Dr he ⟨hit, p⟩ fun h' eb => ⟨rfl, I.turned (t' := s.toks) (fun b o hb q => eb b o hb q) f0 f1 f3 f4 f5⟩
  self := fun A i s Q E st h => let ⟨_, ⟨_, he⟩, _⟩ := st; wpAny_pyIter_enum he h
/-- enumerate(x), x a list or a tuple -/
def iEnumA (K : PySem.W.Frag) (te : TE) : TI := fun σ H R => te σ H fun v H1 => ∃ a xs, v = .ref a ∧ ((SqL K H1 a xs ∧ R (Ite K a) H1) ∨ (SqT K H1 a xs ∧ R (IteT K a xs.length) H1))
theorem pi_enumA {X : Cx} {e : Expr} {te : TE} {p pos tpos : Pos} {elts : List Expr} {kk : Nat} (hg : Gl X "enumerate") (hm : X.mg "enumerate" = none) (he : PE X e te) (hs : starEach [e] X.env = (false, eval e X.env) :: starEach [] X.env := by rfl) :
    PI X (.Tuple elts kk tpos) (.Call (.Name "enumerate" p) [e] [] pos) (iEnumA X.K te) := by
  refine ⟨fun pins s σ H R I h => ?_⟩
  refine Call_ (ld_blt I hg hm boot_enumerate (PyProof.Rows.callWith_type1 (args_cons (thn (he.run pins s σ H _ I h) fun u s1 ⟨v, H1, I1, r1, q1⟩ => args_nil ?_) hs) hs rfl))
  obtain ⟨a, xs, ev, q⟩ := q1
  subst ev
  obtain rfl : u = Value.ref a := r1
  have fresh2 : ∀ b, b ∈ [s1.heap.objs.size + 1, s1.heap.objs.size] → FpOk X pins H1 b := fun b hb => by
    have e' : b = s1.heap.objs.size + 1 ∨ b = s1.heap.objs.size := by simpa using hb
    have hle : s1.heap.objs.size ≤ b := by
      rcases e' with z | z
      · rw [z]; exact Nat.le_add_right _ _
      · rw [z]; exact Nat.le_refl _
    exact I1.fpOk hle (I1.hok.fresh hle)
  rcases q with ⟨hq, q⟩ | ⟨hq, q⟩
  · obtain ⟨its, rv, p', hz⟩ := I1.list hq
    refine call_enumerate_list p'.isList fun h' he hit hsz hk => wpAny_pyIter_enum he ?_
    have I2 : Inv X pins σ H1 { s1 with heap := h' } := I1.kept (t' := s1.toks) hk
    exact ⟨s1.heap.objs.size + 1, [s1.heap.objs.size + 1, s1.heap.objs.size], _, _, H1, rfl, I2, turn_enum a (s1.heap.objs.size + 1) s1.heap.objs.size, ⟨⟨.none, he⟩, hit, Nat.succ_ne_self _⟩, fresh2, q⟩
  · obtain ⟨its, rv, p', hz⟩ := I1.tuple hq
    have hal : a < s1.heap.objs.size := by obtain ⟨o, e, _⟩ := p'; exact Heap.lt_size e
    refine enum_begins1 (begins_tuple a its.toArray) p' fun h' he hit hsz hk => wpAny_pyIter_enum he ?_
    have I2 : Inv X pins σ H1 { s1 with heap := h' } := I1.kept (t' := s1.toks) hk
    exact ⟨s1.heap.objs.size + 1, [s1.heap.objs.size + 1, s1.heap.objs.size], _, _, H1, rfl, I2, turn_enumT a (s1.heap.objs.size + 1) s1.heap.objs.size xs.length, ⟨Nat.zero_le _, ⟨.none, he⟩, ⟨_, hit, rfl, rfl⟩, Nat.succ_ne_self _, Nat.ne_of_lt hal, Nat.ne_of_lt (Nat.lt_succ_of_lt hal)⟩, fresh2, q⟩
def numL : Nat → List D → List D
  | _, [] => []
  | i, d :: ds => .tuple [.int (i : Nat), d] :: numL (i + 1) ds
theorem numL_at : ∀ {ds : List D} {k i : Nat} {d : D}, (numL k ds)[i]? = some d → ∃ x, ds[i]? = some x ∧ d = .tuple [.int ((k + i : Nat) : Int), x]
  | [], _, _, _, h => by simp [numL] at h
  | x :: ds, k, 0, d, h => by simp [numL] at h; subst h; exact ⟨x, rfl, rfl⟩
  | x :: ds, k, i + 1, d, h => by
    have h' : (numL (k + 1) ds)[i]? = some d := by simpa [numL] using h
    obtain ⟨y, h1, h2⟩ := numL_at h'
    refine ⟨y, by simpa using h1, ?_⟩
    rw [h2, show k + 1 + i = k + (i + 1) by omega]
theorem numL_length : ∀ (ds : List D) (k : Nat), (numL k ds).length = ds.length
  | [], _ => rfl
  | x :: ds, k => by simp [numL, numL_length ds]
theorem ite_ok {K : PySem.W.Frag} {F : Hp} {a : Addr} {xs : List V} {ds : List D} {st : Hp → Prop} (hs : ∀ H, Same F H → st H → SqL K H a xs) (r : RepA K F xs ds) : ItO true K (Ite K a) F st (numL 0 ds) :=
  ⟨fun i F' H' hi s1 s2 s3 => by
    obtain ⟨x, h1, _⟩ := numL_at (List.getElem?_eq_getElem hi)
    obtain ⟨y, h3, _⟩ := r.get h1
    exact ⟨xs, y, hs H' (s1.trans s2) s3, h3⟩, fun i d F' H' v H3 hd s1 s2 s3 yy => by
    obtain ⟨T, x, rfl, hT, rfl, y1⟩ := yy
    obtain ⟨dx, h1, rfl⟩ := numL_at hd
    obtain ⟨x', h3, h5⟩ := r.get h1
    have e1 := y1 xs (hs H' (s1.trans s2) s3)
    rw [h3] at e1
    cases e1
    rw [Nat.zero_add]
    exact pair_ok s2 hT (Rep.int _) (h5.mono s1), fun i F' H' hi s1 s2 s3 => by
    rw [numL_length] at hi
    exact ⟨xs, hs H' (s1.trans s2) s3, by rw [r.length]; exact hi⟩⟩
theorem iteT_ok {K : PySem.W.Frag} {F : Hp} {a : Addr} {xs : List V} {ds : List D} {st : Hp → Prop} (hs : ∀ H, Same F H → st H → SqT K H a xs) (r : RepA K F xs ds) : ItO true K (IteT K a xs.length) F st (numL 0 ds) :=
  ⟨fun i F' H' hi s1 s2 s3 => by
    obtain ⟨x, h1, _⟩ := numL_at (List.getElem?_eq_getElem hi)
    obtain ⟨y, h3, _⟩ := r.get h1
    rw [numL_length, ← r.length] at hi
    exact ⟨hi, xs, y, hs H' (s1.trans s2) s3, h3⟩, fun i d F' H' v H3 hd s1 s2 s3 yy => by
    obtain ⟨T, x, rfl, hT, rfl, y1⟩ := yy
    obtain ⟨dx, h1, rfl⟩ := numL_at hd
    obtain ⟨x', h3, h5⟩ := r.get h1
    have e1 := y1 xs (hs H' (s1.trans s2) s3)
    rw [h3] at e1
    cases e1
    rw [Nat.zero_add]
    exact pair_ok s2 hT (Rep.int _) (h5.mono s1), fun i F' H' hi s1 s2 s3 => by
    rw [numL_length] at hi
    exact ⟨by rw [r.length]; exact hi, xs, hs H' (s1.trans s2) s3, rfl⟩⟩
def enumD (d : D) : Option (List D) := (itemsD d).map (numL 0)
def fEnum (f : Rho → Option D) : Rho → Option (List D) := fun ρ => (f ρ).bind enumD
section
variable {X : Cx} {m : Md} {e : Expr} {te : TE} {f : Rho → Option D} {p pos tpos : Pos} {elts : List Expr} {kk : Nat}
theorem sem_enum {K : PySem.W.Frag} (h : SemE K .fz te f) : SemI true K .fz (iEnumA K te) (fEnum f) := by
  intro B F H σ ρ ds R rel hf q
  obtain ⟨d, h1, h2⟩ := bind_some hf
  obtain ⟨es, h3, rfl⟩ := Option.map_eq_some_iff.mp h2
  refine h B F H σ ρ d _ rel h1 fun v F1 H1 x1 r1 => ?_
  cases d with
  | list es =>
    cases h3
    cases r1 with
    | lst hs hr => exact ⟨_, _, rfl, .inl ⟨x1.s.seq hs, q _ F1 H1 x1 (ite_ok (fun H s _ => s.seq hs) hr)⟩⟩
  | tuple es =>
    cases h3
    cases r1 with
    | tup hs hr => exact ⟨_, _, rfl, .inr ⟨(hs.mono x1.s).sq, q _ F1 H1 x1 (iteT_ok (fun H s _ => (hs.mono s).sq) hr)⟩⟩
  | _ => cases h3
theorem sem_enumP {K : PySem.W.Frag} (h : SemE K m te f) : SemI true K .pk (iEnumA K te) (fEnum f) := by
  intro B F H σ ρ ds R rel hf q
  obtain ⟨d, h1, h2⟩ := bind_some hf
  obtain ⟨es, h3, rfl⟩ := Option.map_eq_some_iff.mp h2
  refine h B F H σ ρ d _ rel h1 fun v F1 H1 x1 r1 => ?_
  cases d with
  | list es =>
    cases h3
    obtain ⟨a, xs, rfl, hs, hr⟩ := r1.list x1.s
    exact ⟨_, _, rfl, .inl ⟨hs, q _ F1 H1 x1 (ite_ok (fun H _ s => s.seq hs) hr)⟩⟩
  | tuple es =>
    cases h3
    obtain ⟨a, xs, rfl, hs, hr⟩ := r1.tup x1.s
    exact ⟨_, _, rfl, .inr ⟨hs.sq, q _ F1 H1 x1 (iteT_ok (fun H _ s => (hs.mono s).sq) hr)⟩⟩
  | _ => cases h3
theorem di_enum (hg : Gl X "enumerate") (hm : X.mg "enumerate" = none) (he : DE X .fz e te f) (hs : starEach [e] X.env = (false, eval e X.env) :: starEach [] X.env := by rfl) :
    DI true X .fz (.Tuple elts kk tpos) (.Call (.Name "enumerate" p) [e] [] pos) (iEnumA X.K te) (fEnum f) := ⟨pi_enumA hg hm he.p hs, sem_enum he.s⟩
theorem di_enumK (K' : PySem.W.Frag) (hg : Gl X "enumerate") (hm : X.mg "enumerate" = none) (he : DE X .fz e te f) (hs : starEach [e] X.env = (false, eval e X.env) :: starEach [] X.env := by rfl) (hK : X.K = K' := by rfl) : DI true X .fz (.Tuple elts kk tpos) (.Call (.Name "enumerate" p) [e] [] pos) (iEnumA K' te) (fEnum f) := by
  subst hK
  exact di_enum (hg := hg) (hm := hm) (he := he) (hs := hs)
theorem di_enumP (hg : Gl X "enumerate") (hm : X.mg "enumerate" = none) (he : DE X m e te f) (hs : starEach [e] X.env = (false, eval e X.env) :: starEach [] X.env := by rfl) :
    DI true X .pk (.Tuple elts kk tpos) (.Call (.Name "enumerate" p) [e] [] pos) (iEnumA X.K te) (fEnum f) := ⟨pi_enumA hg hm he.p hs, sem_enumP he.s⟩
theorem di_enumPK (K' : PySem.W.Frag) (hg : Gl X "enumerate") (hm : X.mg "enumerate" = none) (he : DE X m e te f) (hs : starEach [e] X.env = (false, eval e X.env) :: starEach [] X.env := by rfl) (hK : X.K = K' := by rfl) : DI true X .pk (.Tuple elts kk tpos) (.Call (.Name "enumerate" p) [e] [] pos) (iEnumA K' te) (fEnum f) := by
  subst hK
  exact di_enumP (hg := hg) (hm := hm) (he := he) (hs := hs)
end
end Q
end

/-! part: Q10 -/
section
set_option Elab.async false
set_option linter.all false
set_option maxRecDepth 100000
set_option maxHeartbeats 4000000
set_option autoImplicit false
namespace Q
open PySem PySem.Spec PySem.Calls PyProof.Rows L2
theorem DE.pk {X : Cx} {m : Md} {e : Expr} {t : TE} {f : Rho → Option D} (h : DE X m e t f) : DE X .pk e t f := ⟨h.p, fun B F H σ ρ d Q r hf q => h.s B F H σ ρ d Q r hf fun v F' H' x rs => q v F' H' x rs.any⟩
/-! ### slices -/
def SemO (K : PySem.W.Frag) (t : TO) (f : Rho → Option (Option Int)) : Prop :=
  ∀ (B : Bs) (F H : Hp) (σ : L2.St) (ρ : Rho) (o : Option Int) (Q : Option Int → Hp → Prop), Rel K B F H σ ρ → f ρ = some o → (∀ F' H', Ext F H F' H' → Q o H') → t σ H Q
structure DO (X : Cx) (e : Option Expr) (t : TO) (f : Rho → Option (Option Int)) : Prop where
  p : PO X e t
  s : SemO X.K t f
def oNo : Rho → Option (Option Int) := fun _ => some none
def oIs (f : Rho → Option D) : Rho → Option (Option Int) := fun ρ => (f ρ).bind fun d => match d with
  | .int i => some (some i)
  | _ => none
section
variable {X : Cx} {m m1 : Md} {e : Expr} {te : TE} {f : Rho → Option D} {p p2 pos : Pos} {lo hi : Option Expr} {tl th : TO} {fl fh : Rho → Option (Option Int)}
theorem do_no : DO X none tNoPart oNo := ⟨po_none, fun B F H σ ρ o Q r hf q => by cases hf; exact q F H (.refl r.fh)⟩
theorem do_is (h : DE X m e te f) : DO X (some e) (tPart te) (oIs f) := ⟨po_some h.p, fun B F H σ ρ o Q r hf q => by
  obtain ⟨d, h1, h2⟩ := bind_some hf
  refine h.s B F H σ ρ d _ r h1 fun v F1 H1 x1 r1 => ?_
  cases d with
  | int i => cases h2; exact ⟨i, r1.int, q F1 H1 x1⟩
  | _ => cases h2⟩
def cutL (ds : List D) (lo hi : Option Int) : List D := (ds.drop (HT.sIx ds.length 0 lo)).take (HT.sIx ds.length ds.length hi - HT.sIx ds.length 0 lo)
theorem repA_cut {K : PySem.W.Frag} {F : Hp} {xs : List V} {ds : List D} (r : RepA K F xs ds) (lo hi : Option Int) : RepA K F (cutV xs lo hi) (cutL ds lo hi) := by
  unfold cutV cutL
  rw [r.length]
  exact (r.drop _).take _
/-- t[lo:hi]: the whole of it is t itself -/
def rSlF (K : PySem.W.Frag) : V → Option Int → Option Int → Hp → VK → Prop := fun x lo hi H Q => ∃ a xs, x = .ref a ∧ SqT K H a xs ∧
  (HT.sIx xs.length 0 lo = 0 ∧ HT.sIx xs.length xs.length hi = xs.length → Q (.ref a) H) ∧ (¬ (HT.sIx xs.length 0 lo = 0 ∧ HT.sIx xs.length xs.length hi = xs.length) → NewT (cutV xs lo hi) H Q)
theorem sl_tupF : SlR X (rSlF X.K) := by
  intro pins s σ H x v vl vu lo hi sl Q I rx hs pl pu h
  obtain ⟨a, xs, rfl, hx, q1, q2⟩ := h
  cases rx
  obtain ⟨its, r, ht, hz⟩ := I.tuple hx
  have hlen : its.toArray.size = xs.length := by rw [List.size_toArray]; exact r.length.symm
  refine ⟨"tuple", _, PyProof.Rows.slot_tuple_getitem.lookup, ht.typeIs, ?_⟩
  by_cases hw : HT.sIx xs.length 0 lo = 0 ∧ HT.sIx xs.length xs.length hi = xs.length
  · exact getItem_tuple_whole ht hs pl pu (by rw [hlen]; exact hw) ⟨.ref a, H, I, rfl, q1 hw⟩
  · refine HT.getItem_tuple_cut ht hs pl pu (by rw [hlen]; exact hw) ?_ (by rw [hlen]; exact hz)
    rw [hlen]
    exact ⟨.ref s.heap.objs.size, _, I.laidT (t' := s.toks) ((r.drop (HT.sIx xs.length 0 lo)).take (HT.sIx xs.length xs.length hi - HT.sIx xs.length 0 lo)) (Nat.le_trans (cutV_length xs lo hi) hz), rfl, q2 hw _ _ (I.hok.fresh (Nat.le_refl _)) rfl rfl⟩
def rSlC (K : PySem.W.Frag) : V → Option Int → Option Int → Hp → VK → Prop := fun x lo hi H Q => rSlF K x lo hi H Q ∨ (rSlL K x lo hi H Q ∨ rSlS x lo hi H Q)
theorem sl_all : SlR X (rSlC X.K) := sl_tupF.or (sl_list.or sl_str)
def cutD (d : D) (lo hi : Option Int) : Option D := match d with
  | .tuple ds => some (.tuple (cutL ds lo hi))
  | .list ds => some (.list (cutL ds lo hi))
  | .str z => if z.length ≤ sizeLine then some (.str (cutS z lo hi)) else none
  | _ => none
def fSl (f : Rho → Option D) (fl fh : Rho → Option (Option Int)) : Rho → Option D := fun ρ => (f ρ).bind fun d => (fl ρ).bind fun l => (fh ρ).bind fun h => cutD d l h
theorem cut_whole {ds : List D} {lo hi : Option Int} (h : HT.sIx ds.length 0 lo = 0 ∧ HT.sIx ds.length ds.length hi = ds.length) : cutL ds lo hi = ds := by
  unfold cutL
  rw [h.1, h.2]
  simp
theorem de_sl (he : DE X m e te f) (hl : DO X lo tl fl) (hh : DO X hi th fh) : DE X .fz (.Subscript e (.Slice lo hi none p2) pos) (tSl (rSlC X.K) te tl th) (fSl f fl fh) := ⟨pe_slice sl_all he.p hl.p hh.p, fun B F H σ ρ z Q r hf q => by
  obtain ⟨d, h1, h2⟩ := bind_some hf
  obtain ⟨l, h3, h4⟩ := bind_some h2
  obtain ⟨h, h5, h6⟩ := bind_some h4
  refine he.s B F H σ ρ d _ r h1 fun v F1 H1 x1 r1 => ?_
  refine hl.s B F1 H1 σ ρ l _ (r.ext x1) h3 fun F2 H2 x2 => ?_
  refine hh.s B F2 H2 σ ρ h _ ((r.ext x1).ext x2) h5 fun F3 H3 x3 => ?_
  have r3 := (r1.mono x2).mono x3
  have x13 := (x1.trans x2).trans x3
  cases d with
  | tuple ds =>
    cases h6
    have rt := Res.rep r3 (fun _ z => nomatch z) (fun _ z => nomatch z)
    obtain ⟨a, xs, rfl, s1, p1⟩ := r3.tup x3.s
    refine .inl ⟨a, xs, rfl, s1.sq, fun hw => ?_, fun _ => newT_rep x13 (repA_cut p1 l h) q⟩
    rw [p1.length] at hw
    rw [cut_whole hw] at q
    exact q _ F3 H3 x13 rt
  | list ds =>
    cases h6
    obtain ⟨a, xs, rfl, s1, p1⟩ := r3.list x3.s
    refine .inr (.inl ⟨a, xs, rfl, s1, ?_⟩)
    refine newL_res x13 (repA_cut p1 l h) fun v F' H' x' r' => ?_
    obtain ⟨F5, x5, r5⟩ := fr_fz x' r'
    exact q v F5 H' x5 r5
  | str z =>
    obtain ⟨hz, rfl⟩ := if_some h6
    exact .inr (.inr ⟨z, r3.str, hz, q _ F3 H3 x13 (Rep.str _)⟩)
  | _ => cases h6⟩
theorem de_slK (K' : PySem.W.Frag) (he : DE X m e te f) (hl : DO X lo tl fl) (hh : DO X hi th fh) (hK : X.K = K' := by rfl) : DE X .fz (.Subscript e (.Slice lo hi none p2) pos) (tSl (rSlC K') te tl th) (fSl f fl fh) := by
  subst hK
  exact de_sl (he := he) (hl := hl) (hh := hh)
/-! ### list(range(..)) -/
theorem repA_rg {K : PySem.W.Frag} {F : Hp} (a b : Int) : RepA K F (rgV a b) (rgD a (b - a).toNat) := by
  unfold rgV rgD
  have e1 : (List.range (b - a).toNat).map (fun i => V.int (a + (i : Nat))) = ((List.range (b - a).toNat).map fun i => (a + (i : Nat))).map V.int := by rw [List.map_map]; rfl
  have e2 : (List.range (b - a).toNat).map (fun i => (.int (a + (i : Nat)) : D)) = ((List.range (b - a).toNat).map fun i => (a + (i : Nat))).map .int := by rw [List.map_map]; rfl
  rw [e1, e2]
  exact RepA.of_ints _
def fLr1 (f : Rho → Option D) : Rho → Option D := fun ρ => (f ρ).bind fun d => match d with
  | .int n => if -(2 ^ 62) ≤ n ∧ n ≤ 16777216 then some (.list (rgD 0 n.toNat)) else none
  | _ => none
theorem de_lr1 {q : Pos} (hg : Gl X "list") (hm : X.mg "list" = none) (hg2 : Gl X "range") (hm2 : X.mg "range" = none) (he : DE X m e te f) (hc : X.calm = true := by rfl) (na : starEach [.Call (.Name "range" p2) [e] [] q] X.env = (false, eval (.Call (.Name "range" p2) [e] [] q) X.env) :: starEach [] X.env := by rfl)
    (na2 : starEach [e] X.env = (false, eval e X.env) :: starEach [] X.env := by rfl) : DE X .fr (.Call (.Name "list" p) [.Call (.Name "range" p2) [e] [] q] [] pos) (tLstRg (tRg1 te)) (fLr1 f) := ⟨pe_listRg hc hg hm (prg_1 hg2 hm2 he.p na2) na, fun B F H σ ρ z Q r hf q => by
  obtain ⟨d, h1, h2⟩ := bind_some hf
  refine he.s B F H σ ρ d _ r h1 fun v F1 H1 x1 r1 => ?_
  cases d with
  | int n =>
    obtain ⟨hn, rfl⟩ := if_some h2
    refine ⟨n, r1.int, ⟨by omega, by omega, by omega, by omega, by omega⟩, ?_⟩
    have ra : RepA X.K F1 (rgV 0 n) (rgD 0 n.toNat) := by have := repA_rg (K := X.K) (F := F1) 0 n; rwa [Int.sub_zero] at this
    exact newL_res x1 ra q
  | _ => cases h2⟩
/-! ### isinstance -/
def tyName : D → String
  | .none => "NoneType"
  | .bool _ => "bool"
  | .int _ => "int"
  | .str _ => "str"
  | .list _ => "list"
  | .tuple _ => "tuple"
  | .dict _ => "dict"
def isiN (a b : String) : Bool := a == b || (a == "bool" && b == "int")
def tyB (b : String) : Bool := ["int", "bool", "str", "list", "tuple", "dict"].contains b
theorem kit_all : (["NoneType", "bool", "int", "str", "list", "tuple"].all fun a => ["int", "bool", "str", "list", "tuple", "dict"].all fun b => decide (kitB a b = some (isiN a b))) = true := by decide +kernel
theorem kit_of2 {K : PySem.W.Frag} {d : D} {b : String} (hd : tyName d ≠ "dict") (hb : tyB b = true) : PySem.W.kitOne K (.type (tyName d)) (.type b) = some (isiN (tyName d) b) := by
  refine kit_ty ?_
  have h := List.all_eq_true.mp kit_all (tyName d) (by cases d <;> first | (simp [tyName]; done) | exact absurd rfl hd)
  exact of_decide_eq_true (List.all_eq_true.mp h b (by simpa [tyB, List.contains_iff_mem] using hb))
theorem tyX_of {K : PySem.W.Frag} {m : Md} {H0 F H : Hp} {x : V} {d : D} (r : Res K m H0 F H x d) (fh : Same F H) (hd : tyName d ≠ "dict") : TyX K H x (.type (tyName d)) := by
  rcases r.any with r | ⟨a, rfl, _, o⟩
  · cases r with
    | non => exact .base .non
    | bl b => exact .base (.bl b)
    | int i => exact .base (.int i)
    | str x => exact .base (.str x)
    | lst h _ =>
      rcases h with (h | ⟨o, h⟩) | ⟨o, its, n, h1, h2, _⟩
      · exact .base (.lst (fh _ _ h))
      · exact .base (.frz (fh _ _ h))
      · exact .kList h1 h2
    | tup h _ =>
      rcases h with ⟨o, h, _⟩ | ⟨o, its, n, h1, h2, _⟩
      · exact .fTuple (fh _ _ h)
      · exact .kTuple h1 h2
    | dct _ _ => exact absurd rfl hd
  · cases d with
    | list ds => obtain ⟨vs, e, _⟩ := o; exact .base (.lst e)
    | dict es => exact absurd rfl hd
    | _ => exact o.elim
/-- isinstance(x, T) -/
def fIsi (b : String) (f : Rho → Option D) : Rho → Option D := fun ρ => (f ρ).bind fun d => match d with
  | .dict _ => none
  | d => some (.bool (isiN (tyName d) b))
theorem isi_some {b : String} {d z : D} (h : (match d with
  | .dict _ => none
  | d => some (.bool (isiN (tyName d) b))) = some z) : tyName d ≠ "dict" ∧ z = .bool (isiN (tyName d) b) := by
  cases d <;> first | (cases h; done) | (cases h; exact ⟨by simp [tyName], rfl⟩)
theorem ld_ty {b : String} {x : Str} {pos : Pos} (hg : Gl X x) (hm : X.mg x = none) (hv : bootBuiltins x = some (.type b)) (hn : x ≠ "__name__") (hdb : (x == ("__debug__" : Str)) = false) : PE X (.Name x pos) (tC (.ty b)) := pe_bltn hg hm hv (show RelV (.ty b) (.type b) from rfl) hn hdb
theorem de_isi {x y : Str} {b : String} {p3 : Pos} (hx : x = "isinstance") (hgi : Gl X x) (hmi : X.mg x = none) (hv0 : bootBuiltins x = some (.builtin "isinstance")) (hg : Gl X y) (hm : X.mg y = none) (hv : bootBuiltins y = some (.type b)) (he : DE X m e te f) (hb : tyB b = true := by decide) (hn0 : x ≠ "__name__" := by decide) (hdb0 : (x == ("__debug__" : Str)) = false := by decide) (hn : y ≠ "__name__" := by decide) (hdb : (y == ("__debug__" : Str)) = false := by decide)
    (s1 : starEach [e, .Name y p3] X.env = (false, eval e X.env) :: starEach [.Name y p3] X.env := by rfl) (s2 : starEach [.Name y p3] X.env = (false, eval (.Name y p3) X.env) :: starEach [] X.env := by rfl) (hpl : (backTo pos (starEach [.Name y p3] X.env)).any (·.1) = false := by rfl) :
    DE X .fz (.Call (.Name x p) [e, .Name y p3] [] pos) (tCB (rIsi X.K) (tCons te (tCons (tC (.ty b)) tNil))) (fIsi b f) :=
  ⟨pe_callB call_isi hgi hmi hv0 (pa_cons he.p (pa_cons (ld_ty hg hm hv hn hdb) pa_nil s2) s1) hn0 hdb0 s1 hpl, fun B F H σ ρ z Q r hf q => by
    obtain ⟨d, h1, h2⟩ := bind_some hf
    obtain ⟨hd, rfl⟩ := isi_some h2
    refine he.s B F H σ ρ d _ r h1 fun v F1 H1 x1 r1 => ?_
    exact ⟨v, .ty b, _, _, _, rfl, .ty b, tyX_of r1 x1.s hd, kit_of2 hd hb, q _ F1 H1 x1 (Rep.bl _)⟩⟩
theorem de_isiK (K' : PySem.W.Frag) {x y : Str} {b : String} {p3 : Pos} (hx : x = "isinstance") (hgi : Gl X x) (hmi : X.mg x = none) (hv0 : bootBuiltins x = some (.builtin "isinstance")) (hg : Gl X y) (hm : X.mg y = none) (hv : bootBuiltins y = some (.type b)) (he : DE X m e te f) (hb : tyB b = true := by decide) (hn0 : x ≠ "__name__" := by decide) (hdb0 : (x == ("__debug__" : Str)) = false := by decide) (hn : y ≠ "__name__" := by decide) (hdb : (y == ("__debug__" : Str)) = false := by decide) (s1 : starEach [e, .Name y p3] X.env = (false, eval e X.env) :: starEach [.Name y p3] X.env := by rfl) (s2 : starEach [.Name y p3] X.env = (false, eval (.Name y p3) X.env) :: starEach [] X.env := by rfl) (hpl : (backTo pos (starEach [.Name y p3] X.env)).any (·.1) = false := by rfl) (hK : X.K = K' := by rfl) : DE X .fz (.Call (.Name x p) [e, .Name y p3] [] pos) (tCB (rIsi K') (tCons te (tCons (tC (.ty b)) tNil))) (fIsi b f) := by
  subst hK
  exact de_isi (hx := hx) (hgi := hgi) (hmi := hmi) (hv0 := hv0) (hg := hg) (hm := hm) (hv := hv) (he := he) (hb := hb) (hn0 := hn0) (hdb0 := hdb0) (hn := hn) (hdb := hdb) (s1 := s1) (s2 := s2) (hpl := hpl)
/-- isinstance(x, (T, U)) -/
def fIsi2 (b c : String) (f : Rho → Option D) : Rho → Option D := fun ρ => (f ρ).bind fun d => match d with
  | .dict _ => none
  | d => some (.bool (isiN (tyName d) b || isiN (tyName d) c))
theorem de_isi2 {x y z : Str} {b c : String} {p3 p4 p5 : Pos} {k : Nat} (hx : x = "isinstance") (hgi : Gl X x) (hmi : X.mg x = none) (hv0 : bootBuiltins x = some (.builtin "isinstance")) (hg : Gl X y) (hm : X.mg y = none) (hv : bootBuiltins y = some (.type b)) (hg' : Gl X z) (hm' : X.mg z = none) (hv' : bootBuiltins z = some (.type c)) (he : DE X m e te f) (hb : tyB b = true := by decide) (hc : tyB c = true := by decide)
    (hn0 : x ≠ "__name__" := by decide) (hdb0 : (x == ("__debug__" : Str)) = false := by decide) (hn : y ≠ "__name__" := by decide) (hdb : (y == ("__debug__" : Str)) = false := by decide) (hn' : z ≠ "__name__" := by decide) (hdb' : (z == ("__debug__" : Str)) = false := by decide)
    (s1 : starEach [e, .Tuple [.Name y p3, .Name z p4] k p5] X.env = (false, eval e X.env) :: starEach [.Tuple [.Name y p3, .Name z p4] k p5] X.env := by rfl) (s2 : starEach [.Tuple [.Name y p3, .Name z p4] k p5] X.env = (false, eval (.Tuple [.Name y p3, .Name z p4] k p5) X.env) :: starEach [] X.env := by rfl) (hpl : (backTo pos (starEach [.Tuple [.Name y p3, .Name z p4] k p5] X.env)).any (·.1) = false := by rfl)
    (s3 : starEach [.Name y p3, .Name z p4] X.env = (false, eval (.Name y p3) X.env) :: starEach [.Name z p4] X.env := by rfl) (s4 : starEach [.Name z p4] X.env = (false, eval (.Name z p4) X.env) :: starEach [] X.env := by rfl) :
    DE X .fz (.Call (.Name x p) [e, .Tuple [.Name y p3, .Name z p4] k p5] [] pos) (tCB (rIsiT X.K) (tCons te (tCons (tTup (tCons (tC (.ty b)) (tCons (tC (.ty c)) tNil))) tNil))) (fIsi2 b c f) :=
  ⟨pe_callB call_isiT hgi hmi hv0 (pa_cons he.p (pa_cons (pe_tup (pa_cons (ld_ty hg hm hv hn hdb) (pa_cons (ld_ty hg' hm' hv' hn' hdb') pa_nil s4) s3)) pa_nil s2) s1) hn0 hdb0 s1 hpl, fun B F H σ ρ zz Q r hf q => by
    obtain ⟨d, h1, h2⟩ := bind_some hf
    have hd : tyName d ≠ "dict" ∧ zz = .bool (isiN (tyName d) b || isiN (tyName d) c) := by
      cases d <;> first | (cases h2; done) | (cases h2; exact ⟨by simp [tyName], rfl⟩)
    obtain ⟨hd, rfl⟩ := hd
    refine he.s B F H σ ρ d _ r h1 fun v F1 H1 x1 r1 => ⟨by show 2 ≤ sizeLine; decide, fun tp htp => ?_⟩
    have x2 := ext_own (o := .tup [.ty b, .ty c]) x1 htp
    have ty : TyX X.K (upd H1 tp (.tup [.ty b, .ty c])) v (.type (tyName d)) := tyX_of (r1.mono (ext_own (o := .tup [.ty b, .ty c]) (.refl x1.s) htp)) x2.s hd
    refine ⟨v, tp, _, _, [.type b, .type c], isiN (tyName d) b || isiN (tyName d) c, rfl, upd_same, .cons (.ty b) (.cons (.ty c) .nil), ty, ?_, q _ F1 _ x2 (Rep.bl _)⟩
    refine kitAny_cons (kit_of2 hd hb) (fun e1 => ?_) (fun e1 => by rw [e1]; rfl)
    rw [e1, Bool.false_or]
    refine kitAny_cons (kit_of2 hd hc) (fun e2 => ?_) (fun e2 => e2)
    rw [e2]
    rfl⟩
theorem de_isi2K (K' : PySem.W.Frag) {x y z : Str} {b c : String} {p3 p4 p5 : Pos} {k : Nat} (hx : x = "isinstance") (hgi : Gl X x) (hmi : X.mg x = none) (hv0 : bootBuiltins x = some (.builtin "isinstance")) (hg : Gl X y) (hm : X.mg y = none) (hv : bootBuiltins y = some (.type b)) (hg' : Gl X z) (hm' : X.mg z = none) (hv' : bootBuiltins z = some (.type c)) (he : DE X m e te f) (hb : tyB b = true := by decide) (hc : tyB c = true := by decide) (hn0 : x ≠ "__name__" := by decide) (hdb0 : (x == ("__debug__" : Str)) = false := by decide) (hn : y ≠ "__name__" := by decide) (hdb : (y == ("__debug__" : Str)) = false := by decide) (hn' : z ≠ "__name__" := by decide) (hdb' : (z == ("__debug__" : Str)) = false := by decide) (s1 : starEach [e, .Tuple [.Name y p3, .Name z p4] k p5] X.env = (false, eval e X.env) :: starEach [.Tuple [.Name y p3, .Name z p4] k p5] X.env := by rfl) (s2 : starEach [.Tuple [.Name y p3, .Name z p4] k p5] X.env = (false, eval (.Tuple [.Name y p3, .Name z p4] k p5) X.env) :: starEach [] X.env := by rfl) (hpl : (backTo pos (starEach [.Tuple [.Name y p3, .Name z p4] k p5] X.env)).any (·.1) = false := by rfl) (s3 : starEach [.Name y p3, .Name z p4] X.env = (false, eval (.Name y p3) X.env) :: starEach [.Name z p4] X.env := by rfl) (s4 : starEach [.Name z p4] X.env = (false, eval (.Name z p4) X.env) :: starEach [] X.env := by rfl) (hK : X.K = K' := by rfl) : DE X .fz (.Call (.Name x p) [e, .Tuple [.Name y p3, .Name z p4] k p5] [] pos) (tCB (rIsiT K') (tCons te (tCons (tTup (tCons (tC (.ty b)) (tCons (tC (.ty c)) tNil))) tNil))) (fIsi2 b c f) := by
  subst hK
  exact de_isi2 (hx := hx) (hgi := hgi) (hmi := hmi) (hv0 := hv0) (hg := hg) (hm := hm) (hv := hv) (hg' := hg') (hm' := hm') (hv' := hv') (he := he) (hb := hb) (hc := hc) (hn0 := hn0) (hdb0 := hdb0) (hn := hn) (hdb := hdb) (hn' := hn') (hdb' := hdb') (s1 := s1) (s2 := s2) (hpl := hpl) (s3 := s3) (s4 := s4)
end
/-! ### methods that change a list -/
section
variable {X : Cx} {m m1 : Md} {e : Expr} {te : TE} {f : Rho → Option D} {p p2 pos apos : Pos} {j : Nat} {x : Str}
theorem tyL {K : PySem.W.Frag} {H : Hp} {a : Addr} {xs : List V} (h : H a = some (.lst xs)) : tyV K "list" (.ref a) H := .inl ⟨rfl, xs, .of h⟩
/-- the owned list of a name -/
theorem Rel.own {K : PySem.W.Frag} {B : Bs} {F H : Hp} {σ : L2.St} {ρ : Rho} (r : Rel K B F H σ ρ) {ds : List D} (h : ρ[j]? = some (.ow (.list ds))) : ∃ a vs, σ[j]? = some (some (.ref a)) ∧ F a = none ∧ B.G a = none ∧ H a = some (.lst vs) ∧ RepA K F vs ds := by
  obtain ⟨o, e, a, rfl, h1, h2, vs, h3, h4⟩ := r.at h
  exact ⟨a, vs, e, h1, h2, h3, h4⟩
def bApp (j : Nat) (f : Rho → Option D) : Bd := fun ρ => match ρ[j]? with
  | some (.ow (.list ds)) => (f ρ).bind fun d => if ds.length < sizeLine then some (.nx (ρ.set j (.ow (.list (ds ++ [d]))))) else none
  | _ => none
theorem app_some {j : Nat} {f : Rho → Option D} {ρ : Rho} {o : Out} (h : bApp j f ρ = some o) : ∃ ds d, ρ[j]? = some (.ow (.list ds)) ∧ f ρ = some d ∧ ds.length < sizeLine ∧ o = .nx (ρ.set j (.ow (.list (ds ++ [d])))) := by
  unfold bApp at h
  split at h
  · rename_i ds e
    obtain ⟨d, h1, h2⟩ := bind_some h
    obtain ⟨h3, rfl⟩ := if_some h2
    exact ⟨ds, d, e, h1, h3, rfl⟩
  · cases h
theorem sem_app {K : PySem.W.Frag} (h : SemE K .fz te f) : SemS K m [] (tDrop (tBM K "list" rAppend (tVar j) (tCons te tNil))) (bApp j f) := by
  intro B F H σ ρ o D r hb q
  obtain ⟨ds, d, e1, e2, hl, rfl⟩ := app_some hb
  obtain ⟨a, vs, h1, h2, h3, h4, h5⟩ := r.own e1
  refine ⟨_, h1, tyL h4, ?_⟩
  refine h B F H σ ρ d _ r e2 fun v F1 H1 x1 r1 => ?_
  have h6 := x1.h _ _ h4
  refine ⟨a, vs, v, rfl, rfl, h6, by rw [h5.length]; exact hl, ?_⟩
  have hF1 : F1 a = none := x1.keepNone h2 (by rw [h4]; exact fun z => nomatch z)
  exact q σ F1 _ ((r.ext x1).write e1 h1 hF1 h3 ⟨vs ++ [v], upd_same, (h5.mono x1.f).append (.cons r1 .nil)⟩) fun _ _ => rfl
theorem pe_app {a : Expr} {r : V → List V → Hp → VK → Prop} {id : String} {name : Str} {ta : TE} {t : TA} {e : Expr} {es : List Expr} (slot : Slot "list" name id) (hty : typeOf (.builtin id) = pure (.type "method_descriptor")) (hm : MtR X id r) (ho : PE X a ta) (ha : PA X (e :: es) t)
    (hbase : attributeBase a name X.env (eval a X.env) = eval a X.env := by rfl)
    (hfew : ((backTo p (starEach (e :: es) X.env)).all (fun x => !x.1) && (backToKw p (keywordEach [] X.env)).all (fun x => x.1.isSome)
      && decide ((e :: es).length + ([] : List Keyword).length + (if ([] : List Keyword).isEmpty then 0 else 1) < 30)) = true := by rfl)
    (hline : (apos.endLine == p.line) = true := by rfl) (hs : starEach (e :: es) X.env = (false, eval e X.env) :: starEach es X.env := by rfl) (hplain : (backTo p (starEach es X.env)).any (·.1) = false := by rfl) :
    PE X (.Call (.Attribute a name apos) (e :: es) [] p) (tBM X.K "list" r ta t) := pe_bm PySem.F.plainAttrs_list slot hty hm ho ha hbase hfew hline hs hplain
/-- x.append(e) -/
theorem ds_app {pn : Pos} (he : DE X .fz e te f) (hN : X.N[j]? = some x := by rfl) (hv : Vis X.env.scope x := by first | exact Or.inl rfl | exact Or.inr (Or.inl rfl) | exact Or.inr (Or.inr rfl)) (hd : (x == ("__debug__" : Str)) = false := by decide) (hcd : (x == ("__classdict__" : Str)) = false := by decide)
    (hbase : attributeBase (.Name x pn) "append" X.env (eval (.Name x pn) X.env) = eval (.Name x pn) X.env := by rfl)
    (hfew : ((backTo p (starEach [e] X.env)).all (fun x => !x.1) && (backToKw p (keywordEach [] X.env)).all (fun x => x.1.isSome)
      && decide ([e].length + ([] : List Keyword).length + (if ([] : List Keyword).isEmpty then 0 else 1) < 30)) = true := by rfl)
    (hline : (apos.endLine == p.line) = true := by rfl) (hs : starEach [e] X.env = (false, eval e X.env) :: starEach [] X.env := by rfl) (hsw : swapsWith (.Call (.Attribute (.Name x pn) "append" apos) [e] [] p) none pos.line X.env = pure false := by rfl) :
    DS X m [] (.Expr (.Call (.Attribute (.Name x pn) "append" apos) [e] [] p) pos) (tDrop (tBM X.K "list" rAppend (tVar j) (tCons te tNil))) (bApp j f) :=
  ⟨ps_expr (pe_bm PySem.F.plainAttrs_list PySem.F.slot_list_append PySem.F.type_list_append mt_append (pe_var hN hv hd hcd) (pa_cons he.p pa_nil hs) hbase hfew hline hs rfl) hsw, sem_app he.s⟩
/-! effects within expressions -/
def SemX (K : PySem.W.Frag) (t : TE) (f : Rho → Option (D × Rho)) : Prop :=
  ∀ (B : Bs) (F H : Hp) (σ : L2.St) (ρ ρ' : Rho) (d : D) (Q : VK), Rel K B F H σ ρ → f ρ = some (d, ρ') → (∀ v F' H', Rel K B F' H' σ ρ' → Same F F' → Rep K F' v d → Q v H') → t σ H Q
structure DX (X : Cx) (e : Expr) (t : TE) (f : Rho → Option (D × Rho)) : Prop where
  p : PE X e t
  s : SemX X.K t f
def xPop (j : Nat) : Rho → Option (D × Rho) := fun ρ => match ρ[j]? with
  | some (.ow (.list ds)) => (ds[ds.length - 1]?).map fun d => (d, ρ.set j (.ow (.list ds.dropLast)))
  | _ => none
theorem dx_pop {pn : Pos} (hN : X.N[j]? = some x := by rfl) (hv : Vis X.env.scope x := by first | exact Or.inl rfl | exact Or.inr (Or.inl rfl) | exact Or.inr (Or.inr rfl)) (hd : (x == ("__debug__" : Str)) = false := by decide) (hcd : (x == ("__classdict__" : Str)) = false := by decide)
    (hbase : attributeBase (.Name x pn) "pop" X.env (eval (.Name x pn) X.env) = eval (.Name x pn) X.env := by rfl) (hline : (apos.endLine == p.line) = true := by rfl) :
    DX X (.Call (.Attribute (.Name x pn) "pop" apos) [] [] p) (tBM0 X.K "list" rPop (tVar j)) (xPop j) :=
  ⟨pe_bm0 PySem.F.plainAttrs_list PySem.F.slot_list_pop PySem.F.type_list_pop mt_pop (pe_var hN hv hd hcd) hbase hline, fun B F H σ ρ ρ' d Q r hf q => by
    unfold xPop at hf
    split at hf
    · rename_i ds e1
      obtain ⟨d', e2, e3⟩ := Option.map_eq_some_iff.mp hf
      cases e3
      obtain ⟨a, vs, h1, h2, h3, h4, h5⟩ := r.own e1
      obtain ⟨v, h6, h7⟩ := h5.get e2
      refine ⟨_, h1, tyL h4, a, vs, v, rfl, rfl, h4, by rw [h5.length]; exact h6, ?_⟩
      exact q v F _ (r.write e1 h1 h2 h3 ⟨vs.dropLast, upd_same, h5.dropLast⟩) (.refl _) h7
    · cases hf⟩
def xPopAt (j : Nat) (f : Rho → Option D) : Rho → Option (D × Rho) := fun ρ => match ρ[j]? with
  | some (.ow (.list ds)) => (f ρ).bind fun i => match i with
    | .int i => if -(2 ^ 63) ≤ i ∧ i < 2 ^ 63 then (seqIndex? i ds.length).bind fun k => (ds[k]?).map fun d => (d, ρ.set j (.ow (.list (ds.eraseIdx k)))) else none
    | _ => none
  | _ => none
theorem dx_popAt {pn : Pos} (he : DE X m e te f) (hN : X.N[j]? = some x := by rfl) (hv : Vis X.env.scope x := by first | exact Or.inl rfl | exact Or.inr (Or.inl rfl) | exact Or.inr (Or.inr rfl)) (hd : (x == ("__debug__" : Str)) = false := by decide) (hcd : (x == ("__classdict__" : Str)) = false := by decide)
    (hbase : attributeBase (.Name x pn) "pop" X.env (eval (.Name x pn) X.env) = eval (.Name x pn) X.env := by rfl)
    (hfew : ((backTo p (starEach [e] X.env)).all (fun x => !x.1) && (backToKw p (keywordEach [] X.env)).all (fun x => x.1.isSome)
      && decide ([e].length + ([] : List Keyword).length + (if ([] : List Keyword).isEmpty then 0 else 1) < 30)) = true := by rfl)
    (hline : (apos.endLine == p.line) = true := by rfl) (hs : starEach [e] X.env = (false, eval e X.env) :: starEach [] X.env := by rfl) :
    DX X (.Call (.Attribute (.Name x pn) "pop" apos) [e] [] p) (tBM X.K "list" rPopAt (tVar j) (tCons te tNil)) (xPopAt j f) :=
  ⟨pe_bm PySem.F.plainAttrs_list PySem.F.slot_list_pop PySem.F.type_list_pop mt_popAt (pe_var hN hv hd hcd) (pa_cons he.p pa_nil hs) hbase hfew hline hs rfl, fun B F H σ ρ ρ' d Q r hf q => by
    unfold xPopAt at hf
    split at hf
    · rename_i ds e1
      obtain ⟨i, e2, e3⟩ := bind_some hf
      obtain ⟨a, vs, h1, h2, h3, h4, h5⟩ := r.own e1
      refine ⟨_, h1, tyL h4, ?_⟩
      refine he.s B F H σ ρ i _ r e2 fun v F1 H1 x1 r1 => ?_
      cases i with
      | int i =>
        have e3' : (if -(2 ^ 63) ≤ i ∧ i < 2 ^ 63 then (seqIndex? i ds.length).bind fun k => (ds[k]?).map fun d => (d, ρ.set j (.ow (.list (ds.eraseIdx k)))) else none) = some (d, ρ') := e3
        by_cases hb : -(2 ^ 63) ≤ i ∧ i < 2 ^ 63
        · rw [if_pos hb] at e3'
          obtain ⟨k, e4, e5⟩ := bind_some e3'
          obtain ⟨d', e6, e7⟩ := Option.map_eq_some_iff.mp e5
          cases e7
          obtain ⟨w, h6, h7⟩ := h5.get e6
          have h8 := x1.h _ _ h4
          have hF1 : F1 a = none := x1.keepNone h2 (by rw [h4]; exact fun z => nomatch z)
          refine ⟨a, vs, i, k, w, rfl, by rw [r1.int], h8, hb.1, hb.2, by rw [h5.length]; exact e4, h6, ?_⟩
          exact q w F1 _ ((r.ext x1).write e1 h1 hF1 h3 ⟨vs.eraseIdx k, upd_same, (h5.mono x1.f).eraseIdx k⟩) x1.f (h7.mono x1.f)
        · rw [if_neg hb] at e3'; cases e3'
      | _ => cases e3
    · cases hf⟩
variable {fx : Rho → Option (D × Rho)}
/-- x = (an expression with an effect) -/
def bAsgX (i : Nat) (f : Rho → Option (D × Rho)) : Bd := fun ρ => (f ρ).bind fun z => some (.nx (z.2.set i (.im z.1)))
theorem sem_asgX {K : PySem.W.Frag} {i : Nat} (h : SemX K te fx) : SemS K m [i] (tAsg te (gName i)) (bAsgX i fx) := by
  intro B F H σ ρ o D r hb q
  obtain ⟨⟨d, ρ'⟩, h1, h2⟩ := bind_some hb
  cases h2
  exact h B F H σ ρ ρ' d _ r h1 fun v F1 H1 r1 _ rv => q _ F1 H1 (r1.setIm rv) set_keep
theorem ds_asgX {i : Nat} {x : Str} {pos' : Pos} (he : DX X e te fx) (hN : X.N.Nodup) (hi : X.N[i]? = some x := by rfl) (hx : Loc X.env.scope x := by first | exact Or.inl rfl | exact Or.inr rfl) (hs : swapsWith e (some (.Name x pos')) pos.line X.env = pure false := by rfl)
    (hf : X.fn x = true ∨ X.env.scope.names.lookup x = some .local := by first | exact .inl rfl | exact .inr rfl) : DS X m [i] (.Assign [.Name x pos'] e pos) (tAsg te (gName i)) (bAsgX i fx) := ⟨ps_set hN hi hx he.p hs hf, sem_asgX he.s⟩
/-- y.append(an expression with an effect) -/
def bAppX (j : Nat) (f : Rho → Option (D × Rho)) : Bd := fun ρ => (f ρ).bind fun z => match ρ[j]?, z.2[j]? with
  | some (.ow (.list _)), some (.ow (.list ds)) => if ds.length < sizeLine then some (.nx (z.2.set j (.ow (.list (ds ++ [z.1]))))) else none
  | _, _ => none
theorem sem_appX {K : PySem.W.Frag} (h : SemX K te fx) : SemS K m [] (tDrop (tBM K "list" rAppend (tVar j) (tCons te tNil))) (bAppX j fx) := by
  intro B F H σ ρ o D r hb q
  obtain ⟨⟨d, ρ'⟩, h1, h2⟩ := bind_some hb
  simp only at h2
  split at h2
  · rename_i ds0 ds e0 e1
    obtain ⟨hl, rfl⟩ := if_some h2
    obtain ⟨a, vs0, g1, g2, g3, g4, g5⟩ := r.own e0
    refine ⟨_, g1, tyL g4, ?_⟩
    refine h B F H σ ρ ρ' d _ r h1 fun v F1 H1 r1 s1 rv => ?_
    obtain ⟨a', vs, k1, k2, k3, k4, k5⟩ := r1.own e1
    rw [g1] at k1
    cases k1
    refine ⟨a, vs, v, rfl, rfl, k4, by rw [k5.length]; exact hl, ?_⟩
    exact q σ F1 _ (r1.write e1 g1 k2 k3 ⟨vs ++ [v], upd_same, k5.append (.cons rv .nil)⟩) fun _ _ => rfl
  · cases h2
theorem ds_appX {pn : Pos} (he : DX X e te fx) (hN : X.N[j]? = some x := by rfl) (hv : Vis X.env.scope x := by first | exact Or.inl rfl | exact Or.inr (Or.inl rfl) | exact Or.inr (Or.inr rfl)) (hd : (x == ("__debug__" : Str)) = false := by decide) (hcd : (x == ("__classdict__" : Str)) = false := by decide)
    (hbase : attributeBase (.Name x pn) "append" X.env (eval (.Name x pn) X.env) = eval (.Name x pn) X.env := by rfl)
    (hfew : ((backTo p (starEach [e] X.env)).all (fun x => !x.1) && (backToKw p (keywordEach [] X.env)).all (fun x => x.1.isSome)
      && decide ([e].length + ([] : List Keyword).length + (if ([] : List Keyword).isEmpty then 0 else 1) < 30)) = true := by rfl)
    (hline : (apos.endLine == p.line) = true := by rfl) (hs : starEach [e] X.env = (false, eval e X.env) :: starEach [] X.env := by rfl) (hsw : swapsWith (.Call (.Attribute (.Name x pn) "append" apos) [e] [] p) none pos.line X.env = pure false := by rfl) :
    DS X m [] (.Expr (.Call (.Attribute (.Name x pn) "append" apos) [e] [] p) pos) (tDrop (tBM X.K "list" rAppend (tVar j) (tCons te tNil))) (bAppX j fx) :=
  ⟨ps_expr (pe_bm PySem.F.plainAttrs_list PySem.F.slot_list_append PySem.F.type_list_append mt_append (pe_var hN hv hd hcd) (pa_cons he.p pa_nil hs) hbase hfew hline hs rfl) hsw, sem_appX he.s⟩
/-- y.append(x), x owned: frozen first -/
def bAppMv (j i : Nat) : Bd := fun ρ => match ρ[j]?, ρ[i]? with
  | some (.ow (.list ds)), some (.ow d) => if i ≠ j ∧ ds.length < sizeLine then some (.nx ((ρ.set i (.im d)).set j (.ow (.list (ds ++ [d]))))) else none
  | some (.ow (.list ds)), some (.im d) => if ds.length < sizeLine then some (.nx (ρ.set j (.ow (.list (ds ++ [d]))))) else none
  | _, _ => none
theorem sem_appMv {K : PySem.W.Frag} {i : Nat} : SemS K m [] (tDrop (tBM K "list" rAppend (tVar j) (tCons (tVar i) tNil))) (bAppMv j i) := by
  intro B F H σ ρ o D r hb q
  unfold bAppMv at hb
  split at hb
  · rename_i ds d e0 e1
    obtain ⟨⟨hij, hl⟩, rfl⟩ := if_some hb
    obtain ⟨a, vs, h1, h2, h3, h4, h5⟩ := r.own e0
    obtain ⟨F', v, s1, g1, g2, r2⟩ := r.freeze e1
    have e0' : (ρ.set i (.im d))[j]? = some (.ow (.list ds)) := by rw [List.getElem?_set_ne hij]; exact e0
    obtain ⟨a', vs', k1, k2, k3, k4, k5⟩ := r2.own e0'
    rw [h1] at k1
    cases k1
    refine ⟨_, h1, tyL h4, v, g1, a, vs', v, rfl, rfl, k4, by rw [k5.length]; exact hl, ?_⟩
    exact q σ F' _ (r2.write e0' h1 k2 k3 ⟨vs' ++ [v], upd_same, k5.append (.cons g2 .nil)⟩) fun _ _ => rfl
  · rename_i ds d e0 e1
    obtain ⟨hl, rfl⟩ := if_some hb
    obtain ⟨a, vs, h1, h2, h3, h4, h5⟩ := r.own e0
    obtain ⟨oo, g1, v, rfl, g2⟩ := r.at e1
    refine ⟨_, h1, tyL h4, v, g1, a, vs, v, rfl, rfl, h4, by rw [h5.length]; exact hl, ?_⟩
    exact q σ F _ (r.write e0 h1 h2 h3 ⟨vs ++ [v], upd_same, h5.append (.cons g2 .nil)⟩) fun _ _ => rfl
  · cases hb
theorem ds_appMv {i : Nat} {y : Str} {pn pm : Pos} (hN : X.N[j]? = some x := by rfl) (hv : Vis X.env.scope x := by first | exact Or.inl rfl | exact Or.inr (Or.inl rfl) | exact Or.inr (Or.inr rfl)) (hd : (x == ("__debug__" : Str)) = false := by decide) (hcd : (x == ("__classdict__" : Str)) = false := by decide)
    (hNi : X.N[i]? = some y := by rfl) (hvi : Vis X.env.scope y := by first | exact Or.inl rfl | exact Or.inr (Or.inl rfl) | exact Or.inr (Or.inr rfl)) (hdi : (y == ("__debug__" : Str)) = false := by decide) (hcdi : (y == ("__classdict__" : Str)) = false := by decide)
    (hbase : attributeBase (.Name x pn) "append" X.env (eval (.Name x pn) X.env) = eval (.Name x pn) X.env := by rfl)
    (hfew : ((backTo p (starEach [.Name y pm] X.env)).all (fun x => !x.1) && (backToKw p (keywordEach [] X.env)).all (fun x => x.1.isSome)
      && decide ([Expr.Name y pm].length + ([] : List Keyword).length + (if ([] : List Keyword).isEmpty then 0 else 1) < 30)) = true := by rfl)
    (hline : (apos.endLine == p.line) = true := by rfl) (hs : starEach [.Name y pm] X.env = (false, eval (.Name y pm) X.env) :: starEach [] X.env := by rfl) (hsw : swapsWith (.Call (.Attribute (.Name x pn) "append" apos) [.Name y pm] [] p) none pos.line X.env = pure false := by rfl) :
    DS X m [] (.Expr (.Call (.Attribute (.Name x pn) "append" apos) [.Name y pm] [] p) pos) (tDrop (tBM X.K "list" rAppend (tVar j) (tCons (tVar i) tNil))) (bAppMv j i) :=
  ⟨ps_expr (pe_bm PySem.F.plainAttrs_list PySem.F.slot_list_append PySem.F.type_list_append mt_append (pe_var hN hv hd hcd) (pa_cons (pe_var hNi hvi hdi hcdi) pa_nil hs) hbase hfew hline hs rfl) hsw, sem_appMv⟩
/-! x[i] = e -/
def bSet (j : Nat) (fi f : Rho → Option D) : Bd := fun ρ => (f ρ).bind fun d => match ρ[j]? with
  | some (.ow (.list ds)) => (fi ρ).bind fun i => match i with
    | .int i => (ixN ds.length i).bind fun k => some (.nx (ρ.set j (.ow (.list (ds.set k d)))))
    | _ => none
  | _ => none
theorem sem_set {K : PySem.W.Frag} {ti : TE} {fi : Rho → Option D} (h : SemE K .fz te f) (hi : SemE K m1 ti fi) : SemS K m [] (tAsg te (gSub (tVar j) ti rSetL)) (bSet j fi f) := by
  intro B F H σ ρ o D r hb q
  obtain ⟨d, h1, h2⟩ := bind_some hb
  split at h2
  · rename_i ds e1
    obtain ⟨i, h3, h4⟩ := bind_some h2
    refine h B F H σ ρ d _ r h1 fun v F1 H1 x1 r1 => ?_
    obtain ⟨a, vs, g1, g2, g3, g4, g5⟩ := (r.ext x1).own e1
    refine ⟨_, g1, ?_⟩
    refine hi B F1 H1 σ ρ i _ (r.ext x1) h3 fun w F2 H2 x2 r2 => ?_
    cases i with
    | int i =>
      obtain ⟨k, h5, h6⟩ := bind_some h4
      cases h6
      have hF2 : F2 a = none := x2.keepNone g2 (by rw [g4]; exact fun z => nomatch z)
      refine ⟨a, vs, i, k, rfl, r2.int, x2.h _ _ g4, by rw [g5.length]; exact h5, ?_⟩
      exact q σ F2 _ (((r.ext x1).ext x2).write e1 g1 hF2 g3 ⟨vs.set k v, upd_same, (g5.mono x2.f).set k (Rep.mono x2.f r1)⟩) fun _ _ => rfl
    | _ => cases h4
  · cases h2
theorem ds_set {i : Expr} {ti : TE} {fi : Rho → Option D} {pn : Pos} (he : DE X .fz e te f) (hi : DE X m1 i ti fi) (hN : X.N[j]? = some x := by rfl) (hv : Vis X.env.scope x := by first | exact Or.inl rfl | exact Or.inr (Or.inl rfl) | exact Or.inr (Or.inr rfl)) (hd : (x == ("__debug__" : Str)) = false := by decide) (hcd : (x == ("__classdict__" : Str)) = false := by decide)
    (ha : ∀ v, assign (.Subscript (.Name x pn) i p) X.env v = (do
      let ov ← holding [v] (eval (.Name x pn) X.env)
      let iv ← holding [v, ov] (eval i X.env)
      standAt p
      holding [v, ov, iv] (setItem ov iv v)
      release [v, ov, iv] []) := by intro _; rfl) (hs : swapsWithSole [.Subscript (.Name x pn) i p] e pos.line X.env = pure false := by rfl) (hw : swappedStores [.Subscript (.Name x pn) i p] e X.env = pure none := by rfl)
    (h1 : (assignEach [.Subscript (.Name x pn) i p] X.env).map (·.2) = [assign (.Subscript (.Name x pn) i p) X.env] := by rfl) : DS X m [] (.Assign [.Subscript (.Name x pn) i p] e pos) (tAsg te (gSub (tVar j) ti rSetL)) (bSet j fi f) :=
  ⟨ps_asg he.p (pg_sub (pe_var hN hv hd hcd) hi.p set_list ha) hs hw h1, sem_set he.s hi.s⟩
/-! x += e, x a number or a text -/
def augD (op : D → D → Option D) (i : Nat) (f : Rho → Option D) : Bd := fun ρ => match ρ[i]? with
  | some (.im d) => (f ρ).bind fun e => (op d e).bind fun z => some (.nx (ρ.set i (.im z)))
  | _ => none
theorem sem_aug {K : PySem.W.Frag} {i : Nat} {r2 : R2} {g : D → D → Option D} (hs : OpS K .fz r2 g) (h : SemE K m1 te f) : SemS K m [i] (tAug i te r2) (augD g i f) := by
  intro B F H σ ρ o D r hb q
  unfold augD at hb
  split at hb
  · rename_i d e1
    obtain ⟨e, h1, h2⟩ := bind_some hb
    obtain ⟨z, h3, h4⟩ := bind_some h2
    cases h4
    obtain ⟨oo, g1, v, rfl, g2⟩ := r.at e1
    refine ⟨v, g1, ?_⟩
    refine h B F H σ ρ e _ r h1 fun w F1 H1 x1 r1 => ?_
    exact hs F1 H1 H H v w d e z _ x1.s (Or.inl (g2.mono x1.f)) r1.any h3 fun u F2 H2 x2 r3 => q _ F2 H2 (((r.ext x1).ext x2).setIm r3) set_keep
  · cases hb
def addS : D → D → Option D
  | .int i, .int j => some (.int (i + j))
  | .str a, .str b => if a.length + b.length ≤ sizeLine then some (.str (a ++ b)) else none
  | _, _ => none
def rAddS : R2 := fun x y H Q => rI0 (fun i j => .int (i + j)) x y H Q ∨ (∃ i j, x = .str i ∧ y = .str j ∧ i.length + j.length ≤ sizeLine ∧ Q (.str (i ++ j)) H)
theorem iop_addS : OpR X (inplaceOp .Add) rAddS := iop_add.or iop_add_str
theorem ops_addS {K : PySem.W.Frag} : OpS K .fz rAddS addS := by
  intro F H Ha Hb x y d e z Q fh r1 r2 hz q
  cases d with
  | int i =>
    cases e with
    | int j => cases hz; exact .inl ⟨i, j, r1.int, r2.int, q _ F H (.refl fh) (Rep.int _)⟩
    | _ => cases hz
  | str i =>
    cases e with
    | str j =>
      obtain ⟨hl, rfl⟩ := if_some hz
      exact .inr ⟨i, j, r1.str, r2.str, hl, q _ F H (.refl fh) (Rep.str _)⟩
    | _ => cases hz
  | _ => cases hz
theorem ds_augAdd {i : Nat} {pos' : Pos} (he : DE X m1 e te f) (hN : X.N.Nodup) (hi : X.N[i]? = some x := by rfl) (hx : Loc X.env.scope x := by first | exact Or.inl rfl | exact Or.inr rfl)
    (hf : X.fn x = true ∨ X.env.scope.names.lookup x = some .local := by first | exact .inl rfl | exact .inr rfl) : DS X m [i] (.AugAssign (.Name x pos') .Add e pos) (tAug i te rAddS) (augD addS i f) := ⟨ps_aug hN hi hx he.p iop_addS hf, sem_aug ops_addS he.s⟩
theorem ds_augSub {i : Nat} {pos' : Pos} (he : DE X m1 e te f) (hN : X.N.Nodup) (hi : X.N[i]? = some x := by rfl) (hx : Loc X.env.scope x := by first | exact Or.inl rfl | exact Or.inr rfl)
    (hf : X.fn x = true ∨ X.env.scope.names.lookup x = some .local := by first | exact .inl rfl | exact .inr rfl) : DS X m [i] (.AugAssign (.Name x pos') .Sub e pos) (tAug i te (rI0 fun i j => .int (i - j))) (augD subD i f) := ⟨ps_aug hN hi hx he.p iop_sub hf, sem_aug ops_sub he.s⟩
/-- an expression for nothing -/
def bDrop (f : Rho → Option D) : Bd := fun ρ => (f ρ).bind fun _ => some (.nx ρ)
theorem ds_drop (he : DE X m1 e te f) (hs : swapsWith e none pos.line X.env = pure false := by rfl) : DS X m [] (.Expr e pos) (tDrop te) (bDrop f) := ⟨ps_expr he.p hs, fun B F H σ ρ o D r hb q => by
  obtain ⟨d, h1, h2⟩ := bind_some hb
  cases h2
  exact he.s B F H σ ρ d _ r h1 fun v F1 H1 x1 r1 => q σ F1 H1 (r.ext x1) fun _ _ => rfl⟩
theorem ds_doc {z : Str} {k : Nat} {p' : Pos} : DS X m [] (.Expr (.Constant (.str z) k p') pos) tNext bNext := ⟨ps_doc, fun B F H σ ρ o D r hb e => by cases hb; exact e σ F H r fun _ _ => rfl⟩
/-! (*xs, e) -/
def aStar (f : Rho → Option D) (fs : Rho → Option (List D)) : Rho → Option (List D) := fun ρ => (f ρ).bind fun d => (itemsD d).bind fun ds => (fs ρ).bind fun es => some (ds ++ es)
/-- a row with stars: no length known -/
structure DAs (X : Cx) (m : Md) (es : List Expr) (t : TA) (f : Rho → Option (List D)) : Prop where
  p : PA X es t
  s : SemA X.K m t f
variable {es : List Expr} {t : TA} {fs : Rho → Option (List D)}
theorem das_nil : DAs X m [] tNil aNil := ⟨pa_nil, (da_nil (X := X)).s⟩
theorem sem_cons {K : PySem.W.Frag} (ha : SemE K m te f) (hr : SemA K m t fs) : SemA K m (tCons te t) (aCons f fs) := fun B F H σ ρ ds Q rel hf q => by
  obtain ⟨d, h1, h2⟩ := bind_some hf
  obtain ⟨ds', h3, h4⟩ := bind_some h2
  cases h4
  refine ha B F H σ ρ d _ rel h1 fun x F1 H1 x1 r1 => ?_
  exact hr B F1 H1 σ ρ ds' _ (rel.ext x1) h3 fun xs F2 H2 x2 r2 => q _ F2 H2 (x1.trans x2) (.cons (r1.mono x2) (r2.back x1.h))
theorem das_cons (ha : DE X m e te f) (hr : DAs X m es t fs) (hs : starEach (e :: es) X.env = (false, eval e X.env) :: starEach es X.env := by rfl) : DAs X m (e :: es) (tCons te t) (aCons f fs) := ⟨pa_cons ha.p hr.p hs, sem_cons ha.s hr.s⟩
theorem resA_app {K : PySem.W.Frag} {H0 F H : Hp} : ∀ {vs ws : List V} {ds es : List D}, RepA K F vs ds → ResA K .fz H0 F H ws es → ResA K .fz H0 F H (vs ++ ws) (ds ++ es)
  | _, _, _, _, .nil, s => s
  | _, _, _, _, .cons h r, s => .cons (show Res K .fz H0 F H _ _ from h) (resA_app r s)
theorem das_star {p : Pos} (ha : DE X m1 e te f) (hr : DAs X .fz es t fs) (hs : starEach (.Starred e p :: es) X.env = (true, eval e X.env) :: starEach es X.env := by rfl) : DAs X .fz (.Starred e p :: es) (StX.tStar X.K te t) (aStar f fs) :=
  ⟨StX.pa_star ha.p hr.p hs, fun B F H σ ρ ds Q rel hf q => by
    obtain ⟨d, h1, h2⟩ := bind_some hf
    obtain ⟨es', h3, h4⟩ := bind_some h2
    obtain ⟨ds', h5, h6⟩ := bind_some h4
    cases h6
    refine ha.s B F H σ ρ d _ rel h1 fun x F1 H1 x1 r1 => ?_
    obtain ⟨a, xs, rfl, s1, p1⟩ := r1.items x1.s h3
    refine ⟨a, xs, rfl, s1.symm, ?_⟩
    exact hr.s B F1 H1 σ ρ ds' _ (rel.ext x1) h5 fun ys F2 H2 x2 r2 => q _ F2 H2 (x1.trans x2) (resA_app (p1.mono x2.f) (r2.back x1.h))⟩
theorem das_starK (K' : PySem.W.Frag) {p : Pos} (ha : DE X m1 e te f) (hr : DAs X .fz es t fs) (hs : starEach (.Starred e p :: es) X.env = (true, eval e X.env) :: starEach es X.env := by rfl) (hK : X.K = K' := by rfl) : DAs X .fz (.Starred e p :: es) (StX.tStar K' te t) (aStar f fs) := by
  subst hK
  exact das_star (ha := ha) (hr := hr) (hs := hs)
def fTupS (fs : Rho → Option (List D)) : Rho → Option D := fun ρ => (fs ρ).bind fun ds => if ds.length ≤ sizeLine then some (.tuple ds) else none
def fLstS (fs : Rho → Option (List D)) : Rho → Option D := fun ρ => (fs ρ).bind fun ds => if ds.length ≤ sizeLine then some (.list ds) else none
theorem de_tupS {k : Nat} (h : DAs X .fz es t fs) : DE X .fz (.Tuple es k pos) (tTupF t) (fTupS fs) := ⟨pe_tupF h.p, fun B F H σ ρ d Q rel hf q => by
  obtain ⟨ds, h1, h2⟩ := bind_some hf
  obtain ⟨hl, rfl⟩ := if_some h2
  exact h.s B F H σ ρ ds _ rel h1 fun xs F1 H1 x1 r1 => ⟨by rw [r1.length]; exact hl, newT_rep x1 r1.rep q⟩⟩
theorem de_lstS (h : DAs X .fz es t fs) : DE X .fr (.List es pos) (tLst t) (fLstS fs) := ⟨pe_lst h.p, fun B F H σ ρ d Q rel hf q => by
  obtain ⟨ds, h1, h2⟩ := bind_some hf
  obtain ⟨hl, rfl⟩ := if_some h2
  exact h.s B F H σ ρ ds _ rel h1 fun xs F1 H1 x1 r1 => ⟨by rw [r1.length]; exact hl, newL_res x1 r1.rep q⟩⟩
end
end Q
end

/-! part: Q11 -/
section
set_option Elab.async false
set_option linter.all false
set_option maxRecDepth 100000
set_option maxHeartbeats 4000000
set_option autoImplicit false
namespace Q
open PySem PySem.Spec PySem.Calls PyProof.Rows L2
/-! ### x, y = a, b -/
section
variable {X : Cx} {m m1 : Md} {a b c e : Expr} {te : TE} {f : Rho → Option D} {ta : TA} {fs : Rho → Option (List D)} {p p2 pos px py pz pt : Pos} {kt k2 : Nat} {pt2 : Pos} {x y z : Str}
def bPar (i j : Nat) (fs : Rho → Option (List D)) : Bd := fun ρ => (fs ρ).bind fun ds => match ds with
  | [d, e] => some (.nx ((ρ.set i (.im d)).set j (.im e)))
  | _ => none
def bPar3 (i j l : Nat) (fs : Rho → Option (List D)) : Bd := fun ρ => (fs ρ).bind fun ds => match ds with
  | [d, e, g] => some (.nx (((ρ.set i (.im d)).set j (.im e)).set l (.im g)))
  | _ => none
theorem sem_par {K : PySem.W.Frag} {i j : Nat} (h : SemA K .fz ta fs) : SemS K m [i, j] (tPar i j ta) (bPar i j fs) := by
  intro B F H σ ρ o D r hb q
  obtain ⟨ds, h1, h2⟩ := bind_some hb
  match ds, h1, h2 with
  | [d, e], h1, h2 =>
    cases h2
    refine h B F H σ ρ _ _ r h1 fun vs F1 H1 x1 r1 => ?_
    obtain ⟨v, w, rfl, r2, r3⟩ := resA2 r1
    refine ⟨v, w, rfl, q _ F1 H1 (((r.ext x1).setIm r2).setIm r3) fun k hk => ?_⟩
    have h4 : k ≠ i ∧ k ≠ j := by simpa using hk
    rw [List.getElem?_set_ne (Ne.symm h4.2), List.getElem?_set_ne (Ne.symm h4.1)]
theorem resA3 {K : PySem.W.Frag} {m : Md} {H0 F H : Hp} {vs : List V} {d e g : D} (h : ResA K m H0 F H vs [d, e, g]) : ∃ u v w, vs = [u, v, w] ∧ Res K m H0 F H u d ∧ Res K m H0 F H v e ∧ Res K m H0 F H w g := by
  cases h with
  | cons h1 r => cases r with
    | cons h2 r => cases r with
      | cons h3 r => cases r; exact ⟨_, _, _, rfl, h1, h2, h3⟩
theorem sem_par3 {K : PySem.W.Frag} {i j l : Nat} (h : SemA K .fz ta fs) : SemS K m [i, j, l] (tPar3 i j l ta) (bPar3 i j l fs) := by
  intro B F H σ ρ o D r hb q
  obtain ⟨ds, h1, h2⟩ := bind_some hb
  match ds, h1, h2 with
  | [d, e, g], h1, h2 =>
    cases h2
    refine h B F H σ ρ _ _ r h1 fun vs F1 H1 x1 r1 => ?_
    obtain ⟨u, v, w, rfl, r2, r3, r4⟩ := resA3 r1
    refine ⟨u, v, w, rfl, q _ F1 H1 ((((r.ext x1).setIm r2).setIm r3).setIm r4) fun k hk => ?_⟩
    have h4 : k ≠ i ∧ k ≠ j ∧ k ≠ l := by simpa using hk
    rw [List.getElem?_set_ne (Ne.symm h4.2.2), List.getElem?_set_ne (Ne.symm h4.2.1), List.getElem?_set_ne (Ne.symm h4.1)]
theorem ds_par {i j : Nat} (ha : DA X .fz [a, b] ta fs) (hN : X.N.Nodup) (hi : X.N[i]? = some x := by rfl) (hj : X.N[j]? = some y := by rfl) (hij : i ≠ j := by decide)
    (hx : X.env.scope.names.lookup x = some .local := by rfl) (hy : X.env.scope.names.lookup y = some .local := by rfl)
    (hw : swappedStores [.Tuple [.Name x px, .Name y py] kt pt] (.Tuple [a, b] k2 pt2) X.env = pure (some [x, y]) := by rfl)
    (hs : swapsWithSole [.Tuple [.Name x px, .Name y py] kt pt] (.Tuple [a, b] k2 pt2) pos.line X.env = pure false := by rfl) (hc : X.calm = true := by rfl) :
    DS X m [i, j] (.Assign [.Tuple [.Name x px, .Name y py] kt pt] (.Tuple [a, b] k2 pt2) pos) (tPar i j ta) (bPar i j fs) := ⟨ps_par hc hN hi hj hij hx hy ha.p hw hs, sem_par ha.s⟩
theorem ds_par3 {i j l : Nat} (ha : DA X .fz [a, b, c] ta fs) (hN : X.N.Nodup) (hi : X.N[i]? = some x := by rfl) (hj : X.N[j]? = some y := by rfl) (hl : X.N[l]? = some z := by rfl) (hij : i ≠ j := by decide) (hil : i ≠ l := by decide) (hjl : j ≠ l := by decide)
    (hx : X.env.scope.names.lookup x = some .local := by rfl) (hy : X.env.scope.names.lookup y = some .local := by rfl) (hz : X.env.scope.names.lookup z = some .local := by rfl)
    (hw : swappedStores [.Tuple [.Name x px, .Name y py, .Name z pz] kt pt] (.Tuple [a, b, c] k2 pt2) X.env = pure (some [x, y, z]) := by rfl)
    (hs : swapsWithSole [.Tuple [.Name x px, .Name y py, .Name z pz] kt pt] (.Tuple [a, b, c] k2 pt2) pos.line X.env = pure false := by rfl) (hc : X.calm = true := by rfl) :
    DS X m [i, j, l] (.Assign [.Tuple [.Name x px, .Name y py, .Name z pz] kt pt] (.Tuple [a, b, c] k2 pt2) pos) (tPar3 i j l ta) (bPar3 i j l fs) := ⟨ps_par3 hc hN hi hj hl hij hil hjl hx hy hz ha.p hw hs, sem_par3 ha.s⟩
/-- target = e, the target a tuple of names (or more) -/
def bAsgG (f : Rho → Option D) (s : D → Rho → Option Rho) : Bd := fun ρ => (f ρ).bind fun d => (s d ρ).bind fun ρ' => some (.nx ρ')
theorem ds_asgG {W : List Nat} {tg : Expr} {g : TG} {s : D → Rho → Option Rho} (he : DE X .fz e te f) (hg : DG false X W tg g s) (hs : swapsWithSole [tg] e pos.line X.env = pure false := by rfl) (hw : swappedStores [tg] e X.env = pure none := by rfl)
    (h1 : (assignEach [tg] X.env).map (·.2) = [assign tg X.env] := by rfl) : DS X m W (.Assign [tg] e pos) (tAsg te g) (bAsgG f s) := ⟨ps_asg he.p hg.p hs hw h1, fun B F H σ ρ o D r hb q => by
  obtain ⟨d, e1, e2⟩ := bind_some hb
  obtain ⟨ρ', e3, e4⟩ := bind_some e2
  cases e4
  refine he.s B F H σ ρ d _ r e1 fun v F1 H1 x1 r1 => ?_
  exact hg.s B F1 H1 σ ρ ρ' v d _ (r.ext x1) (.inl r1) e3 fun σ' r' k' _ => q σ' F1 H1 r' k'⟩
/-! ### len(set(xs)), ints -/
def dedupI : List Int → List Int
  | [] => []
  | n :: ns => if n ∈ ns then dedupI ns else n :: dedupI ns
theorem dedupI_mem (k : Int) : ∀ ns : List Int, k ∈ dedupI ns ↔ k ∈ ns
  | [] => by simp [dedupI]
  | n :: ns => by
    unfold dedupI
    by_cases h : n ∈ ns
    · rw [if_pos h, dedupI_mem k ns, List.mem_cons]
      exact ⟨.inr, fun z => z.elim (fun e => e ▸ h) id⟩
    · rw [if_neg h, List.mem_cons, List.mem_cons, dedupI_mem k ns]
theorem dedupI_nodup : ∀ ns : List Int, (dedupI ns).Nodup
  | [] => by simp [dedupI]
  | n :: ns => by
    unfold dedupI
    by_cases h : n ∈ ns
    · rw [if_pos h]; exact dedupI_nodup ns
    · rw [if_neg h, List.nodup_cons]; exact ⟨fun z => h ((dedupI_mem n ns).mp z), dedupI_nodup ns⟩
theorem dedup_len {l ns : List Int} (h : l.Nodup) (hm : ∀ k, k ∈ l ↔ k ∈ ns) : l.length = (dedupI ns).length :=
  ((List.perm_ext_iff_of_nodup h (dedupI_nodup ns)).mpr fun k => (hm k).trans (dedupI_mem k ns).symm).length_eq
theorem firstMet_all (f : Nat → Int) : ∀ i, (firstMet f i).Nodup ∧ ∀ k, k ∈ firstMet f i ↔ ∃ j, j < i ∧ f j = k
  | 0 => ⟨by simp [firstMet_zero], fun k => by simp [firstMet_zero]⟩
  | i + 1 => by
    obtain ⟨h1, h2⟩ := firstMet_all f i
    have key : ∀ k, (∃ j, j < i + 1 ∧ f j = k) ↔ (∃ j, j < i ∧ f j = k) ∨ f i = k := fun k => by
      constructor
      · rintro ⟨j, hj, e⟩
        by_cases z : j = i
        · subst z; exact .inr e
        · exact .inl ⟨j, by omega, e⟩
      · rintro (⟨j, hj, e⟩ | e)
        · exact ⟨j, by omega, e⟩
        · exact ⟨i, by omega, e⟩
    rw [firstMet_succ]
    unfold step_dedup
    cases hb : (firstMet f i).any (· == f i) with
    | true =>
      obtain ⟨y, hy, ey⟩ := List.any_eq_true.mp hb
      have ey2 : y = f i := eq_of_beq ey
      subst ey2
      refine ⟨by simpa using h1, fun k => ?_⟩
      rw [key, ← h2 k]
      simp only [if_true]
      exact ⟨.inl, fun z => z.elim id fun e => e ▸ hy⟩
    | false =>
      have hn : f i ∉ firstMet f i := fun z => by
        have : (firstMet f i).any (· == f i) = true := List.any_eq_true.mpr ⟨_, z, by simp⟩
        rw [hb] at this; cases this
      simp only [Bool.false_eq_true, if_false]
      refine ⟨?_, fun k => ?_⟩
      · rw [List.nodup_append]
        exact ⟨h1, by simp, fun a ha b hb e => by
          have hb' : b = f i := by simpa using hb
          subst hb'; subst e; exact hn ha⟩
      · rw [key, ← h2 k, List.mem_append, List.mem_singleton]
        exact ⟨fun z => z.imp id fun e => e.symm, fun z => z.imp id fun e => e.symm⟩
theorem firstMet_len (ns : List Int) : (firstMet (fun i => ns.getD i 0) ns.length).length = (dedupI ns).length := by
  obtain ⟨h1, h2⟩ := firstMet_all (fun i => ns.getD i 0) ns.length
  refine dedup_len h1 fun k => (h2 k).trans ?_
  constructor
  · rintro ⟨j, hj, e⟩
    rw [List.getD_eq_getElem?_getD, List.getElem?_eq_getElem hj] at e
    have e' : ns[j] = k := e
    exact e' ▸ List.getElem_mem hj
  · intro h
    obtain ⟨j, hj, e⟩ := List.mem_iff_getElem.mp h
    exact ⟨j, hj, by show ns.getD j 0 = k; rw [List.getD_eq_getElem?_getD, List.getElem?_eq_getElem hj]; exact e⟩
def tLenSetA (K : PySem.W.Frag) (ta : TE) : TE := fun σ H Q => ta σ H fun x H1 => ∃ (l : Addr) (ns : List Int), x = .ref l ∧ SqA K H1 l (ns.map V.int) ∧ ns.length ≤ 4000 ∧ Q (.int ((dedupI ns).length : Nat)) H1
theorem pe_lenSetA {a : Expr} {ta : TE} {p p2 q pos : Pos} (hg : Gl X "len") (hm : X.mg "len" = none) (hg2 : Gl X "set") (hm2 : X.mg "set" = none) (ha : PE X a ta) (hc : X.calm = true := by rfl)
    (na : starEach [a] X.env = (false, eval a X.env) :: starEach [] X.env := by rfl) : PE X (.Call (.Name "len" p) [.Call (.Name "set" p2) [a] [] q] [] pos) (tLenSetA X.K ta) := by
  refine ⟨fun pins s σ H Q I h => ?_⟩
  refine Call_ (ld_blt I hg hm PySem.boot_len ?_)
  refine PyProof.Rows.callWith_builtin1 (PyProof.Rows.args_cons ?_ rfl) rfl rfl
  refine Call_ (ld_blt I hg2 hm2 PyProof.Rows.boot_set ?_)
  refine PyProof.Rows.callWith_type1 (PyProof.Rows.args_cons (thn (ha.run pins s σ H _ I h) fun v s1 ⟨x, H1, I1, r1, q1⟩ => PyProof.Rows.args_nil ?_) na) na rfl
  obtain ⟨l, ns, rfl, hq, hl, q1⟩ := q1
  cases r1
  rcases hq with hq | hq
  · obtain ⟨its, r, pl, hz⟩ := I1.list hq
    have hlen : its.toArray.size = ns.length := by rw [List.size_toArray, ← r.length, List.length_map]
    refine call_set_list (I1.ok.hd hc) pl.isList (by simpa using RZ.intsAre_vals r) (by rw [hlen]; unfold scanBound; omega) fun h' tk hS hk => ?_
    refine PyProof.Rows.args_nil ?_
    rw [hlen, firstMet_len] at hS
    obtain ⟨o, es, ep, t, ho, hex, hd, _, _, _, hf, hn⟩ := hS
    have hle : (dedupI ns).length ≤ 4000 := by
      rw [← firstMet_len]
      exact Nat.le_trans (firstMet_length_le _ _) hl
    have I2 : Inv X pins σ H1 { s1 with heap := h', toks := tk } := I1.kept fun b o e => hk b o (Heap.lt_size e) e
    exact call_len_set ho hex hd hf (by rw [hn] <;> omega) ⟨.int (dedupI ns).length, H1, I2.tok _, ⟨_, by rw [hn]⟩, q1⟩
  · obtain ⟨its, r, pl, hz⟩ := I1.tuple hq
    refine call_set_tupI ns (I1.ok.hd hc) pl (by simpa using RZ.intsAre_vals r) (by unfold scanBound; omega) fun h' tk c hS hcl hk => ?_
    refine PyProof.Rows.args_nil ?_
    obtain ⟨o, es, ep, t, ho, hex, hd, _, nd, hmm, hb, hf, hn, _⟩ := hS
    have e1 : es.size = (dedupI ns).length := by
      have := dedup_len nd fun k => ((hmm k).symm.trans (by simp) : k ∈ es.toList.map keyOf ↔ k ∈ ns)
      simpa using this
    have I2 : Inv X pins σ H1 { s1 with heap := h', toks := tk } := I1.kept fun b o e => hk b o e
    exact call_len_set ho hex hd hf (by rw [hn] <;> omega) ⟨.int (dedupI ns).length, H1, I2.tok _, ⟨_, by rw [e1]⟩, q1⟩
def fLenSet (f : Rho → Option D) : Rho → Option D := fun ρ => (f ρ).bind fun d => (itemsD d).bind fun ds => (intsOf ds).bind fun ns => if ns.length ≤ 4000 then some (.int ((dedupI ns).length : Nat)) else none
theorem de_lenSet {a : Expr} {fa : Rho → Option D} {p p2 q pos : Pos} (hg : Gl X "len") (hm : X.mg "len" = none) (hg2 : Gl X "set") (hm2 : X.mg "set" = none) (ha : DE X m1 a te fa) (hc : X.calm = true := by rfl)
    (na : starEach [a] X.env = (false, eval a X.env) :: starEach [] X.env := by rfl) : DE X .fz (.Call (.Name "len" p) [.Call (.Name "set" p2) [a] [] q] [] pos) (tLenSetA X.K te) (fLenSet fa) :=
  ⟨pe_lenSetA hg hm hg2 hm2 ha.p hc na, fun B F H σ ρ z Q r hf q => by
    obtain ⟨d, h1, h2⟩ := bind_some hf
    obtain ⟨ds, h3, h4⟩ := bind_some h2
    obtain ⟨ns, h5, h6⟩ := bind_some h4
    obtain ⟨h7, rfl⟩ := if_some h6
    refine ha.s B F H σ ρ d _ r h1 fun v F1 H1 x1 r1 => ?_
    obtain ⟨a, xs, rfl, s1, p1⟩ := r1.items x1.s h3
    cases intsOf_map h5
    refine ⟨a, ns, rfl, ?_, h7, q _ F1 H1 x1 (Rep.int _)⟩
    rw [← p1.ints]
    exact s1⟩
theorem de_lenSetK (K' : PySem.W.Frag) {a : Expr} {fa : Rho → Option D} {p p2 q pos : Pos} (hg : Gl X "len") (hm : X.mg "len" = none) (hg2 : Gl X "set") (hm2 : X.mg "set" = none) (ha : DE X m1 a te fa) (hc : X.calm = true := by rfl) (na : starEach [a] X.env = (false, eval a X.env) :: starEach [] X.env := by rfl) (hK : X.K = K' := by rfl) : DE X .fz (.Call (.Name "len" p) [.Call (.Name "set" p2) [a] [] q] [] pos) (tLenSetA K' te) (fLenSet fa) := by
  subst hK
  exact de_lenSet (hg := hg) (hm := hm) (hg2 := hg2) (hm2 := hm2) (ha := ha) (hc := hc) (na := na)
/-! ### a tuple times an int -/
def rRepF (K : PySem.W.Frag) : R2 := fun x y H Q => ∃ l k xs, x = .ref l ∧ y = .int k ∧ SqT K H l xs ∧ xs ≠ [] ∧ 2 ≤ k ∧ k ≤ 1000 ∧ xs.length ≤ 1000 ∧ NewT (List.replicate k.toNat xs).flatten H Q
theorem op_repF : OpR X (binaryOp .Mult) (rRepF X.K) := by
  intro pins s σ H x y v u Q I rx ry h
  obtain ⟨l, k, xs, rfl, rfl, hT, hne, h1, h2, hz, q⟩ := h
  cases rx
  obtain ⟨t, rfl⟩ := ry
  obtain ⟨its, r, ⟨⟨cls, dd, data, sl⟩, ho, hc, n, hd⟩, hs⟩ := I.tuple hT
  simp only at hc hd
  subst hc hd
  have hle : its.length = xs.length := r.length.symm
  have hn : its ≠ [] := fun e => hne (by
    rw [e] at hle
    exact List.eq_nil_of_length_eq_zero hle.symm)
  have hi : its.toArray.isEmpty = false := by
    cases its with
    | nil => exact absurd rfl hn
    | cons a b => rfl
  have hsz0 : its.toArray.size = xs.length := by rw [List.size_toArray, hle]
  have hm : ((its.toArray.size : Nat) : Int) * k ≤ 1000000 := by
    rw [hsz0]
    have a1 : ((xs.length : Nat) : Int) * k ≤ 1000 * k := Int.mul_le_mul_of_nonneg_right (by omega) (by omega)
    omega
  have flen : (List.replicate k.toNat its).flatten.length ≤ sizeLine := by
    rw [PyProof.Rows.lm_len_rep_flat, hle, sizeLine_eq]
    have a1 : k.toNat * xs.length ≤ 1000 * 1000 := Nat.mul_le_mul (by omega) hz
    omega
  have c0 : (decide (k < -(2 ^ 63)) || decide (k ≥ 2 ^ 63)) = false := by
    rw [decide_eq_false (by omega), decide_eq_false (by omega)] <;> rfl
  have c1 : (its.toArray.isEmpty || k == 1) = false := by
    rw [hi, Bool.false_or]
    exact beq_eq_false_iff_ne.mpr (by omega)
  have c2 : (decide (k ≤ 0) || its.toArray.isEmpty) = false := by
    rw [hi, Bool.or_false]
    exact decide_eq_false (by omega)
  have c4 : Builtin.Tuple.tupleTooMany (((its.toArray.size : Nat) : Int) * k) = false := by
    unfold Builtin.Tuple.tupleTooMany
    rw [sizeLine_eq]
    exact decide_eq_false (by omega)
  refine wpAny_binaryOp_repeat_ref (T := "tuple") (U := "int") (by decide) ⟨_, ho, rfl⟩ (fun s' => typeIs_int s' k t) noFill_tuple_mul PySem.F.fills_int_mul PySem.F.slot_int_rmul repeat_tuple PySem.F.slot_int_index.lookup
    (call_meets PySem.F.slot_int_rmul (typeIs_int s k t) PySem.F.entry_int_rmul (PySem.F.args_int_rmul_2 _ _) (int_rmul_tuple k t l its.toArray n dd sl)
      ⟨ho, rfl, ⟨_, ho, rfl⟩, call_meets PySem.F.slot_tuple_mul ⟨_, ho, rfl⟩ PySem.F.entry_tuple_mul (PySem.F.args_tuple_mul_2 _ _) (tuple_mulW l its.toArray n dd sl k t c0 c1 c2 (by omega) c4 (by rw [size_rep, List.size_toArray]; exact flen)) ⟨ho, ?_⟩⟩)
  rw [size_rep]
  refine ⟨.ref s.heap.objs.size, _, I.laidT (t' := s.toks) (r.rep k.toNat) (by rw [PyProof.Rows.lm_len_rep_flat, sizeLine_eq]; have a1 : k.toNat * xs.length ≤ 1000 * 1000 := Nat.mul_le_mul (by omega) hz; omega), rfl, q _ _ (I.hok.fresh (Nat.le_refl _)) rfl rfl⟩
theorem op_repFK (K' : PySem.W.Frag) (hK : X.K = K' := by rfl) : OpR X (binaryOp .Mult) (rRepF K') := by
  subst hK
  exact op_repF 
theorem RepA.rep {K : PySem.W.Frag} {F : Hp} {vs : List V} {ds : List D} (r : RepA K F vs ds) : ∀ n : Nat, RepA K F (List.replicate n vs).flatten (List.replicate n ds).flatten
  | 0 => .nil
  | n + 1 => by rw [List.replicate_succ, List.replicate_succ, List.flatten_cons, List.flatten_cons]; exact r.append (RepA.rep r n)
def repTD : D → D → Option D
  | .tuple ds, .int k => if ds ≠ [] ∧ 2 ≤ k ∧ k ≤ 1000 ∧ ds.length ≤ 1000 then some (.tuple (List.replicate k.toNat ds).flatten) else none
  | _, _ => none
theorem ops_repT {K : PySem.W.Frag} : OpS K .fz (rRepF K) repTD := by
  intro F H Ha Hb x y d e z Q fh r1 r2 hz q
  match d, e, r1, r2, hz with
  | .tuple ds, .int k, r1, r2, hz =>
    obtain ⟨⟨h1, h2, h3, h4⟩, rfl⟩ := if_some hz
    obtain ⟨a, vs, rfl, s1, p1⟩ := r1.tup fh
    exact ⟨a, k, vs, rfl, r2.int, s1.sq, fun e0 => h1 (by subst e0; cases p1; rfl), h2, h3, by rw [p1.length]; exact h4, newT_rep (.refl fh) (p1.rep _) q⟩
/-! ### a list times an int: a new list -/
def repLD : D → D → Option D
  | .list ds, .int k => if -(2 ^ 63) ≤ k ∧ k < 2 ^ 63 ∧ ds.length * k.toNat ≤ sizeLine then some (.list (List.replicate k.toNat ds).flatten) else none
  | _, _ => none
/-- [..] * e -/
theorem de_repL {es : List Expr} (ha : DE X .fr (.List es p) te f) {tb : TE} {fb : Rho → Option D} (hb : DE X m1 b tb fb) : DE X .fr (.BinOp (.List es p) .Mult b pos) (tOp rRep te tb) (f2 repLD f fb) :=
  ⟨pe_op op_rep ha.p hb.p, fun B F H σ ρ z Q r hf q => by
    obtain ⟨d, h1, h2⟩ := bind_some hf
    obtain ⟨e, h3, h4⟩ := bind_some h2
    refine ha.s B F H σ ρ d _ r h1 fun v F1 H1 x1 r1 => ?_
    refine hb.s B F1 H1 σ ρ e _ (r.ext x1) h3 fun u F2 H2 x2 r2 => ?_
    match d, e, r1, r2, h4 with
    | .list ds, .int k, r1, r2, h4 =>
      obtain ⟨⟨h5, h6, h7⟩, rfl⟩ := if_some h4
      obtain ⟨a, rfl, h0, hf, xs, hH, ra⟩ := r1
      refine ⟨a, k, xs, rfl, r2.int, x2.h _ _ hH, h5, h6, by rw [ra.length]; exact h7, ?_⟩
      exact newL_res (x1.trans x2) ((ra.mono x2.f).rep _) fun v' F' H' x' r' => q v' F' H' x' (r'.back (F1 := F1) (.refl _))⟩
end
end Q
end

/-! part: Q12 -/
section
set_option Elab.async false
set_option linter.all false
set_option maxRecDepth 100000
set_option maxHeartbeats 4000000
set_option autoImplicit false
namespace Q
open PySem PySem.Spec PySem.Calls PyProof.Rows L2
theorem bt_len : bootBuiltins "len" = some (.builtin "len") := by decide +kernel
theorem bt_sorted : bootBuiltins "sorted" = some (.builtin "sorted") := by decide +kernel
theorem bt_sum : bootBuiltins "sum" = some (.builtin "sum") := by decide +kernel
theorem bt_min : bootBuiltins "min" = some (.builtin "min") := by decide +kernel
theorem bt_max : bootBuiltins "max" = some (.builtin "max") := by decide +kernel
theorem bt_abs : bootBuiltins "abs" = some (.builtin "abs") := by decide +kernel
theorem bt_all : bootBuiltins "all" = some (.builtin "all") := by decide +kernel
theorem bt_any : bootBuiltins "any" = some (.builtin "any") := by decide +kernel
theorem bt_isinstance : bootBuiltins "isinstance" = some (.builtin "isinstance") := by decide +kernel
theorem bt_int : bootBuiltins "int" = some (.type "int") := by decide +kernel
theorem bt_bool : bootBuiltins "bool" = some (.type "bool") := by decide +kernel
theorem bt_str : bootBuiltins "str" = some (.type "str") := by decide +kernel
theorem bt_list : bootBuiltins "list" = some (.type "list") := by decide +kernel
theorem bt_tuple : bootBuiltins "tuple" = some (.type "tuple") := by decide +kernel
theorem bt_dict : bootBuiltins "dict" = some (.type "dict") := by decide +kernel
theorem _root_.L2.Room.u64 {k : Nat} {A : Around} (r : Room k A) : A.units + 64 < cLine := r.units
theorem _root_.L2.Room.u65 {k : Nat} {A : Around} (r : Room k A) : A.units + 65 < cLine := by have := r.un; omega
theorem _root_.L2.Room.u70 {k : Nat} {A : Around} (r : Room k A) : A.units + 70 < cLine := by have := r.un; omega
theorem blk_of {N : List Str} {sc scope : Scope} {own : List (Str × Nat)} (h : blkC N sc scope own = true) : blkC N sc scope own = true := h
/-! ### a if t else b as a test; the given rules with the written part named -/
section
variable {X : Cx} {a b c : Expr} {tc ta tb : TT} {fc fa fb : Rho → Option Bool} {pos : Pos}
def tIfT (t a b : TT) : TT := fun σ H Q => t σ H fun c H1 => if c = true then a σ H1 Q else b σ H1 Q
def fIfT (fc fa fb : Rho → Option Bool) : Rho → Option Bool := fun ρ => (fc ρ).bind fun k => if k = true then fa ρ else fb ρ
theorem dt_if (hc : DT X c tc fc) (ha : DT X a ta fa) (hb : DT X b tb fb) : DT X (.IfExp c a b pos) (tIfT tc ta tb) (fIfT fc fa fb) :=
  ⟨⟨fun pins s σ H Q I h => by
    refine PyProof.Rows.isTrue_IfExp (thn (hc.p.run pins s σ H _ I h) fun d s1 ⟨H1, I1, q1⟩ => ?_)
    cases d with
    | true => exact ha.p.run pins s1 σ H1 Q I1 q1
    | false => exact hb.p.run pins s1 σ H1 Q I1 q1⟩, fun B F H σ ρ z Q r hf q => by
    obtain ⟨k, h1, h2⟩ := bind_some hf
    refine hc.s B F H σ ρ k _ r h1 fun F1 H1 x1 => ?_
    cases k with
    | true => exact ha.s B F1 H1 σ ρ z _ (r.ext x1) h2 fun F2 H2 x2 => q F2 H2 (x1.trans x2)
    | false => exact hb.s B F1 H1 σ ρ z _ (r.ext x1) h2 fun F2 H2 x2 => q F2 H2 (x1.trans x2)⟩
theorem op_eqDK (K' : PySem.W.Frag) (hu : X.A.units + 64 < cLine) (hK : X.K = K' := by rfl) : OpR X (compareOp .Eq) (rEqD K') := by
  subst hK; exact op_eqD hu
theorem op_neDK (K' : PySem.W.Frag) (hu : X.A.units + 64 < cLine) (hK : X.K = K' := by rfl) : OpR X (compareOp .NotEq) (rNeD K') := by
  subst hK; exact op_neD hu
theorem call_lenK (K' : PySem.W.Frag) (hK : X.K = K' := by rfl) : CallR X (.builtin "len") (rLen K') := by
  subst hK; exact call_len
theorem call_list_ofK (K' : PySem.W.Frag) (hK : X.K = K' := by rfl) : CallR X (.type "list") (rLstC K') := by
  subst hK; exact call_list_of
theorem cr_allK (K' : PySem.W.Frag) (hc : X.calm = true) (hK : X.K = K' := by rfl) : CallR X (.builtin "all") (rAll K') := by
  subst hK; exact cr_all hc
theorem cr_anyK (K' : PySem.W.Frag) (hc : X.calm = true) (hK : X.K = K' := by rfl) : CallR X (.builtin "any") (rAny K') := by
  subst hK; exact cr_any hc
end
/-! ### what is known of a def by its name -/
def Ok (P : Program) (w : World) (K : PySem.W.Frag) (mg : Str → Option Value) (base : Heap) (k : Nat) (x : Str) (ps : List Str) (m : Md) (Φ : List D → Option D) : Prop :=
  ∃ fd : FuncData, FnOk P w K mg base CX0 k (He.ga K x) fd ps (spM K m Φ) ∧ PySem.W.keepIn K (.ref (He.ga K x)) = true ∧ Binds K fd ps [] ∧ mg x = some (.ref (He.ga K x))
def fnB (n p : Nat) (b : Bd) : List D → Option D := fun ds => if ds.length = p then runB n b ds else none
/-- a def that never runs off its end -/
def runR (n : Nat) (b : Bd) : List D → Option D := fun ds => (b (ds.map .im ++ List.replicate (n - ds.length) .un)).bind fun o => match o with
  | .rt d => some d
  | _ => none
def fnR (n p : Nat) (b : Bd) : List D → Option D := fun ds => if ds.length = p then runR n b ds else none
section
variable {P : Program} {w : World} {K : PySem.W.Frag} {mg : Str → Option Value} {base : Heap} {x qual : Str} {params : Arguments} {body : List Stmt} {scope : Scope} {fd : FuncData} {N ps : List Str} {k j : Nat} {m : Md} {b : Bd} {Φ : List D → Option D}
theorem Ok.mono (h : Ok P w K mg base j x ps m Φ) (e : j ≤ k) : Ok P w K mg base k x ps m Φ := by
  obtain ⟨fd, h1, h2, h3, h4⟩ := h
  exact ⟨fd, h1.mono e, h2, h3, h4⟩
theorem ok_fz (Fd : FunD K x qual params body scope [] [] (He.ga K x) fd) (S : FnScope N ps scope)
    (hb0 : ∀ (kV doc pm : Value) (an : Option Addr) (cdv ct : Value) (us : List Value), us.length = ps.length → bindArgs (PySem.W.fnOf x qual params body scope .none kV doc pm an cdv ct) ⟨us, []⟩ = pure (ps.zip us))
    (hg : mg x = some (.ref (He.ga K x)))
    (hb : ∀ (cdv : Value) (A : Around) (outer : List Env) (s : Shared) (H : Hp) (E : XK), Room k (A.deeper (envOfC qual scope s.heap.objs.size (He.ga K x) cdv)) →
      ∃ W t, DSs (cxOf CX0 P w K mg base N qual scope (He.ga K x) cdv A outer s H E).nox .fz W body t b) : Ok P w K mg base (k + 1) x ps .fz (fnB N.length ps.length b) :=
  ⟨fd, fn_den Fd S _ (fun ds r h => if_someB h) (.inl rfl) hb, Fd.kp, Fd.bindsN hb0, hg⟩
where
  if_someB {ds : List D} {r : D} (h : fnB N.length ps.length b ds = some r) : ds.length = ps.length ∧ runB N.length b ds = some r := by
    unfold fnB at h
    by_cases hl : ds.length = ps.length
    · rw [if_pos hl] at h; exact ⟨hl, h⟩
    · rw [if_neg hl] at h; cases h
/-- as fn_den, the body ends by return -/
theorem fn_denR {f : Addr} (Fd : FunD K x qual params body scope [] [] f fd) (S : FnScope N ps scope) (Φ : List D → Option D) (hΦ : ∀ ds r, Φ ds = some r → ds.length = ps.length ∧ runR N.length b ds = some r)
    (hb : ∀ (cdv : Value) (A : Around) (outer : List Env) (s : Shared) (H : Hp) (E : XK), Room k (A.deeper (envOfC qual scope s.heap.objs.size f cdv)) →
      ∃ W t, DSs (cxOf CX0 P w K mg base N qual scope f cdv A outer s H E).nox m W body t b) : FnOk P w K mg base CX0 (k + 1) f fd ps (spM K m Φ) := by
  have lenOf : ∀ vs H Q E, spM K m Φ vs H Q E → vs.length = ps.length := fun vs H Q E h => by
    obtain ⟨F, ds, r, _, ra, hr, _⟩ := h
    rw [ra.length]
    exact (hΦ ds r hr).1
  refine Fd.ok S lenOf fun cdv A outer s H vs Q E hr h => ?_
  obtain ⟨W, t, D⟩ := hb cdv A outer s H E hr
  refine ⟨t, D.p.nox, ?_⟩
  obtain ⟨F, ds, r, fh, ra, hP, q⟩ := h
  obtain ⟨hl, hrun⟩ := hΦ ds r hP
  obtain ⟨o, e1, e2⟩ := bind_some hrun
  have hlen : ps.length ≤ N.length := by
    have e := congrArg List.length S.pre
    rw [List.length_take] at e
    omega
  refine D.s { F0 := F, G := H } F H _ _ o _ (start_rel ra (by rw [hl]; exact hlen) fh) e1 ?_
  cases o with
  | rt d =>
    cases e2
    intro v F' H' ro
    obtain ⟨a1, a2, a3, a4, a5⟩ := ro
    exact q v F' H' ⟨a1, a2, a4, a3⟩ a5
  | nx ρ' => cases e2
  | bk ρ' => cases e2
  | ct ρ' => cases e2
theorem ok_fr (Fd : FunD K x qual params body scope [] [] (He.ga K x) fd) (S : FnScope N ps scope)
    (hb0 : ∀ (kV doc pm : Value) (an : Option Addr) (cdv ct : Value) (us : List Value), us.length = ps.length → bindArgs (PySem.W.fnOf x qual params body scope .none kV doc pm an cdv ct) ⟨us, []⟩ = pure (ps.zip us))
    (hg : mg x = some (.ref (He.ga K x)))
    (hb : ∀ (cdv : Value) (A : Around) (outer : List Env) (s : Shared) (H : Hp) (E : XK), Room k (A.deeper (envOfC qual scope s.heap.objs.size (He.ga K x) cdv)) →
      ∃ W t, DSs (cxOf CX0 P w K mg base N qual scope (He.ga K x) cdv A outer s H E).nox m W body t b) : Ok P w K mg base (k + 1) x ps m (fnR N.length ps.length b) :=
  ⟨fd, fn_denR Fd S _ (fun ds r h => if_someR h) hb, Fd.kp, Fd.bindsN hb0, hg⟩
where
  if_someR {ds : List D} {r : D} (h : fnR N.length ps.length b ds = some r) : ds.length = ps.length ∧ runR N.length b ds = some r := by
    unfold fnR at h
    by_cases hl : ds.length = ps.length
    · rw [if_pos hl] at h; exact ⟨hl, h⟩
    · rw [if_neg hl] at h; cases h
/-- the law itself -/
theorem law_fz {f : Addr} (Fd : FunD K x qual params body scope [] [] f fd) (S : FnScope N ps scope)
    (hb : ∀ (cdv : Value) (A : Around) (outer : List Env) (s : Shared) (H : Hp) (E : XK), Room k (A.deeper (envOfC qual scope s.heap.objs.size f cdv)) →
      ∃ W t, DSs (cxOf CX0 P w K mg base N qual scope f cdv A outer s H E).nox .fz W body t b) : FnOk P w K mg base CX0 (k + 1) f fd ps (spM K .fz (fnB N.length ps.length b)) :=
  fn_den Fd S _ (fun ds r h => ok_fz.if_someB h) (.inl rfl) hb
/-- the ground of a recursion: no promise -/
theorem ok_zero (Fd : FunD K x qual params body scope [] [] (He.ga K x) fd)
    (hb0 : ∀ (kV doc pm : Value) (an : Option Addr) (cdv ct : Value) (us : List Value), us.length = ps.length → bindArgs (PySem.W.fnOf x qual params body scope .none kV doc pm an cdv ct) ⟨us, []⟩ = pure (ps.zip us))
    (hg : mg x = some (.ref (He.ga K x))) : Ok P w K mg base k x ps m (fun _ => none) :=
  ⟨fd, ⟨fun vs H Q E h => (by obtain ⟨F, ds, r, _, _, h, _⟩ := h; cases h), fun A outer s H args us vs Q E _ _ _ _ h => (by obtain ⟨F, ds, r, _, _, h, _⟩ := h; cases h)⟩, Fd.kp, Fd.bindsN hb0, hg⟩
end
section
variable {X : Cx} {m m1 : Md} {k j : Nat} {ps : List Str} {Φ : List D → Option D} {x : Str} {p pos : Pos} {e : Expr} {es : List Expr} {t : TA} {fs : Rho → Option (List D)}
theorem de_fn (h : Ok X.prog X.w X.K X.mg X.base j x ps m Φ) (hr : Room k X.A) (hj : j ≤ k) (hg : Gl X x) (ha : DA X .fz (e :: es) t fs)
    (hdb : (x == ("__debug__" : Str)) = false := by decide) (he : starEach (e :: es) X.env = (false, eval e X.env) :: starEach es X.env := by rfl) (hpl : (backTo pos (starEach es X.env)).any (·.1) = false := by rfl) :
    DE X m (.Call (.Name x p) (e :: es) [] pos) (tCall (spM X.K m Φ) [] E0 t) (fB Φ fs) := by
  obtain ⟨fd, h1, h2, h3, h4⟩ := h
  exact de_call (h1.mono hj) hr hg h4 h2 h3 ha hdb he hpl
theorem de_fnK (K' : PySem.W.Frag) (h : Ok X.prog X.w K' X.mg X.base j x ps m Φ) (hr : Room k X.A) (hj : j ≤ k) (hg : Gl X x) (ha : DA X .fz (e :: es) t fs) (hdb : (x == ("__debug__" : Str)) = false := by decide) (he : starEach (e :: es) X.env = (false, eval e X.env) :: starEach es X.env := by rfl) (hpl : (backTo pos (starEach es X.env)).any (·.1) = false := by rfl) (hK : X.K = K' := by rfl) : DE X m (.Call (.Name x p) (e :: es) [] pos) (tCall (spM K' m Φ) [] E0 t) (fB Φ fs) := by
  subst hK
  exact de_fn (h := h) (hr := hr) (hj := hj) (hg := hg) (ha := ha) (hdb := hdb) (he := he) (hpl := hpl)
theorem de_fn0 (h : Ok X.prog X.w X.K X.mg X.base j x ps m Φ) (hr : Room k X.A) (hj : j ≤ k) (hg : Gl X x) (hdb : (x == ("__debug__" : Str)) = false := by decide) :
    DE X m (.Call (.Name x p) [] [] pos) (tCall (spM X.K m Φ) [] E0 tNil) (fB Φ aNil) := by
  obtain ⟨fd, h1, h2, h3, h4⟩ := h
  exact de_call0 (h1.mono hj) hr hg h4 h2 h3 hdb
theorem de_fn0K (K' : PySem.W.Frag) (h : Ok X.prog X.w K' X.mg X.base j x ps m Φ) (hr : Room k X.A) (hj : j ≤ k) (hg : Gl X x) (hdb : (x == ("__debug__" : Str)) = false := by decide) (hK : X.K = K' := by rfl) : DE X m (.Call (.Name x p) [] [] pos) (tCall (spM K' m Φ) [] E0 tNil) (fB Φ aNil) := by
  subst hK
  exact de_fn0 (h := h) (hr := hr) (hj := hj) (hg := hg) (hdb := hdb)
theorem de_fnP (hm0 : m = .fz ∨ m = .fr) (h : Ok X.prog X.w X.K X.mg X.base j x ps m Φ) (hr : Room k X.A) (hj : j ≤ k) (hg : Gl X x) (ha : DA X .pk (e :: es) t fs)
    (hdb : (x == ("__debug__" : Str)) = false := by decide) (he : starEach (e :: es) X.env = (false, eval e X.env) :: starEach es X.env := by rfl) (hpl : (backTo pos (starEach es X.env)).any (·.1) = false := by rfl) :
    DE X m (.Call (.Name x p) (e :: es) [] pos) (tCall (spM X.K m Φ) [] E0 t) (fBP m Φ fs) := by
  obtain ⟨fd, h1, h2, h3, h4⟩ := h
  exact de_callP hm0 (h1.mono hj) hr hg h4 h2 h3 ha hdb he hpl
theorem de_fnPK (K' : PySem.W.Frag) (hm0 : m = .fz ∨ m = .fr) (h : Ok X.prog X.w K' X.mg X.base j x ps m Φ) (hr : Room k X.A) (hj : j ≤ k) (hg : Gl X x) (ha : DA X .pk (e :: es) t fs) (hdb : (x == ("__debug__" : Str)) = false := by decide) (he : starEach (e :: es) X.env = (false, eval e X.env) :: starEach es X.env := by rfl) (hpl : (backTo pos (starEach es X.env)).any (·.1) = false := by rfl) (hK : X.K = K' := by rfl) : DE X m (.Call (.Name x p) (e :: es) [] pos) (tCall (spM K' m Φ) [] E0 t) (fBP m Φ fs) := by
  subst hK
  exact de_fnP (hm0 := hm0) (h := h) (hr := hr) (hj := hj) (hg := hg) (ha := ha) (hdb := hdb) (he := he) (hpl := hpl)
end
end Q
end

/-! part: Q13 -/
section
set_option Elab.async false
set_option linter.all false
set_option maxRecDepth 100000
set_option maxHeartbeats 4000000
set_option autoImplicit false
namespace Q
open PySem PySem.Spec PySem.Calls PyProof.Rows L2
/-! ### the denotations unfolded, for simp -/
section
variable {ρ : Rho} {i j l n : Nat} {f g fa fb fc : Rho → Option D} {ft fu fw : Rho → Option Bool} {fs : Rho → Option (List D)} {g2 h2 : D → D → Option D} {g1 : D → Option D} {gl : List D → Option D} {gi : List D → Option (List D)} {a b : Bd} {d e : D} {ds es : List D}
def imD : Option Sl → Option D
  | some (.im d) => some d
  | _ => none
def anD : Option Sl → Option D
  | some (.im d) => some d
  | some (.ow d) => some d
  | _ => none
def owL : Option Sl → Option (List D)
  | some (.ow (.list ds)) => some ds
  | _ => none
@[simp] theorem imD_im : imD (some (.im d)) = some d := rfl
@[simp] theorem anD_im : anD (some (.im d)) = some d := rfl
@[simp] theorem anD_ow : anD (some (.ow d)) = some d := rfl
@[simp] theorem owL_ow : owL (some (.ow (.list ds))) = some ds := rfl
@[simp] theorem vF_e : vF i ρ = imD ρ[i]? := by unfold vF; split <;> simp_all [imD]
@[simp] theorem vP_e : vP i ρ = anD ρ[i]? := by unfold vP; split <;> simp_all [anD]
def owD : Option Sl → Option D
  | some (.ow d) => some d
  | _ => none
@[simp] theorem owD_ow : owD (some (.ow d)) = some d := rfl
@[simp] theorem vO_e : vO i ρ = owD ρ[i]? := by unfold vO; split <;> simp_all [owD]
@[simp] theorem cD_e : cD d ρ = some d := rfl
@[simp] theorem f2_e : f2 g2 fa fb ρ = (fa ρ).bind fun x => (fb ρ).bind fun y => g2 x y := rfl
@[simp] theorem f1_e : f1 g1 fa ρ = (fa ρ).bind g1 := rfl
@[simp] theorem fB_e : fB gl fs ρ = (fs ρ).bind gl := rfl
@[simp] theorem fT_e : fT f ρ = (f ρ).bind boolD := rfl
@[simp] theorem boolD_e {k : Bool} : boolD (.bool k) = some k := rfl
@[simp] theorem fTr_e : fTr f ρ = (f ρ).bind truD := rfl
@[simp] theorem fNotT_e : fNotT ft ρ = (ft ρ).map not := rfl
@[simp] theorem fAndT_e : fAndT ft fu ρ = (ft ρ).bind fun b => if b = true then fu ρ else some false := rfl
@[simp] theorem fOrT_e : fOrT ft fu ρ = (ft ρ).bind fun b => if b = true then some true else fu ρ := rfl
@[simp] theorem fIfT_e : fIfT ft fu fw ρ = (ft ρ).bind fun b => if b = true then fu ρ else fw ρ := rfl
@[simp] theorem fNot_e : fNot f ρ = ((f ρ).bind truD).map fun b => .bool (!b) := rfl
@[simp] theorem fAnd_e : fAnd f g ρ = (f ρ).bind fun d => (truD d).bind fun b => if b = true then g ρ else some d := rfl
@[simp] theorem fOr_e : fOr f g ρ = (f ρ).bind fun d => (truD d).bind fun b => if b = true then some d else g ρ := rfl
@[simp] theorem fIf_e : fIf ft f g ρ = (ft ρ).bind fun b => if b = true then f ρ else g ρ := rfl
@[simp] theorem aNil_e : aNil ρ = some [] := rfl
@[simp] theorem aCons_e : aCons f fs ρ = (f ρ).bind fun d => (fs ρ).bind fun ds => some (d :: ds) := rfl
@[simp] theorem aStar_e : aStar f fs ρ = (f ρ).bind fun d => (itemsD d).bind fun ds => (fs ρ).bind fun es => some (ds ++ es) := rfl
@[simp] theorem fTup_e : fTup fs ρ = (fs ρ).map .tuple := rfl
@[simp] theorem fLst_e : fLst fs ρ = (fs ρ).map .list := rfl
@[simp] theorem fTupS_e : fTupS fs ρ = (fs ρ).bind fun ds => if ds.length ≤ sizeLine then some (.tuple ds) else none := rfl
@[simp] theorem fLstS_e : fLstS fs ρ = (fs ρ).bind fun ds => if ds.length ≤ sizeLine then some (.list ds) else none := rfl
@[simp] theorem fI_e : fI f ρ = (f ρ).bind walkD := rfl
@[simp] theorem fIs_e : fIs gi fs ρ = (fs ρ).bind gi := rfl
@[simp] theorem fRev_e : fRev f ρ = (f ρ).bind revD := rfl
@[simp] theorem fEnum_e : fEnum f ρ = (f ρ).bind enumD := rfl
def chB (z : D) (k : Option D) : Option D := match z with
  | .bool true => k
  | .bool false => some (.bool false)
  | _ => none
@[simp] theorem chB_b {c : Bool} {k : Option D} : chB (.bool c) k = if c = true then k else some (.bool false) := by cases c <;> rfl
@[simp] theorem f3_e : f3 g2 h2 fa fb fc ρ = (fa ρ).bind fun x => (fb ρ).bind fun y => (g2 x y).bind fun z => chB z ((fc ρ).bind fun w => h2 y w) := by
  unfold f3
  rfl
def isiD (b : String) (d : D) : Option D := match d with
  | .dict _ => none
  | d => some (.bool (isiN (tyName d) b))
def isiD2 (b c : String) (d : D) : Option D := match d with
  | .dict _ => none
  | d => some (.bool (isiN (tyName d) b || isiN (tyName d) c))
@[simp] theorem isiD_i {b : String} {k : Int} : isiD b (.int k) = some (.bool (isiN "int" b)) := rfl
@[simp] theorem isiD_b {b : String} {k : Bool} : isiD b (.bool k) = some (.bool (isiN "bool" b)) := rfl
@[simp] theorem isiD_n {b : String} : isiD b .none = some (.bool (isiN "NoneType" b)) := rfl
@[simp] theorem isiD_s {b : String} {z : Str} : isiD b (.str z) = some (.bool (isiN "str" b)) := rfl
@[simp] theorem isiD_l {b : String} : isiD b (.list ds) = some (.bool (isiN "list" b)) := rfl
@[simp] theorem isiD_t {b : String} : isiD b (.tuple ds) = some (.bool (isiN "tuple" b)) := rfl
@[simp] theorem isiD2_i {b c : String} {k : Int} : isiD2 b c (.int k) = some (.bool (isiN "int" b || isiN "int" c)) := rfl
@[simp] theorem isiD2_b {b c : String} {k : Bool} : isiD2 b c (.bool k) = some (.bool (isiN "bool" b || isiN "bool" c)) := rfl
@[simp] theorem isiD2_n {b c : String} : isiD2 b c .none = some (.bool (isiN "NoneType" b || isiN "NoneType" c)) := rfl
@[simp] theorem isiD2_s {b c : String} {z : Str} : isiD2 b c (.str z) = some (.bool (isiN "str" b || isiN "str" c)) := rfl
@[simp] theorem isiD2_l {b c : String} : isiD2 b c (.list ds) = some (.bool (isiN "list" b || isiN "list" c)) := rfl
@[simp] theorem isiD2_t {b c : String} : isiD2 b c (.tuple ds) = some (.bool (isiN "tuple" b || isiN "tuple" c)) := rfl
@[simp] theorem isiN_e {b c : String} : isiN b c = (b == c || (b == "bool" && c == "int")) := rfl
@[simp] theorem fIsi_e {b : String} : fIsi b f ρ = (f ρ).bind (isiD b) := rfl
@[simp] theorem fIsi2_e {b c : String} : fIsi2 b c f ρ = (f ρ).bind (isiD2 b c) := rfl
@[simp] theorem fYes_e : fYes ρ = some true := rfl
@[simp] theorem oNo_e : oNo ρ = some none := rfl
def intO : D → Option (Option Int)
  | .int i => some (some i)
  | _ => none
@[simp] theorem intO_i {k : Int} : intO (.int k) = some (some k) := rfl
@[simp] theorem oIs_e : oIs f ρ = (f ρ).bind intO := by unfold oIs; congr; try (funext d; cases d <;> rfl)
@[simp] theorem fSl_e {fl fh : Rho → Option (Option Int)} : fSl f fl fh ρ = (f ρ).bind fun d => (fl ρ).bind fun l => (fh ρ).bind fun h => cutD d l h := rfl
@[simp] theorem fLr1_e : fLr1 f ρ = (f ρ).bind fun d => match d with
  | .int n => if -(2 ^ 62) ≤ n ∧ n ≤ 16777216 then some (.list (rgD 0 n.toNat)) else none
  | _ => none := rfl
@[simp] theorem fLenSet_e : fLenSet f ρ = (f ρ).bind fun d => (itemsD d).bind fun ds => (intsOf ds).bind fun ns => if ns.length ≤ 4000 then some (.int ((dedupI ns).length : Nat)) else none := rfl
def outB : Out → Option D
  | .rt d => some d
  | .nx _ => some .none
  | _ => none
@[simp] theorem outB_r : outB (.rt d) = some d := rfl
@[simp] theorem outB_n : outB (.nx ρ) = some .none := rfl
def outR : Out → Option D
  | .rt d => some d
  | _ => none
@[simp] theorem outR_r : outR (.rt d) = some d := rfl
@[simp] theorem fnB_e {p : Nat} : fnB n p b ds = if ds.length = p then (b (ds.map .im ++ List.replicate (n - ds.length) .un)).bind outB else none := by
  unfold fnB runB
  rfl
@[simp] theorem fnR_e {p : Nat} : fnR n p b ds = if ds.length = p then (b (ds.map .im ++ List.replicate (n - ds.length) .un)).bind outR else none := by
  unfold fnR runR
  rfl
/-! statements -/
def seqO (b : Bd) : Out → Option Out
  | .nx ρ => b ρ
  | o => some o
@[simp] theorem seqO_n : seqO b (.nx ρ) = b ρ := rfl
@[simp] theorem seqO_b : seqO b (.bk ρ) = some (.bk ρ) := rfl
@[simp] theorem seqO_c : seqO b (.ct ρ) = some (.ct ρ) := rfl
@[simp] theorem seqO_r : seqO b (.rt d) = some (.rt d) := rfl
@[simp] theorem bSeq_e : bSeq a b ρ = (a ρ).bind (seqO b) := by
  unfold bSeq
  congr
  try (funext o; cases o <;> rfl)
@[simp] theorem bNext_e : bNext ρ = some (.nx ρ) := rfl
@[simp] theorem bBreak_e : bBreak ρ = some (.bk ρ) := rfl
@[simp] theorem bCont_e : bCont ρ = some (.ct ρ) := rfl
@[simp] theorem bNever_e : bNever ρ = none := rfl
@[simp] theorem bIf_e : bIf ft a b ρ = (ft ρ).bind fun k => if k = true then a ρ else b ρ := rfl
@[simp] theorem bAsg_e : bAsg i f ρ = (f ρ).bind fun d => some (.nx (ρ.set i (.im d))) := rfl
@[simp] theorem bOwn_e : bOwn i f ρ = (f ρ).bind fun d => some (.nx (ρ.set i (.ow d))) := rfl
@[simp] theorem bRet_e : bRet f ρ = (f ρ).map .rt := rfl
@[simp] theorem bDrop_e : bDrop f ρ = (f ρ).bind fun _ => some (.nx ρ) := rfl
@[simp] theorem bPar_e : bPar i j fs ρ = (fs ρ).bind fun ds => match ds with
  | [d, e] => some (.nx ((ρ.set i (.im d)).set j (.im e)))
  | _ => none := rfl
@[simp] theorem bAsgG_e {s : D → Rho → Option Rho} : bAsgG f s ρ = (f ρ).bind fun d => (s d ρ).bind fun ρ' => some (.nx ρ') := rfl
@[simp] theorem sN_e : sN i d ρ = some (ρ.set i (.im d)) := rfl
@[simp] theorem sNil_e : sNil [] ρ = some ρ := rfl
@[simp] theorem sCons_e {s : D → Rho → Option Rho} {ss : List D → Rho → Option Rho} : sCons s ss (d :: ds) ρ = (s d ρ).bind (ss ds) := rfl
@[simp] theorem sT_e {ss : List D → Rho → Option Rho} : sT n ss (.tuple ds) ρ = if ds.length = n then ss ds ρ else none := rfl
@[simp] theorem bFor_e {s : D → Rho → Option Rho} : bFor fs s b ρ = (fs ρ).bind fun ds => forL (turnD s b) ds ρ := rfl
@[simp] theorem turnD_e {s : D → Rho → Option Rho} : turnD s b d ρ = (s d ρ).bind b := rfl
@[simp] theorem bApp_e : bApp j f ρ = (owL ρ[j]?).bind fun ds => (f ρ).bind fun d => if ds.length < sizeLine then some (.nx (ρ.set j (.ow (.list (ds ++ [d]))))) else none := by
  unfold bApp
  cases ρ[j]? with
  | none => rfl
  | some s =>
    cases s with
    | ow d => cases d <;> rfl
    | _ => rfl
end
/-! ### operations on ints -/
section
variable {i j : Int} {k c : Bool} {ds es : List D} {z y : Str}
theorem shp_int : SeqAt.shaped (.int i) = true := by with_unfolding_all rfl
theorem shp_bool : SeqAt.shaped (.bool k) = true := by with_unfolding_all rfl
theorem shp_none : SeqAt.shaped (.none) = true := by with_unfolding_all rfl
@[simp] theorem add_ii : addD (.int i) (.int j) = some (.int (i + j)) := rfl
@[simp] theorem addS_ii : addS (.int i) (.int j) = some (.int (i + j)) := rfl
@[simp] theorem sub_ii : subD (.int i) (.int j) = some (.int (i - j)) := rfl
@[simp] theorem mul_ii : mulD (.int i) (.int j) = mulI i j := rfl
@[simp] theorem mulI_r (h1 : -18446744073709551616 < j) (h2 : j < 18446744073709551616) : mulI i j = some (.int (i * j)) := if_pos (.inr ⟨by omega, by omega⟩)
theorem fdiv_ii : fdivD (.int i) (.int j) = if j ≠ 0 ∧ j.natAbs < 1073741824 then some (.int (i.fdiv j)) else none := rfl
theorem mod_ii : modD (.int i) (.int j) = if j ≠ 0 then some (.int (i.fmod j)) else none := rfl
@[simp] theorem mod_pos (h : 0 < j) : modD (.int i) (.int j) = some (.int (i % j)) := by
  rw [mod_ii, if_pos (by omega), Int.fmod_eq_emod_of_nonneg i (by omega)]
@[simp] theorem fdiv_pos (h : 0 < j) (h2 : j < 1073741824) : fdivD (.int i) (.int j) = some (.int (i / j)) := by
  rw [fdiv_ii, if_pos (by omega), Int.fdiv_eq_ediv_of_nonneg i (by omega)]
@[simp] theorem pow_ii : powD (.int i) (.int j) = if 0 ≤ j ∧ j ≤ 1000000 ∧ i.natAbs < 2 ^ 64 then some (.int (i ^ j.toNat)) else none := rfl
@[simp] theorem neg_i : negD (.int i) = some (.int (-i)) := rfl
@[simp] theorem eq_ii : eqD (.int i) (.int j) = some (.bool (i == j)) := by
  unfold eqD
  rw [if_pos ⟨shp_int, shp_int⟩]
  rfl
@[simp] theorem ne_ii : neD (.int i) (.int j) = some (.bool (!(i == j))) := by
  unfold neD
  rw [if_pos ⟨shp_int, shp_int⟩]
  rfl
@[simp] theorem eq_bb : eqD (.bool k) (.bool c) = some (.bool (k == c)) := by
  unfold eqD
  rw [if_pos ⟨shp_bool, shp_bool⟩]
  rfl
theorem ord_ii : ordOk (.int i) (.int j) = true := by with_unfolding_all rfl
@[simp] theorem lt_ii : ltD (.int i) (.int j) = some (.bool (decide (i < j))) := by
  unfold ltD
  rw [if_pos ord_ii, PySem.W.dataLt_int]
@[simp] theorem gt_ii : gtD (.int i) (.int j) = some (.bool (decide (j < i))) := by
  unfold gtD
  rw [if_pos ord_ii, PySem.W.dataLt_int]
@[simp] theorem le_ii : leD (.int i) (.int j) = some (.bool (decide (i ≤ j))) := by
  unfold leD
  rw [if_pos ord_ii, PySem.W.dataLt_int]
  congr 2
  by_cases h : i ≤ j
  · simp [h, Int.not_lt.mpr h]
  · simp [h, Int.not_le.mp h]
@[simp] theorem ge_ii : geD (.int i) (.int j) = some (.bool (decide (j ≤ i))) := by
  unfold geD
  rw [if_pos ord_ii, PySem.W.dataLt_int]
  congr 2
  by_cases h : j ≤ i
  · simp [h, Int.not_lt.mpr h]
  · simp [h, Int.not_le.mp h]
@[simp] theorem isN_n : isND .none .none = some (.bool true) := rfl
@[simp] theorem isN_i : isND (.int i) .none = some (.bool false) := rfl
@[simp] theorem isN_b : isND (.bool k) .none = some (.bool false) := rfl
@[simp] theorem isN_t : isND (.tuple ds) .none = some (.bool false) := rfl
@[simp] theorem isN_l : isND (.list ds) .none = some (.bool false) := rfl
@[simp] theorem isN_s : isND (.str z) .none = some (.bool false) := rfl
@[simp] theorem notN_n : notND .none .none = some (.bool false) := rfl
@[simp] theorem notN_i : notND (.int i) .none = some (.bool true) := rfl
@[simp] theorem notN_t : notND (.tuple ds) .none = some (.bool true) := rfl
@[simp] theorem notN_l : notND (.list ds) .none = some (.bool true) := rfl
@[simp] theorem int_i : intD [.int i] = some (.int i) := rfl
@[simp] theorem len_l : lenD [.list ds] = some (.int ds.length) := rfl
@[simp] theorem len_t : lenD [.tuple ds] = some (.int ds.length) := rfl
@[simp] theorem tup_l : tupD [.list ds] = some (.tuple ds) := rfl
@[simp] theorem tup_t : tupD [.tuple ds] = some (.tuple ds) := rfl
@[simp] theorem lst_l : lstD [.list ds] = some (.list ds) := rfl
@[simp] theorem lst_t : lstD [.tuple ds] = some (.list ds) := rfl
@[simp] theorem items_l : itemsD (.list ds) = some ds := rfl
@[simp] theorem items_t : itemsD (.tuple ds) = some ds := rfl
@[simp] theorem walk_l : walkD (.list ds) = some ds := rfl
@[simp] theorem walk_t : walkD (.tuple ds) = some ds := rfl
@[simp] theorem ix_l : ixD (.list ds) (.int i) = atI ds i := rfl
@[simp] theorem ix_t : ixD (.tuple ds) (.int i) = atI ds i := rfl
@[simp] theorem tru_n : truD .none = some false := rfl
@[simp] theorem tru_b : truD (.bool k) = some k := rfl
@[simp] theorem tru_i : truD (.int i) = some (i != 0) := rfl
@[simp] theorem tru_l : truD (.list ds) = some (!ds.isEmpty) := rfl
@[simp] theorem tru_t : truD (.tuple ds) = some (!ds.isEmpty) := rfl
@[simp] theorem cut_l {o p : Option Int} : cutD (.list ds) o p = some (.list (cutL ds o p)) := rfl
@[simp] theorem cut_t {o p : Option Int} : cutD (.tuple ds) o p = some (.tuple (cutL ds o p)) := rfl
@[simp] theorem add_tt : addD (.tuple ds) (.tuple es) = if ds.length + es.length ≤ sizeLine then some (.tuple (ds ++ es)) else none := rfl
@[simp] theorem add_ll : addD (.list ds) (.list es) = if ds.length + es.length ≤ sizeLine then some (.list (ds ++ es)) else none := rfl
@[simp] theorem intsOf_m (ns : List Int) : intsOf (ns.map .int) = some ns := intsOf_ints ns
@[simp] theorem blsOf_f {α : Type} (p : α → Bool) (xs : List α) : blsOf (xs.map fun x => .bool (p x)) = some (xs.map p) := by
  rw [← blsOf_bls (xs.map p), List.map_map]
  rfl
@[simp] theorem intsOf_f {α : Type} (p : α → Int) (xs : List α) : intsOf (xs.map fun x => .int (p x)) = some (xs.map p) := by
  rw [← intsOf_ints (xs.map p), List.map_map]
  rfl
@[simp] theorem all_l : allD [.list ds] = (blsOf ds).map fun bs => .bool (bs.all id) := rfl
@[simp] theorem any_l : anyD [.list ds] = (blsOf ds).map fun bs => .bool (bs.any id) := rfl
@[simp] theorem sum_l (ns : List Int) : sumD [.list (ns.map .int)] = some (.int ns.sum) := by
  simp only [sumD, items_l, Option.bind_some, intsOf_ints, Option.map_some]
@[simp] theorem sum_t (ns : List Int) : sumD [.tuple (ns.map .int)] = some (.int ns.sum) := by
  simp only [sumD, items_t, Option.bind_some, intsOf_ints, Option.map_some]
@[simp] theorem blsOf_m (ns : List Bool) : blsOf (ns.map .bool) = some ns := blsOf_bls ns
theorem atI_nat {ds : List D} {n : Nat} (h : n < ds.length) : atI ds (n : Int) = some ds[n] := by
  unfold atI ixN
  rw [if_pos (by omega)]
  simp [h]
theorem atI_lit {ds : List D} {i : Int} (h0 : 0 ≤ i) (h : i < ds.length) : atI ds i = ds[i.toNat]? := by
  unfold atI ixN
  rw [if_pos h0]
  simp [h]
end
/-! ### places of int rows -/
theorem at_n (ns : List Int) {k : Nat} (h : k < ns.length) : atI (ns.map PyData.int) (k : Int) = some (.int (ns.getD k 0)) := by
  rw [atI_nat (by simpa using h)]
  simp [h]
theorem at_i (ns : List Int) {i : Int} (h0 : 0 ≤ i) (h : i < ns.length) : atI (ns.map PyData.int) i = some (.int (ns.getD i.toNat 0)) := by
  have := at_n ns (k := i.toNat) (by omega)
  rwa [Int.toNat_of_nonneg h0] at this
theorem at_last (ns : List Int) (h : ns ≠ []) : atI (ns.map PyData.int) (-1) = some (.int (ns.getLastD 0)) := by
  have hl : 0 < ns.length := List.length_pos_iff.mpr h
  unfold atI ixN
  rw [if_neg (by omega), List.length_map, if_pos (by omega), Option.bind_some]
  have e : (-1 + (ns.length : Int)).toNat = ns.length - 1 := by omega
  rw [e, List.getElem?_map, List.getElem?_eq_getElem (by omega), Option.map_some]
  congr 2
  rw [List.getLastD_eq_getLast?, List.getLast?_eq_getElem?, List.getElem?_eq_getElem (by omega)]
  rfl
theorem cut_to (ns : List Int) {i : Int} (h0 : 0 ≤ i) : cutL (ns.map PyData.int) none (some i) = (ns.take i.toNat).map .int := by
  unfold cutL HT.sIx
  simp only [List.length_map, if_neg (Int.not_lt.mpr h0), List.drop_zero, Nat.sub_zero, ← List.map_take]
  congr 1
  rw [List.take_eq_take_iff]
  omega
theorem cut_from (ns : List Int) {i : Int} (h0 : 0 ≤ i) : cutL (ns.map PyData.int) (some i) none = (ns.drop i.toNat).map .int := by
  unfold cutL HT.sIx
  simp only [List.length_map, if_neg (Int.not_lt.mpr h0), ← List.map_drop]
  by_cases h : i.toNat ≤ ns.length
  · rw [Nat.min_eq_left h, List.take_of_length_le (by simp)]
  · rw [Nat.min_eq_right (by omega)]
    simp [List.drop_eq_nil_of_le (by omega : ns.length ≤ i.toNat)]
theorem line_ge : 100000 ≤ sizeLine := by rw [sizeLine_eq]; decide
/-! ### pops -/
theorem erase_m {α β : Type} (f : α → β) : ∀ (l : List α) (k : Nat), (l.map f).eraseIdx k = (l.eraseIdx k).map f
  | [], _ => rfl
  | _ :: _, 0 => rfl
  | x :: l, k + 1 => congrArg (f x :: ·) (erase_m f l k)
theorem pop_at {ρ : Rho} {j : Nat} {f : Rho → Option D} {ns : List Int} {i : Int} (h1 : ρ[j]? = some (.ow (.list (ns.map .int)))) (h2 : f ρ = some (.int i)) (h0 : 0 ≤ i) (h : i < ns.length) (hb : ns.length ≤ 100000) :
    xPopAt j f ρ = some (.int (ns.getD i.toNat 0), ρ.set j (.ow (.list ((ns.eraseIdx i.toNat).map .int)))) := by
  unfold xPopAt
  rw [h1, h2]
  simp only [Option.bind_some]
  rw [if_pos (by omega)]
  have e : seqIndex? i (ns.map PyData.int).length = some i.toNat := by
    unfold seqIndex?
    simp only [if_neg (Int.not_lt.mpr h0), List.length_map]
    rw [if_pos (by simp; omega)]
  have hk : i.toNat < ns.length := by omega
  rw [e, Option.bind_some, List.getElem?_map, List.getElem?_eq_getElem hk]
  simp [hk, erase_m]
theorem appX_e {ρ ρ' : Rho} {j : Nat} {f : Rho → Option (D × Rho)} {ds0 ds : List D} {d : D} (h1 : f ρ = some (d, ρ')) (h2 : ρ[j]? = some (.ow (.list ds0))) (h3 : ρ'[j]? = some (.ow (.list ds))) (h : ds.length ≤ 90000) :
    bAppX j f ρ = some (.nx (ρ'.set j (.ow (.list (ds ++ [d]))))) := by
  unfold bAppX
  rw [h1]
  simp only [Option.bind_some]
  rw [h2, h3]
  simp only
  have := line_ge
  rw [if_pos (by omega)]
/-! ### while -/
def whO (c : Rho → Option Bool) (b : Bd) (n : Nat) : Out → Option Out
  | .nx ρ => whileL c b n ρ
  | .ct ρ => whileL c b n ρ
  | .bk ρ => some (.nx ρ)
  | .rt d => some (.rt d)
theorem whileL_s {c : Rho → Option Bool} {b : Bd} {n : Nat} {ρ : Rho} : whileL c b (n + 1) ρ = (c ρ).bind fun k => if k = true then (b ρ).bind (whO c b n) else some (.nx ρ) := by
  conv => lhs; unfold whileL
  congr
  try (funext k; split <;> rfl)
theorem whileL_go {c : Rho → Option Bool} {b : Bd} {n : Nat} {ρ ρ' : Rho} (h1 : c ρ = some true) (h2 : b ρ = some (.nx ρ')) : whileL c b (n + 1) ρ = whileL c b n ρ' := by
  rw [whileL_s, h1, Option.bind_some, if_pos rfl, h2]
  rfl
theorem whileL_end {c : Rho → Option Bool} {b : Bd} {n : Nat} {ρ : Rho} (h1 : c ρ = some false) : whileL c b (n + 1) ρ = some (.nx ρ) := by
  rw [whileL_s, h1, Option.bind_some, if_neg (by decide)]
/-! ### comprehensions, loops -/
def lcB (rs : List D) : Option D := if rs.length ≤ sizeLine then some (.list rs) else none
@[simp] theorem fLc_e {ρ : Rho} {f : Rho → Option (List D)} {s : D → Rho → Option Rho} {ft : Rho → Option Bool} {fe : Rho → Option D} {vs : List Nat} : fLc f s ft fe vs ρ = (f ρ).bind fun ds => (lcL (fun d => (s d (wipeR ρ vs)).bind ft) (fun d => (s d (wipeR ρ vs)).bind fe) ds).bind lcB := rfl
@[simp] theorem wipeR_n {ρ : Rho} : wipeR ρ [] = ρ := rfl
@[simp] theorem wipeR_c {ρ : Rho} {v : Nat} {vs : List Nat} : wipeR ρ (v :: vs) = (wipeR ρ vs).set v .un := rfl
theorem lcB_of {rs : List D} (h : rs.length ≤ sizeLine) : lcB rs = some (.list rs) := if_pos h
theorem lcB_small {rs : List D} (h : rs.length ≤ 100000) : lcB rs = some (.list rs) := if_pos (Nat.le_trans h line_ge)
theorem rg1_n {k : Nat} (h : k ≤ 100000) : rg1D [.int (k : Int)] = some ((List.range k).map fun i => .int (i : Nat)) := by
  rw [rg1D, if_pos (by omega), Int.toNat_natCast]
  unfold rgD
  simp
theorem rg1_i {i : Int} (h : 0 ≤ i ∧ i ≤ 100000) : rg1D [.int i] = some ((List.range i.toNat).map fun i => .int (i : Nat)) := by
  have := rg1_n (k := i.toNat) (by omega)
  rwa [Int.toNat_of_nonneg h.1] at this
theorem lr1_n {k : Nat} (h : k ≤ 100000) : rgD 0 k = (List.range k).map fun i => .int (i : Nat) := by
  unfold rgD
  simp
theorem same_filter {ns ms : List Int} (h : ns.length = ms.length) : ((List.range ns.length).filter fun k => !(ns.getD k 0 == ms.getD k 0)).isEmpty = decide (ns = ms) := by
  by_cases e : ns = ms
  · subst e
    simp
  · rw [decide_eq_false e]
    cases hb : ((List.range ns.length).filter fun k => !(ns.getD k 0 == ms.getD k 0)).isEmpty with
    | false => rfl
    | true =>
      exfalso
      apply e
      have hn := List.isEmpty_iff.mp hb
      rw [List.filter_eq_nil_iff] at hn
      apply List.ext_getElem h
      intro k h1 h2
      have := hn k (by simpa using h1)
      simp only [Bool.not_eq_true, Bool.not_eq_false'] at this
      have := eq_of_beq this
      simpa [List.getD_eq_getElem?_getD, h1, h2] using this
theorem forL_ex {α : Type} {step : D → Bd} {xs : List α} {mk : α → D} (inv : Nat → Rho → Prop) : ∀ (ρ : Rho), inv 0 ρ → (∀ (k : Nat) (ρ : Rho) (x : α), inv k ρ → xs[k]? = some x → ∃ ρ', (step (mk x) ρ = some (.nx ρ') ∨ step (mk x) ρ = some (.ct ρ')) ∧ inv (k + 1) ρ') →
    ∃ ρ', forL step (xs.map mk) ρ = some (.nx ρ') ∧ inv xs.length ρ' := by
  induction xs generalizing inv with
  | nil => intro ρ h _; exact ⟨ρ, rfl, h⟩
  | cons x xs ih =>
    intro ρ h0 h
    obtain ⟨ρ1, h1, h2⟩ := h 0 ρ x h0 rfl
    obtain ⟨ρ2, h3, h4⟩ := ih (fun k => inv (k + 1)) ρ1 h2 (fun k ρ' y hk hy => h (k + 1) ρ' y hk (by simpa using hy))
    refine ⟨ρ2, ?_, h4⟩
    rw [List.map_cons]
    unfold forL
    rcases h1 with h1 | h1 <;> rw [h1] <;> exact h3
theorem shpA_ints : ∀ (ns : List Int), PyData.canLayAll0 (ns.map .int) = true ∧ PyData.depthAll (ns.map .int) = 0
  | [] => ⟨rfl, rfl⟩
  | n :: ns => by
    obtain ⟨h1, h2⟩ := shpA_ints ns
    refine ⟨?_, ?_⟩
    · rw [List.map_cons]
      unfold PyData.canLayAll0
      rw [h1]
      rfl
    · rw [List.map_cons]
      unfold PyData.depthAll
      rw [h2]
      rfl
@[simp] theorem shp_l (ns : List Int) : SeqAt.shaped (.list (ns.map .int)) = true := by
  obtain ⟨h1, h2⟩ := shpA_ints ns
  unfold SeqAt.shaped PyData.canLay0 PyData.depth
  rw [h1, h2]
  rfl
@[simp] theorem shp_t (ns : List Int) : SeqAt.shaped (.tuple (ns.map .int)) = true := by
  obtain ⟨h1, h2⟩ := shpA_ints ns
  unfold SeqAt.shaped PyData.canLay0 PyData.depth
  rw [h1, h2]
  rfl
theorem eqvA_ints : ∀ (ns ms : List Int), PyData.eqvAll (ns.map .int) (ms.map .int) = decide (ns = ms)
  | [], [] => rfl
  | [], _ :: _ => rfl
  | _ :: _, [] => rfl
  | n :: ns, m :: ms => by
    rw [List.map_cons, List.map_cons]
    unfold PyData.eqvAll
    rw [eqvA_ints ns ms]
    have e : PyData.eqv (.int n) (.int m) = decide (n = m) := by
      unfold PyData.eqv
      by_cases h : n = m <;> simp [h]
    rw [e]
    by_cases h : n = m <;> by_cases h' : ns = ms <;> simp [h, h']
@[simp] theorem eq_ll (ns ms : List Int) : eqD (.list (ns.map .int)) (.list (ms.map .int)) = some (.bool (decide (ns = ms))) := by
  unfold eqD
  rw [if_pos ⟨shp_l ns, shp_l ms⟩, ← eqvA_ints]
  rfl
@[simp] theorem eq_tt (ns ms : List Int) : eqD (.tuple (ns.map .int)) (.tuple (ms.map .int)) = some (.bool (decide (ns = ms))) := by
  unfold eqD
  rw [if_pos ⟨shp_t ns, shp_t ms⟩, ← eqvA_ints]
  rfl
@[simp] theorem eq_l0 (ns : List Int) : eqD (.list (ns.map .int)) (.list []) = some (.bool (decide (ns = []))) := eq_ll ns []
@[simp] theorem eq_f0 {α : Type} (p : α → Int) (L : List α) : eqD (.list (L.map fun x => .int (p x))) (.list []) = some (.bool L.isEmpty) := by
  have e : (L.map fun x => PyData.int (p x)) = (L.map p).map .int := by rw [List.map_map]; rfl
  rw [e, eq_l0]
  cases L <;> simp
@[simp] theorem ne_l0 (ns : List Int) : neD (.list (ns.map .int)) (.list []) = some (.bool (!decide (ns = []))) := by
  unfold neD
  rw [if_pos ⟨shp_l ns, shp_l []⟩]
  have := eqvA_ints ns []
  show some (PyData.bool (!PyData.eqvAll (ns.map .int) ([].map .int))) = _
  rw [this]
theorem mem_ints (i : Int) (ns : List Int) : memD (.int i) (ns.map .int) = decide (i ∈ ns) := by
  unfold memD
  induction ns with
  | nil => rfl
  | cons n ns ih =>
    rw [List.map_cons, List.any_cons, ih]
    have e : PyData.eqv (.int n) (.int i) = decide (n = i) := by
      unfold PyData.eqv
      by_cases h : n = i <;> simp [h]
    rw [e]
    by_cases h : n = i
    · subst h; simp
    · have h2 : ¬ i = n := fun z => h z.symm
      simp [h, h2]
@[simp] theorem in_l (i : Int) (ns : List Int) : inD (.int i) (.list (ns.map .int)) = some (.bool (decide (i ∈ ns))) := by
  unfold inD
  rw [items_l, Option.bind_some, if_pos ⟨shp_int, shp_l ns⟩, mem_ints]
@[simp] theorem in_t (i : Int) (ns : List Int) : inD (.int i) (.tuple (ns.map .int)) = some (.bool (decide (i ∈ ns))) := by
  unfold inD
  rw [items_t, Option.bind_some, if_pos ⟨shp_int, shp_t ns⟩, mem_ints]
@[simp] theorem notIn_l (i : Int) (ns : List Int) : notInD (.int i) (.list (ns.map .int)) = some (.bool (!decide (i ∈ ns))) := by
  unfold notInD
  rw [items_l, Option.bind_some, if_pos ⟨shp_int, shp_l ns⟩, mem_ints]
@[simp] theorem notIn_t (i : Int) (ns : List Int) : notInD (.int i) (.tuple (ns.map .int)) = some (.bool (!decide (i ∈ ns))) := by
  unfold notInD
  rw [items_t, Option.bind_some, if_pos ⟨shp_int, shp_t ns⟩, mem_ints]
theorem lcL_map {tt : D → Option Bool} {te : D → Option D} {α : Type} {xs : List α} {mk : α → D} {p : α → Bool} {g : α → D} (ht : ∀ x ∈ xs, tt (mk x) = some (p x)) (he : ∀ x ∈ xs, p x = true → te (mk x) = some (g x)) :
    lcL tt te (xs.map mk) = some ((xs.filter p).map g) := by
  induction xs with
  | nil => rfl
  | cons x xs ih =>
    have ih' := ih (fun y hy => ht y (List.mem_cons_of_mem _ hy)) (fun y hy => he y (List.mem_cons_of_mem _ hy))
    rw [List.map_cons]
    unfold lcL
    rw [ht x List.mem_cons_self]
    cases hp : p x with
    | true => simp [he x List.mem_cons_self hp, ih', hp]
    | false => simp [ih', hp]
/-- a comprehension without if -/
theorem lcL_all {tt : D → Option Bool} {te : D → Option D} {α : Type} {xs : List α} {mk : α → D} {g : α → D} (ht : ∀ x ∈ xs, tt (mk x) = some true) (he : ∀ x ∈ xs, te (mk x) = some (g x)) :
    lcL tt te (xs.map mk) = some (xs.map g) := by
  have := lcL_map (p := fun _ => true) ht (fun x hx _ => he x hx)
  rw [List.filter_eq_self.mpr (fun _ _ => rfl)] at this
  exact this
/-- a for loop whose every turn goes on -/
theorem forL_fold {σ α : Type} {step : D → Bd} {xs : List α} {mk : α → D} {enc : σ → Rho} {st : σ → α → σ} (inv : Nat → σ → Prop) : ∀ (s : σ), inv 0 s → (∀ (k : Nat) (s : σ) (x : α), inv k s → xs[k]? = some x → inv (k + 1) (st s x) ∧ (step (mk x) (enc s) = some (.nx (enc (st s x))) ∨ step (mk x) (enc s) = some (.ct (enc (st s x))))) →
    forL step (xs.map mk) (enc s) = some (.nx (enc (xs.foldl st s))) ∧ inv xs.length (xs.foldl st s) := by
  induction xs generalizing inv with
  | nil => intro s h _; exact ⟨rfl, h⟩
  | cons x xs ih =>
    intro s h0 h
    obtain ⟨h1, h2⟩ := h 0 s x h0 rfl
    have := ih (fun k => inv (k + 1)) (st s x) h1 (fun k s' y hk hy => h (k + 1) s' y hk (by simpa using hy))
    refine ⟨?_, this.2⟩
    rw [List.map_cons]
    unfold forL
    rcases h2 with h2 | h2 <;> rw [h2] <;> exact this.1
end Q
end

/-! part: Q14 -/
section
set_option Elab.async false
set_option linter.all false
set_option maxRecDepth 100000
set_option maxHeartbeats 4000000
set_option autoImplicit false
namespace Q
open PySem PySem.Spec PySem.Calls PyProof.Rows L2
/-! ### the same operations, quick for the kernel -/
def ltF : D → D → Option D
  | .int a, .int b => some (.bool (decide (a < b)))
  | d, e => ltD d e
def gtF : D → D → Option D
  | .int a, .int b => some (.bool (decide (b < a)))
  | d, e => gtD d e
def leF : D → D → Option D
  | .int a, .int b => some (.bool (decide (a ≤ b)))
  | d, e => leD d e
def geF : D → D → Option D
  | .int a, .int b => some (.bool (decide (b ≤ a)))
  | d, e => geD d e
def eqF : D → D → Option D
  | .int a, .int b => some (.bool (a == b))
  | .list ds, .list [] => match intsOf ds with
    | some ns => some (.bool (decide (ns = [])))
    | none => eqD (.list ds) (.list [])
  | d, e => eqD d e
def neF : D → D → Option D
  | .int a, .int b => some (.bool (!(a == b)))
  | .list ds, .list [] => match intsOf ds with
    | some ns => some (.bool (!decide (ns = [])))
    | none => neD (.list ds) (.list [])
  | d, e => neD d e
def inF : D → D → Option D
  | .int a, .list ds => match intsOf ds with
    | some ns => some (.bool (decide (a ∈ ns)))
    | none => inD (.int a) (.list ds)
  | .int a, .tuple ds => match intsOf ds with
    | some ns => some (.bool (decide (a ∈ ns)))
    | none => inD (.int a) (.tuple ds)
  | d, e => inD d e
def notInF : D → D → Option D
  | .int a, .list ds => match intsOf ds with
    | some ns => some (.bool (!decide (a ∈ ns)))
    | none => notInD (.int a) (.list ds)
  | .int a, .tuple ds => match intsOf ds with
    | some ns => some (.bool (!decide (a ∈ ns)))
    | none => notInD (.int a) (.tuple ds)
  | d, e => notInD d e
theorem ltF_eq : ltD = ltF := by
  funext d e
  unfold ltF
  split <;> simp
theorem gtF_eq : gtD = gtF := by
  funext d e
  unfold gtF
  split <;> simp
theorem leF_eq : leD = leF := by
  funext d e
  unfold leF
  split <;> simp
theorem geF_eq : geD = geF := by
  funext d e
  unfold geF
  split <;> simp
theorem eqF_eq : eqD = eqF := by
  funext d e
  unfold eqF
  split
  · simp
  · split
    · rename_i h
      rw [intsOf_map h, eq_l0]
    · rfl
  · rfl
theorem neF_eq : neD = neF := by
  funext d e
  unfold neF
  split
  · simp
  · split
    · rename_i h
      rw [intsOf_map h, ne_l0]
    · rfl
  · rfl
theorem inF_eq : inD = inF := by
  funext d e
  unfold inF
  split
  · split
    · rename_i h
      rw [intsOf_map h, in_l]
    · rfl
  · split
    · rename_i h
      rw [intsOf_map h, in_t]
    · rfl
  · rfl
theorem notInF_eq : notInD = notInF := by
  funext d e
  unfold notInF
  split
  · split
    · rename_i h
      rw [intsOf_map h, notIn_l]
    · rfl
  · split
    · rename_i h
      rw [intsOf_map h, notIn_t]
    · rfl
  · rfl
/-! min, max of a list of ints -/
theorem bestOk_ints (xs : List Int) : bestOk (xs.map .int) = true := by
  unfold bestOk
  rw [(shpA_ints xs).2]
  simp only [Bool.and_eq_true, List.all_eq_true, List.mem_map, forall_exists_index, and_imp, forall_apply_eq_imp_iff₂]
  refine ⟨⟨fun a _ b _ => ?_, fun a _ => trivial⟩, by decide⟩
  with_unfolding_all rfl
theorem minOf_i (n : Int) (ns : List Int) : minOf ((n :: ns).map .int) = some (.int (ns.foldl min n)) := by
  have h := bestOk_ints (n :: ns)
  rw [List.map_cons] at h ⊢
  rw [minOf, if_pos h, PySem.W.minD_ints]
theorem maxOf_i (n : Int) (ns : List Int) : maxOf ((n :: ns).map .int) = some (.int (ns.foldl max n)) := by
  have h := bestOk_ints (n :: ns)
  rw [List.map_cons] at h ⊢
  rw [maxOf, if_pos h, PySem.W.maxD_ints]
def minF : List D → Option D
  | [.list ds] => match intsOf ds with
    | some (n :: ns) => some (.int (ns.foldl min n))
    | _ => minA [.list ds]
  | ds => minA ds
def maxF : List D → Option D
  | [.list ds] => match intsOf ds with
    | some (n :: ns) => some (.int (ns.foldl max n))
    | _ => maxA [.list ds]
  | ds => maxA ds
theorem minF_eq : minA = minF := by
  funext ds
  unfold minF
  split
  · split
    · rename_i h
      rw [intsOf_map h, minA, items_l, Option.bind_some, minOf_i]
    · rfl
  · rfl
theorem maxF_eq : maxA = maxF := by
  funext ds
  unfold maxF
  split
  · split
    · rename_i h
      rw [intsOf_map h, maxA, items_l, Option.bind_some, maxOf_i]
    · rfl
  · rfl
end Q
end

/-! part: Q15 -/
section
set_option Elab.async false
set_option linter.all false
set_option maxRecDepth 100000
set_option maxHeartbeats 4000000
set_option autoImplicit false
namespace Q
open PySem PySem.Spec PySem.Calls PyProof.Rows L2
/-! ### x.index(y), x.count(y): lists and tuples of data -/
section
variable {X : Cx} {pins : List (Addr × Obj)} {σ : L2.St} {H : Hp} {s : Shared}
theorem tupAt_is (I : Inv X pins σ H s) {a : Addr} {xs : List V} (h : TupAt X.K H a xs) : s.TypeIs (.ref a) "tuple" ∧ ∀ b, Value.ref a = .ref b → ∃ ob, s.heap.get? b = some ob ∧ ob.dict = none := by
  rcases h with ⟨o, h, hc, hd⟩ | ⟨o, its, n, h, hc, hd, _⟩
  · have e := (I.hok a _ h).1
    exact ⟨⟨o, e, hc⟩, fun b z => by cases z; exact ⟨o, e, hd⟩⟩
  · have e := I.kIn a o h
    exact ⟨⟨o, e, hc⟩, fun b z => by cases z; exact ⟨o, e, hd⟩⟩
theorem listAt_is (I : Inv X pins σ H s) {a : Addr} {xs : List V} (h : SqL X.K H a xs) : s.TypeIs (.ref a) "list" ∧ ∀ b, Value.ref a = .ref b → ∃ ob, s.heap.get? b = some ob ∧ ob.dict = none := by
  obtain ⟨its, _, pl, _⟩ := I.list h
  refine ⟨pl.isList.typeIs, fun b z => ?_⟩
  cases z
  obtain ⟨o, n, e, c, hd, _⟩ := pl
  exact ⟨o, e, hd⟩
/-- a method of lists or of tuples -/
def tSM (K : PySem.W.Frag) (rl rt : V → List V → Hp → VK → Prop) (to : TE) (t : TA) : TE := fun σ H Q => to σ H fun x H1 =>
  ((∃ p xs, x = V.ref p ∧ SqL K H1 p xs) ∧ t σ H1 fun ys H2 => rl x ys H2 Q) ∨ ((∃ p xs, x = V.ref p ∧ TupAt K H1 p xs) ∧ t σ H1 fun ys H2 => rt x ys H2 Q)
variable {o e : Expr} {es : List Expr} {to : TE} {t : TA} {name : Str} {apos cpos : Pos} {idl idt : String} {rl rt : V → List V → Hp → VK → Prop}
theorem pe_sm (sl : Slot "list" name idl) (hl : typeOf (.builtin idl) = pure (.type "method_descriptor")) (ml : MtR X idl rl) (st : Slot "tuple" name idt) (ht : typeOf (.builtin idt) = pure (.type "method_descriptor")) (mt : MtR X idt rt)
    (ho : PE X o to) (ha : PA X (e :: es) t) (hbase : attributeBase o name X.env (eval o X.env) = eval o X.env := by rfl)
    (hfew : ((backTo cpos (starEach (e :: es) X.env)).all (fun x => !x.1) && (backToKw cpos (keywordEach [] X.env)).all (fun x => x.1.isSome)
        && decide ((e :: es).length + ([] : List Keyword).length + (if ([] : List Keyword).isEmpty then 0 else 1) < 30)) = true := by rfl)
    (hline : (apos.endLine == cpos.line) = true := by rfl) (hs : starEach (e :: es) X.env = (false, eval e X.env) :: starEach es X.env := by rfl) (hplain : (backTo cpos (starEach es X.env)).any (·.1) = false := by rfl) :
    PE X (.Call (.Attribute o name apos) (e :: es) [] cpos) (tSM X.K rl rt to t) := by
  constructor
  intro pins s σ H Q I h
  refine wpAny_Call_method_late hbase hfew hline rfl (thn (ho.run pins s σ H _ I h) fun v s1 ⟨x, H1, I1, r1, q1⟩ => ?_)
  rcases q1 with ⟨⟨p, xs, rfl, hx⟩, q1⟩ | ⟨⟨p, xs, rfl, hx⟩, q1⟩
  · cases r1
    obtain ⟨h1, h2⟩ := listAt_is I1 hx
    refine ⟨"list", idl, PySem.F.plainAttrs_list, sl, hl, h1, h2, ?_⟩
    have hA := ha.run cpos pins s1 σ H1 _ I1 q1
    rw [hs] at hA ⊢
    exact Calls.callWith_builtin (by show (false || (backTo cpos (starEach es X.env)).any (·.1)) = false; rw [hplain] <;> rfl) (Calls.evalArgs_plain (thn hA fun us s2 ⟨vs, H2, I2, r2, q2⟩ => ml pins s2 σ H2 (V.ref p) vs _ us Q I2 rfl r2 q2))
  · cases r1
    obtain ⟨h1, h2⟩ := tupAt_is I1 hx
    refine ⟨"tuple", idt, PySem.F.plainAttrs_tuple, st, ht, h1, h2, ?_⟩
    have hA := ha.run cpos pins s1 σ H1 _ I1 q1
    rw [hs] at hA ⊢
    exact Calls.callWith_builtin (by show (false || (backTo cpos (starEach es X.env)).any (·.1)) = false; rw [hplain] <;> rfl) (Calls.evalArgs_plain (thn hA fun us s2 ⟨vs, H2, I2, r2, q2⟩ => mt pins s2 σ H2 (V.ref p) vs _ us Q I2 rfl r2 q2))
end
mutual
theorem nd_plain : ∀ d : D, d.plain = true → nd d = true
  | .none, _ => rfl
  | .bool _, _ => rfl
  | .int _, _ => rfl
  | .str _, _ => rfl
  | .list xs, h => by rw [nd]; exact nd_plainA xs (by simpa [PyData.plain] using h)
  | .tuple xs, h => by rw [nd]; exact nd_plainA xs (by simpa [PyData.plain] using h)
  | .dict _, h => by simp [PyData.plain] at h
theorem nd_plainA : ∀ ds : List D, PyData.plainAll ds = true → ndA ds = true
  | [], _ => by rw [ndA]
  | x :: xs, h => by
    rw [ndA]
    rw [PyData.plainAll, Bool.and_eq_true] at h
    rw [nd_plain x h.1, nd_plainA xs h.2]
    rfl
end
/-- what the two methods ask of the data -/
def smOk (d : D) (ds : List D) : Bool := PyData.plainAll ds && d.plain && decide (d.depth ≤ 64)
def rCntL (K : PySem.W.Frag) : V → List V → Hp → VK → Prop := fun x ys H Q => ∃ a y d ds, x = V.ref a ∧ ys = [y] ∧ Dp K H (.ref a) (.list ds) ∧ Dp K H y d ∧ smOk d ds = true ∧ Q (.int ((ds.countP fun z => PyData.eqv z d : Nat) : Int)) H
def rCntT (K : PySem.W.Frag) : V → List V → Hp → VK → Prop := fun x ys H Q => ∃ a y d ds, x = V.ref a ∧ ys = [y] ∧ Dp K H (.ref a) (.tuple ds) ∧ Dp K H y d ∧ smOk d ds = true ∧ Q (.int ((ds.countP fun z => PyData.eqv z d : Nat) : Int)) H
def rIdxL (K : PySem.W.Frag) : V → List V → Hp → VK → Prop := fun x ys H Q => ∃ a y d ds j, x = V.ref a ∧ ys = [y] ∧ Dp K H (.ref a) (.list ds) ∧ Dp K H y d ∧ smOk d ds = true ∧ SeqAt.dataPlace ds d = some j ∧ Q (.int (j : Nat)) H
def rIdxT (K : PySem.W.Frag) : V → List V → Hp → VK → Prop := fun x ys H Q => ∃ a y d ds j, x = V.ref a ∧ ys = [y] ∧ Dp K H (.ref a) (.tuple ds) ∧ Dp K H y d ∧ smOk d ds = true ∧ SeqAt.dataPlace ds d = some j ∧ Q (.int (j : Nat)) H
theorem smOk_of {d : D} {ds : List D} (h : smOk d ds = true) : PyData.plainAll ds = true ∧ d.plain = true ∧ d.depth ≤ 64 := by
  unfold smOk at h
  simp only [Bool.and_eq_true, decide_eq_true_eq] at h
  exact ⟨h.1.1, h.1.2, h.2⟩
section
variable {X : Cx}
theorem room_sm {A : Around} {d : D} {ds : List D} (h : d.depth ≤ 64) (hu : A.units + 65 < cLine) : A.units + 1 + min (PyData.depthAll ds) d.depth < cLine := by
  have : min (PyData.depthAll ds) d.depth ≤ d.depth := Nat.min_le_right _ _
  omega
theorem vals_one {y : V} {us : List Value} (h : Vals [y] us) : ∃ u, us = [u] ∧ RelV y u := by
  cases h with
  | cons r t => cases t; exact ⟨_, rfl, r⟩
theorem mt_cntL (hu : X.A.units + 65 < cLine) : MtR X "list.count" (rCntL X.K) := by
  intro pins s σ H x xs v us Q I rx rxs ⟨a, y, d, ds, e1, e2, hl, hy, ok, q⟩
  subst e1 e2
  cases rx
  obtain ⟨u, rfl, ry⟩ := vals_one rxs
  obtain ⟨h1, h2, h3⟩ := smOk_of ok
  obtain ⟨bs, rd⟩ := Dp.reads I d y u hy ry
  cases hl with
  | lst hs ha =>
    obtain ⟨its, rv, pl, hz⟩ := I.list hs
    obtain ⟨as, ra⟩ := Dp.readsAll I ds _ its ha rv
    exact SeqAt.count_list_data pl.isList (show ReadsAll s.heap its.toArray.toList ds as from ra) rd h1 h2 (room_sm h3 hu) ⟨.int ((ds.countP fun z => PyData.eqv z d : Nat) : Int), H, I.tok _, ⟨_, rfl⟩, q⟩
theorem mt_cntT (hu : X.A.units + 65 < cLine) : MtR X "tuple.count" (rCntT X.K) := by
  intro pins s σ H x xs v us Q I rx rxs ⟨a, y, d, ds, e1, e2, hl, hy, ok, q⟩
  subst e1 e2
  cases rx
  obtain ⟨u, rfl, ry⟩ := vals_one rxs
  obtain ⟨h1, h2, h3⟩ := smOk_of ok
  obtain ⟨bs, rd⟩ := Dp.reads I d y u hy ry
  cases hl with
  | tup hs ha =>
    obtain ⟨its, rv, pl, hz⟩ := I.tuple hs
    obtain ⟨as, ra⟩ := Dp.readsAll I ds _ its ha rv
    exact SeqAt.count_tuple_data pl (show ReadsAll s.heap its.toArray.toList ds as from ra) rd h1 h2 (room_sm h3 hu) ⟨.int ((ds.countP fun z => PyData.eqv z d : Nat) : Int), H, I.tok _, ⟨_, rfl⟩, q⟩
theorem mt_idxL (hu : X.A.units + 65 < cLine) : MtR X "list.index" (rIdxL X.K) := by
  intro pins s σ H x xs v us Q I rx rxs ⟨a, y, d, ds, j, e1, e2, hl, hy, ok, hj, q⟩
  subst e1 e2
  cases rx
  obtain ⟨u, rfl, ry⟩ := vals_one rxs
  obtain ⟨h1, h2, h3⟩ := smOk_of ok
  obtain ⟨bs, rd⟩ := Dp.reads I d y u hy ry
  cases hl with
  | lst hs ha =>
    obtain ⟨its, rv, ⟨⟨cls, dd, data, sl⟩, n, ho, hc, hdn, hdt⟩, hz⟩ := I.list hs
    simp only at hc hdt
    subst hc hdt
    obtain ⟨as, ra⟩ := Dp.readsAll I ds _ its ha rv
    have ra' : ReadsAll s.heap its.toArray.toList ds as := ra
    obtain ⟨k1, k2, k3⟩ := SeqAt.hit_at ra' h1 hj
    have hsz : its.toArray.size ≤ sizeLine := by rw [List.size_toArray, ← rv.length]; exact hz
    have hsl := sizeLine_eq
    exact call_meets PySem.F.slot_list_index ⟨_, ho, rfl⟩ PySem.F.entry_list_index (PySem.F.args_list_index_2 _ _) (SeqAt.list_indexAt a its.toArray n dd sl u (fun z => PyData.eqv (SeqAt.readOf s.heap z) d) j k1 (by omega) k2 k3)
      ⟨ho, SeqAt.items_plain ra' rd h1 h2 (room_sm h3 hu), ⟨.int (j : Nat), H, I.tok _, ⟨_, rfl⟩, q⟩⟩
theorem mt_idxT (hu : X.A.units + 65 < cLine) : MtR X "tuple.index" (rIdxT X.K) := by
  intro pins s σ H x xs v us Q I rx rxs ⟨a, y, d, ds, j, e1, e2, hl, hy, ok, hj, q⟩
  subst e1 e2
  cases rx
  obtain ⟨u, rfl, ry⟩ := vals_one rxs
  obtain ⟨h1, h2, h3⟩ := smOk_of ok
  obtain ⟨bs, rd⟩ := Dp.reads I d y u hy ry
  cases hl with
  | tup hs ha =>
    obtain ⟨its, rv, ⟨⟨cls, dd, data, sl⟩, ho, hc, n, hdt⟩, hz⟩ := I.tuple hs
    simp only at hc hdt
    subst hc hdt
    obtain ⟨as, ra⟩ := Dp.readsAll I ds _ its ha rv
    have ra' : ReadsAll s.heap its.toArray.toList ds as := ra
    obtain ⟨k1, k2, k3⟩ := SeqAt.hit_at ra' h1 hj
    exact call_meets PySem.F.slot_tuple_index ⟨_, ho, rfl⟩ PySem.F.entry_tuple_index (PySem.F.args_tuple_index_2 _ _) (TI.tuple_indexAt a its.toArray n dd sl u (fun z => PyData.eqv (SeqAt.readOf s.heap z) d) j k1 k2 k3)
      ⟨ho, SeqAt.items_plain ra' rd h1 h2 (room_sm h3 hu), ⟨.int (j : Nat), H, I.tok _, ⟨_, rfl⟩, q⟩⟩
end
def cntD (d e : D) : Option D := (itemsD d).bind fun ds => if smOk e ds = true then some (.int ((ds.countP fun z => PyData.eqv z e : Nat) : Int)) else none
def idxD (d e : D) : Option D := (itemsD d).bind fun ds => if smOk e ds = true then (SeqAt.dataPlace ds e).map fun j => .int (j : Nat) else none
section
variable {X : Cx} {m m1 m2 : Md} {o e : Expr} {to te : TE} {f g : Rho → Option D} {apos cpos : Pos}
theorem if_opt {α : Type} {p : Prop} [Decidable p] {x : Option α} {z : α} (h : (if p then x else none) = some z) : p ∧ x = some z := by
  by_cases hp : p
  · rw [if_pos hp] at h; exact ⟨hp, h⟩
  · rw [if_neg hp] at h; cases h
theorem sem_sm {K : PySem.W.Frag} {rl rt : V → List V → Hp → VK → Prop} {h : D → D → Option D}
    (hl : ∀ (F H : Hp) (x y : V) (ds : List D) (d z : D) (Q : VK), (∃ a, x = V.ref a ∧ Dp K H x (.list ds)) → Dp K H y d → Same F H → h (.list ds) d = some z → (∀ v F' H', Ext F H F' H' → Res K .fz H F' H' v z → Q v H') → rl x [y] H Q)
    (ht : ∀ (F H : Hp) (x y : V) (ds : List D) (d z : D) (Q : VK), (∃ a, x = V.ref a ∧ Dp K H x (.tuple ds)) → Dp K H y d → Same F H → h (.tuple ds) d = some z → (∀ v F' H', Ext F H F' H' → Res K .fz H F' H' v z → Q v H') → rt x [y] H Q)
    (hn : ∀ d e z, h d e = some z → ∃ ds, itemsD d = some ds ∧ smOk e ds = true) (ho : SemE K m1 to f) (ha : SemE K m2 te g) : SemE K .fz (tSM K rl rt to (tCons te tNil)) (f2 h f g) := by
  intro B F H σ ρ z Q r hf q
  obtain ⟨d, h1, h2⟩ := bind_some hf
  obtain ⟨e, h3, h4⟩ := bind_some h2
  obtain ⟨ds, hd, hsm⟩ := hn d e z h4
  obtain ⟨n1, n2, _⟩ := smOk_of hsm
  have n1 := nd_plainA _ n1
  have n2 := nd_plain _ n2
  refine ho B F H σ ρ d _ r h1 fun v F1 H1 x1 r1 => ?_
  cases d with
  | list ds' =>
    obtain ⟨a, xs, rfl, s1, p1⟩ := r1.list x1.s
    refine .inl ⟨⟨a, xs, rfl, s1⟩, ?_⟩
    refine ha B F1 H1 σ ρ e _ (r.ext x1) h3 fun u F2 H2 x2 r2 => ?_
    have x3 := x1.trans x2
    exact hl F2 H2 _ u ds' e z Q ⟨a, rfl, (r1.mono x2).dp x2.s (by cases hd; rw [nd]; exact n1)⟩ (r2.dp x2.s n2) x2.s h4 fun v' F' H' x' r' => q v' F' H' (x3.trans x') (r'.back (F1 := F2) (x1.h.trans x2.h))
  | tuple ds' =>
    obtain ⟨a, xs, rfl, s1, p1⟩ := r1.tup x1.s
    refine .inr ⟨⟨a, xs, rfl, s1⟩, ?_⟩
    refine ha B F1 H1 σ ρ e _ (r.ext x1) h3 fun u F2 H2 x2 r2 => ?_
    have x3 := x1.trans x2
    exact ht F2 H2 _ u ds' e z Q ⟨a, rfl, (r1.mono x2).dp x2.s (by cases hd; rw [nd]; exact n1)⟩ (r2.dp x2.s n2) x2.s h4 fun v' F' H' x' r' => q v' F' H' (x3.trans x') (r'.back (F1 := F2) (x1.h.trans x2.h))
  | _ => cases hd
theorem de_index (K' : PySem.W.Frag) (hu : X.A.units + 65 < cLine) (ho : DE X m1 o to f) (he : DE X m2 e te g) (hK : X.K = K' := by rfl) (hbase : attributeBase o "index" X.env (eval o X.env) = eval o X.env := by rfl)
    (hfew : ((backTo cpos (starEach [e] X.env)).all (fun x => !x.1) && (backToKw cpos (keywordEach [] X.env)).all (fun x => x.1.isSome)
        && decide ([e].length + ([] : List Keyword).length + (if ([] : List Keyword).isEmpty then 0 else 1) < 30)) = true := by rfl)
    (hline : (apos.endLine == cpos.line) = true := by rfl) (hs : starEach [e] X.env = (false, eval e X.env) :: starEach [] X.env := by rfl) (hplain : (backTo cpos (starEach [] X.env)).any (·.1) = false := by rfl) :
    DE X .fz (.Call (.Attribute o "index" apos) [e] [] cpos) (tSM K' (rIdxL K') (rIdxT K') to (tCons te tNil)) (f2 idxD f g) := by
  subst hK
  refine ⟨pe_sm PySem.F.slot_list_index PySem.F.type_list_index (mt_idxL hu) PySem.F.slot_tuple_index PySem.F.type_tuple_index (mt_idxT hu) ho.p (pa_cons he.p pa_nil hs) hbase hfew hline hs hplain, sem_sm (fun F H x y ds d z Q ⟨a, ex, hx⟩ hy fh hz q => ?_) (fun F H x y ds d z Q ⟨a, ex, hx⟩ hy fh hz q => ?_) (fun d e z h => ?_) ho.s he.s⟩
  · subst ex
    obtain ⟨h1, h2⟩ := if_opt (show (if smOk d ds = true then ((SeqAt.dataPlace ds d).map fun j => PyData.int (j : Nat)) else none) = some z from hz)
    obtain ⟨j, h3, rfl⟩ := Option.map_eq_some_iff.mp h2
    exact ⟨a, y, d, ds, j, rfl, rfl, hx, hy, h1, h3, q _ F H (.refl fh) (Rep.int _)⟩
  · subst ex
    obtain ⟨h1, h2⟩ := if_opt (show (if smOk d ds = true then ((SeqAt.dataPlace ds d).map fun j => PyData.int (j : Nat)) else none) = some z from hz)
    obtain ⟨j, h3, rfl⟩ := Option.map_eq_some_iff.mp h2
    exact ⟨a, y, d, ds, j, rfl, rfl, hx, hy, h1, h3, q _ F H (.refl fh) (Rep.int _)⟩
  · obtain ⟨ds, h1, h2⟩ := bind_some h
    exact ⟨ds, h1, (if_opt h2).1⟩
theorem de_count (K' : PySem.W.Frag) (hu : X.A.units + 65 < cLine) (ho : DE X m1 o to f) (he : DE X m2 e te g) (hK : X.K = K' := by rfl) (hbase : attributeBase o "count" X.env (eval o X.env) = eval o X.env := by rfl)
    (hfew : ((backTo cpos (starEach [e] X.env)).all (fun x => !x.1) && (backToKw cpos (keywordEach [] X.env)).all (fun x => x.1.isSome)
        && decide ([e].length + ([] : List Keyword).length + (if ([] : List Keyword).isEmpty then 0 else 1) < 30)) = true := by rfl)
    (hline : (apos.endLine == cpos.line) = true := by rfl) (hs : starEach [e] X.env = (false, eval e X.env) :: starEach [] X.env := by rfl) (hplain : (backTo cpos (starEach [] X.env)).any (·.1) = false := by rfl) :
    DE X .fz (.Call (.Attribute o "count" apos) [e] [] cpos) (tSM K' (rCntL K') (rCntT K') to (tCons te tNil)) (f2 cntD f g) := by
  subst hK
  refine ⟨pe_sm PySem.F.slot_list_count PySem.F.type_list_count (mt_cntL hu) PySem.F.slot_tuple_count PySem.F.type_tuple_count (mt_cntT hu) ho.p (pa_cons he.p pa_nil hs) hbase hfew hline hs hplain, sem_sm (fun F H x y ds d z Q ⟨a, ex, hx⟩ hy fh hz q => ?_) (fun F H x y ds d z Q ⟨a, ex, hx⟩ hy fh hz q => ?_) (fun d e z h => ?_) ho.s he.s⟩
  · subst ex
    obtain ⟨h1, rfl⟩ := if_some (show (if smOk d ds = true then some (PyData.int ((ds.countP fun z => PyData.eqv z d : Nat) : Int)) else none) = some z from hz)
    exact ⟨a, y, d, ds, rfl, rfl, hx, hy, h1, q _ F H (.refl fh) (Rep.int _)⟩
  · subst ex
    obtain ⟨h1, rfl⟩ := if_some (show (if smOk d ds = true then some (PyData.int ((ds.countP fun z => PyData.eqv z d : Nat) : Int)) else none) = some z from hz)
    exact ⟨a, y, d, ds, rfl, rfl, hx, hy, h1, q _ F H (.refl fh) (Rep.int _)⟩
  · obtain ⟨ds, h1, h2⟩ := bind_some h
    exact ⟨ds, h1, (if_some h2).1⟩
end
end Q
end

/-! part: Q16 -/
section
set_option Elab.async false
set_option linter.all false
set_option maxRecDepth 100000
set_option maxHeartbeats 4000000
set_option autoImplicit false
namespace Q
open PySem PySem.Spec PySem.Calls PyProof.Rows L2
/-! ### more for the plain part -/
/-- a for loop that may return: the first x at which it stops -/
theorem forL_some {α : Type} {step : D → Bd} {mk : α → D} (stop : α → Option D) : ∀ (xs : List α) (inv : Nat → Rho → Prop) (ρ : Rho), inv 0 ρ →
    (∀ (k : Nat) (ρ : Rho) (x : α), inv k ρ → xs[k]? = some x → (∀ d, stop x = some d → step (mk x) ρ = some (.rt d)) ∧ (stop x = none → ∃ ρ', step (mk x) ρ = some (.nx ρ') ∧ inv (k + 1) ρ')) →
    (∀ d, xs.findSome? stop = some d → forL step (xs.map mk) ρ = some (.rt d)) ∧ (xs.findSome? stop = none → ∃ ρ', forL step (xs.map mk) ρ = some (.nx ρ') ∧ inv xs.length ρ')
  | [], inv, ρ, h0, _ => ⟨fun d h => by simp at h, fun _ => ⟨ρ, rfl, h0⟩⟩
  | x :: xs, inv, ρ, h0, h => by
    obtain ⟨a1, a2⟩ := h 0 ρ x h0 rfl
    cases hs : stop x with
    | some d =>
      refine ⟨fun d' h' => ?_, fun h' => ?_⟩
      · rw [List.findSome?_cons, hs] at h'
        cases h'
        rw [List.map_cons]
        unfold forL
        rw [a1 d hs]
        rfl
      · rw [List.findSome?_cons, hs] at h'
        cases h'
    | none =>
      obtain ⟨ρ1, b1, b2⟩ := a2 hs
      obtain ⟨c1, c2⟩ := forL_some stop xs (fun k => inv (k + 1)) ρ1 b2 (fun k ρ' y hk hy => h (k + 1) ρ' y hk (by simpa using hy))
      refine ⟨fun d' h' => ?_, fun h' => ?_⟩
      · rw [List.findSome?_cons, hs] at h'
        rw [List.map_cons]
        unfold forL
        rw [b1]
        exact c1 d' h'
      · rw [List.findSome?_cons, hs] at h'
        rw [List.map_cons]
        unfold forL
        rw [b1]
        exact c2 h'
theorem rg2_n {lo hi : Int} (h1 : -100000 ≤ lo ∧ lo ≤ 100000) (h2 : -100000 ≤ hi ∧ hi ≤ 100000) : rg2D [.int lo, .int hi] = some ((List.range (hi - lo).toNat).map fun i => .int (lo + (i : Nat))) := by
  rw [rg2D, if_pos (by omega)]
  rfl
theorem numL_ints : ∀ (ns : List Int) (k : Nat), numL k (ns.map .int) = (List.range ns.length).map fun i => .tuple [.int ((k + i : Nat) : Int), .int (ns.getD i 0)]
  | [], _ => rfl
  | n :: ns, k => by
    rw [List.map_cons, numL, numL_ints ns (k + 1), List.length_cons, List.range_succ_eq_map, List.map_cons, List.map_map]
    congr 1
    apply List.map_congr_left
    intro i _
    simp [Nat.add_assoc, Nat.add_comm 1 i]
theorem ints_ex : ∀ (l : List D), (∀ d ∈ l, ∃ n : Int, d = .int n) → ∃ ms : List Int, l = ms.map .int
  | [], _ => ⟨[], rfl⟩
  | d :: l, h => by
    obtain ⟨n, rfl⟩ := h d List.mem_cons_self
    obtain ⟨ms, rfl⟩ := ints_ex l fun e he => h e (List.mem_cons_of_mem _ he)
    exact ⟨n :: ms, rfl⟩
theorem srtOk_ints (ns : List Int) : srtOk (ns.map .int) = true := by
  unfold srtOk
  simp only [Bool.and_eq_true, Bool.or_eq_true, List.all_eq_true, List.mem_map, forall_exists_index, and_imp, forall_apply_eq_imp_iff₂]
  refine ⟨⟨fun a _ b _ => ?_, .inr fun a _ => trivial⟩, fun a _ => ?_⟩
  · with_unfolding_all rfl
  · with_unfolding_all rfl
theorem srt_ex (ns : List Int) : ∃ ms : List Int, srt (ns.map .int) = ms.map .int ∧ ms.length = ns.length := by
  have hp : (srt (ns.map .int)).Perm (ns.map .int) := List.mergeSort_perm _ _
  obtain ⟨ms, e⟩ := ints_ex (srt (ns.map .int)) fun d hd => by
    obtain ⟨n, _, rfl⟩ := List.mem_map.mp (hp.mem_iff.mp hd)
    exact ⟨n, rfl⟩
  refine ⟨ms, e, ?_⟩
  have := hp.length_eq
  rw [e] at this
  simpa using this
theorem sorted_t (ns : List Int) : sortedD [.tuple (ns.map .int)] = some (.list (srt (ns.map .int))) := by
  rw [sortedD, items_t, Option.bind_some, if_pos (srtOk_ints ns)]
theorem sorted_l (ns : List Int) : sortedD [.list (ns.map .int)] = some (.list (srt (ns.map .int))) := by
  rw [sortedD, items_l, Option.bind_some, if_pos (srtOk_ints ns)]
/-- (2, v) < (2, w) -/
theorem lt_key (v w : Int) : ltD (.tuple [.int 2, .int v]) (.tuple [.int 2, .int w]) = some (.bool (decide (v < w))) := by
  have ok : ordOk (.tuple [.int 2, .int v]) (.tuple [.int 2, .int w]) = true := by with_unfolding_all rfl
  unfold ltD
  rw [if_pos ok, PySem.W.dataLt_tuple]
  have a1 : PySem.W.alike (.int 2) (.int 2) = true := by with_unfolding_all rfl
  have a2 : PySem.W.alike (.int v) (.int w) = true := by with_unfolding_all rfl
  rw [PySem.W.dataLt_all_yes a1 (by with_unfolding_all rfl)]
  cases he : PyData.eqv (.int v) (.int w) with
  | false => rw [PySem.W.dataLt_all_no a2 he, PySem.W.dataLt_int]
  | true =>
    rw [PySem.W.dataLt_all_yes a2 he]
    have e : v = w := by
      unfold PyData.eqv at he
      exact eq_of_beq he
    subst e
    simp only [Int.lt_irrefl, decide_false]
    with_unfolding_all rfl
theorem head_filter {α : Type} (p : α → Bool) (xs : List α) : (xs.filter p).head? = xs.find? p := List.head?_filter ..
/-- the ints sorted -/
def sI (ns : List Int) : List Int := (intsOf (srt (ns.map .int))).getD []
theorem srt_sI (ns : List Int) : srt (ns.map .int) = (sI ns).map .int := by
  obtain ⟨ms, e, _⟩ := srt_ex ns
  unfold sI
  rw [e, intsOf_ints]
  rfl
theorem sI_len (ns : List Int) : (sI ns).length = ns.length := by
  obtain ⟨ms, e, h⟩ := srt_ex ns
  unfold sI
  rw [e, intsOf_ints]
  exact h
@[simp] theorem sorted_ti (ns : List Int) : sortedD [.tuple (ns.map .int)] = some (.list ((sI ns).map .int)) := by rw [sorted_t, srt_sI]
@[simp] theorem sorted_li (ns : List Int) : sortedD [.list (ns.map .int)] = some (.list ((sI ns).map .int)) := by rw [sorted_l, srt_sI]
theorem lcL_no {tt : D → Option Bool} {te : D → Option D} : ∀ {ds : List D}, (∀ d ∈ ds, tt d = some false) → lcL tt te ds = some []
  | [], _ => rfl
  | d :: ds, h => by
    unfold lcL
    rw [h d List.mem_cons_self]
    exact lcL_no fun e he => h e (List.mem_cons_of_mem _ he)
theorem range_cut (b : Nat → Bool) (m : Nat) : ∀ n : Nat, ((List.range (m + n)).filter fun i => decide (i < m) && b i) = (List.range m).filter b
  | 0 => by
    apply List.filter_congr
    intro i hi
    have : i < m := List.mem_range.mp hi
    simp [this]
  | n + 1 => by
    rw [← Nat.add_assoc, List.range_succ, List.filter_append, range_cut b m n]
    have : ¬ (m + n < m) := by omega
    simp [this]
theorem find_guard {α β : Type} (b : α → Bool) (f : α → β) : ∀ xs : List α, (xs.findSome? fun i => if b i = true then some (f i) else none) = (xs.find? b).map f
  | [] => rfl
  | x :: xs => by
    rw [List.findSome?_cons, List.find?_cons]
    cases h : b x with
    | true => simp
    | false => simpa using find_guard b f xs
theorem find_range (b : Nat → Bool) (m n : Nat) (i : Nat) (h : (List.range m).find? b = some i) : (List.range (m + n)).find? b = some i := by
  have e : List.range (m + n) = List.range m ++ (List.range n).map (m + ·) := List.range_add ..
  rw [e, List.find?_append, h]
  rfl
@[simp] theorem isB_bb {a b : Bool} : isBD (.bool a) (.bool b) = some (.bool (a == b)) := by cases a <;> cases b <;> rfl
@[simp] theorem notB_bb {a b : Bool} : notBD (.bool a) (.bool b) = some (.bool (!(a == b))) := by cases a <;> cases b <;> rfl
@[simp] theorem ne_f0 {α : Type} (p : α → Int) (L : List α) : neD (.list (L.map fun x => .int (p x))) (.list []) = some (.bool (!L.isEmpty)) := by
  have e : (L.map fun x => PyData.int (p x)) = (L.map p).map .int := by rw [List.map_map]; rfl
  rw [e, ne_l0]
  cases L <;> simp
end Q
end

/-! part: Q17 -/
section
set_option Elab.async false
set_option linter.all false
set_option maxRecDepth 100000
set_option maxHeartbeats 4000000
set_option autoImplicit false
namespace Q
open PySem PySem.Spec PySem.Calls PyProof.Rows L2
/-! ### data that the module's names hold -/
def datA (f : Value → D → Bool) : List Value → List D → Bool
  | [], [] => true
  | u :: us, d :: ds => f u d && datA f us ds
  | _, _ => false
def datB (K : PySem.W.Frag) : Nat → Value → D → Bool
  | 0, _, _ => false
  | _ + 1, .none, .none => true
  | _ + 1, .bool b, .bool c => b == c
  | _ + 1, .int i _, .int j => decide (i = j)
  | _ + 1, .str x _, .str y => decide (x = y)
  | n + 1, .ref a, .list ds => (match K.lookup a with
    | some ⟨.type c, none, .seq its _, _⟩ => decide (c = "list") && (decide (its.size ≤ sizeLine) && datA (datB K n) its.toList ds)
    | _ => false)
  | n + 1, .ref a, .tuple ds => (match K.lookup a with
    | some ⟨.type c, none, .seq its _, _⟩ => decide (c = "tuple") && (decide (its.size ≤ sizeLine) && datA (datB K n) its.toList ds)
    | _ => false)
  | _, _, _ => false
theorem and_b {a b : Bool} (h : (a && b) = true) : a = true ∧ b = true := Bool.and_eq_true_iff.mp h
theorem datA_ok {K : PySem.W.Frag} {f : Value → D → Bool} (hf : ∀ u d, f u d = true → ∃ v, RelV v u ∧ ∀ F, Rep K F v d) : ∀ {us : List Value} {ds : List D}, datA f us ds = true → ∃ vs, Vals vs us ∧ ∀ F, RepA K F vs ds
  | [], [], _ => ⟨[], .nil, fun _ => .nil⟩
  | u :: us, d :: ds, h => by
    obtain ⟨h1, h2⟩ := and_b h
    obtain ⟨v, r, p⟩ := hf u d h1
    obtain ⟨vs, rs, ps⟩ := datA_ok hf h2
    exact ⟨v :: vs, .cons r rs, fun F => .cons (p F) (ps F)⟩
theorem datB_ok {K : PySem.W.Frag} : ∀ (n : Nat) (u : Value) (d : D), datB K n u d = true → ∃ v, RelV v u ∧ ∀ F, Rep K F v d := by
  intro n
  induction n with
  | zero => intro u d h; cases h
  | succ n ih =>
    intro u d h
    unfold datB at h
    split at h
    · rename_i e; cases e
    · exact ⟨.non, rfl, fun F => .non⟩
    · rename_i b c e; cases eq_of_beq h; exact ⟨.bl _, rfl, fun F => .bl _⟩
    · rename_i i t j e; cases of_decide_eq_true h; exact ⟨.int _, ⟨_, rfl⟩, fun F => .int _⟩
    · rename_i x t y e; cases of_decide_eq_true h; exact ⟨.str _, ⟨_, rfl⟩, fun F => .str _⟩
    · rename_i m a ds e
      cases e
      split at h
      · rename_i c its k sl q
        obtain ⟨h1, h2⟩ := and_b h
        obtain ⟨h3, h4⟩ := and_b h2
        obtain ⟨vs, rs, ps⟩ := datA_ok ih h4
        exact ⟨.ref a, rfl, fun F => .lst (.inr ⟨_, its, k, q, congrArg Value.type (of_decide_eq_true h1), rfl, rfl, of_decide_eq_true h3, rs⟩) (ps F)⟩
      · cases h
    · rename_i m a ds e
      cases e
      split at h
      · rename_i c its k sl q
        obtain ⟨h1, h2⟩ := and_b h
        obtain ⟨h3, h4⟩ := and_b h2
        obtain ⟨vs, rs, ps⟩ := datA_ok ih h4
        exact ⟨.ref a, rfl, fun F => .tup (.inr ⟨_, its, k, q, congrArg Value.type (of_decide_eq_true h1), rfl, rfl, of_decide_eq_true h3, rs⟩) (ps F)⟩
      · cases h
    · cases h
/-- what the head looks at besides the given facts -/
inductive Ck where
  | fun_ (x : Str) (id : String)
  | dat (x : Str) (d : D)
def Ck.ok (K : PySem.W.Frag) : Ck → Bool
  | .fun_ x id => decide (PySem.W.nsIn K mainGlobals x = some (some (.builtin id)))
  | .dat x d => (match PySem.W.nsIn K mainGlobals x with
    | some (some u) => datB K 9 u d
    | _ => false)
def obsQ (n : Nat) (fa : List He.Fa) (fn : List He.DefD) (ck : List Ck) (g : Addr → Option Obj) : He.AlD × Bool := (He.obsDG n fa fn g, ck.all fun c => c.ok (He.frG g (He.asD g n)))
def hookQ (n : Nat) (fa : List He.Fa) (fn : List He.DefD) (ck : List Ck) : PySem.W.Hook where
  α := He.AlD × Bool
  obs := fun s => obsQ n fa fn ck s.heap.get?
  val := fun _ => (He.valD fn, true)
  says := fun _ h => ∃ K : PySem.W.Frag, K.In h ∧ He.SaysD fa fn K ∧ (ck.all fun c => c.ok K) = true
  of := fun _ _ e => ⟨_, He.frG_in, congrArg (fun z : He.AlD × Bool => z.1) e, congrArg (fun z : He.AlD × Bool => z.2) e⟩
  keeps := fun _ _ _ ⟨K, hK, c⟩ k => ⟨K, PySem.W.Frag.In.keeps hK k, c⟩
theorem obsQ_eq {n : Nat} {fa : List He.Fa} {fn : List He.DefD} {ck : List Ck} {g : Addr → Option Obj} {s : Shared} (h : ∀ a, g a = s.heap.get? a) : obsQ n fa fn ck g = (hookQ n fa fn ck).obs s := by
  have e : g = s.heap.get? := funext h
  rw [e] <;> rfl
section
variable {K : PySem.W.Frag} {h : Heap} {mg : Str → Option Value} {ck : List Ck}
theorem ck_at (c : (ck.all fun c => c.ok K) = true) (i : Nat) {f : Ck} (e : ck[i]? = some f := by rfl) : f.ok K = true := List.all_eq_true.mp c f (List.mem_of_getElem? e)
theorem ck_fun (X : K.In h) (G : h.Ns mainGlobals mg) {x : Str} {id : String} (c : (Ck.fun_ x id).ok K = true) : mg x = some (.builtin id) := PySem.W.mg_of X G (of_decide_eq_true c)
theorem ck_dat (X : K.In h) (G : h.Ns mainGlobals mg) {x : Str} {d : D} (c : (Ck.dat x d).ok K = true) : ∃ u v, mg x = some u ∧ RelV v u ∧ ∀ F, Rep K F v d := by
  have c2 : (match PySem.W.nsIn K mainGlobals x with
    | some (some u) => datB K 9 u d
    | _ => false) = true := c
  split at c2
  · rename_i u q
    obtain ⟨v, r, p⟩ := datB_ok 9 u d c2
    exact ⟨u, v, PySem.W.mg_of X G q, r, p⟩
  · cases c2
end
section
variable {X : Cx} {m1 : Md} {e : Expr} {es : List Expr} {t : TA} {fs : Rho → Option (List D)} {x : Str} {p pos : Pos}
theorem de_globD (K' : PySem.W.Frag) {v : V} {u : Value} {d : D} (hg : Gl X x) (hm : X.mg x = some u) (hr : RelV v u) (hd : ∀ F, Rep K' F v d) (hK : X.K = K' := by rfl) (hdb : (x == ("__debug__" : Str)) = false := by decide) : DE X .fz (.Name x pos) (tC v) (cD d) := by
  subst hK
  exact ⟨pe_glob hg hm hr hdb, sem_c hd⟩
def gcdD : List D → Option D
  | [.int a, .int b] => some (.int ((Nat.gcd a.natAbs b.natAbs : Nat) : Int))
  | _ => none
theorem cs_gcd {K : PySem.W.Frag} : CallS K .fz rGcd gcdD := by
  intro F H Ha vs ds z Q fh r hz q
  match ds, r, hz with
  | [.int a, .int b], r, hz =>
    cases hz
    obtain ⟨v, w, rfl, r1, r2⟩ := resA2 r
    rw [r1.int, r2.int]
    exact ⟨a, b, rfl, q _ F H (.refl fh) (Rep.int _)⟩
theorem de_bf {id : String} {m : Md} {rc : List V → Hp → VK → Prop} {gc : List D → Option D} (hc : CallR X (.builtin id) rc) (hs : CallS X.K m rc gc) (hg : Gl X x) (hm : X.mg x = some (.builtin id)) (ha : DA X m1 (e :: es) t fs) (hdb : (x == ("__debug__" : Str)) = false := by decide)
    (he : starEach (e :: es) X.env = (false, eval e X.env) :: starEach es X.env := by rfl) (hpl : (backTo pos (starEach es X.env)).any (·.1) = false := by rfl) : DE X m (.Call (.Name x p) (e :: es) [] pos) (tCB rc t) (fB gc fs) :=
  ⟨pe_callBfun hc hg hm ha.p hdb he hpl, sem_cb hs ha.s⟩
end
end Q
end

/-! part: Q18 -/
section
set_option Elab.async false
set_option linter.all false
set_option maxRecDepth 100000
set_option maxHeartbeats 4000000
set_option autoImplicit false
namespace Q
open PySem PySem.Spec PySem.Calls PyProof.Rows L2
/-! ### codes: a type told as data -/
structure Nice {α : Type} [DecidableEq α] (n : Nat) (mk : α → D) : Prop where
  lay : ∀ a, (mk a).canLay0 = true
  dep : ∀ a, (mk a).depth ≤ n
  eqv : ∀ a b, PyData.eqv (mk a) (mk b) = decide (a = b)
/-- and their order -/
structure Ordd {α : Type} (mk : α → D) (lt : α → α → Bool) : Prop where
  alike : ∀ a b, PySem.W.alike (mk a) (mk b) = true
  lt : ∀ a b, PySem.W.dataLt (mk a) (mk b) = lt a b
  nn : ∀ a, mk a ≠ .none
section
variable {α β γ : Type} [DecidableEq α] [DecidableEq β] [DecidableEq γ] {n m k : Nat} {mk : α → D} {mk2 : β → D} {mk3 : γ → D}
theorem Nice.up (h : Nice n mk) (hm : n ≤ m) : Nice m mk := ⟨h.lay, fun a => Nat.le_trans (h.dep a) hm, h.eqv⟩
theorem nice_int : Nice 0 PyData.int := ⟨fun _ => rfl, fun _ => Nat.le_refl _, fun a b => by by_cases e : a = b <;> simp [PyData.eqv, e]⟩
theorem nice_bool : Nice 0 PyData.bool := ⟨fun _ => rfl, fun _ => Nat.le_refl _, fun a b => by cases a <;> cases b <;> rfl⟩
theorem Nice.layA (h : Nice n mk) : ∀ xs : List α, PyData.canLayAll0 (xs.map mk) = true
  | [] => rfl
  | x :: xs => by rw [List.map_cons, PyData.canLayAll0, h.lay, h.layA xs]; rfl
theorem Nice.depA (h : Nice n mk) : ∀ xs : List α, PyData.depthAll (xs.map mk) ≤ n
  | [] => Nat.zero_le _
  | x :: xs => by rw [List.map_cons, PyData.depthAll]; exact Nat.max_le.mpr ⟨h.dep x, h.depA xs⟩
theorem Nice.eqvA (h : Nice n mk) : ∀ xs ys : List α, PyData.eqvAll (xs.map mk) (ys.map mk) = decide (xs = ys)
  | [], [] => rfl
  | [], _ :: _ => rfl
  | _ :: _, [] => rfl
  | x :: xs, y :: ys => by
    rw [List.map_cons, List.map_cons, PyData.eqvAll, h.eqv, h.eqvA xs ys]
    by_cases h1 : x = y <;> by_cases h2 : xs = ys <;> simp [h1, h2]
theorem nice_tup (h : Nice n mk) : Nice (n + 1) (fun xs : List α => PyData.tuple (xs.map mk)) :=
  ⟨fun xs => by rw [PyData.canLay0]; exact h.layA xs, fun xs => by rw [PyData.depth]; have := h.depA xs; omega, fun xs ys => by rw [PyData.eqv]; exact h.eqvA xs ys⟩
theorem nice_lst (h : Nice n mk) : Nice (n + 1) (fun xs : List α => PyData.list (xs.map mk)) :=
  ⟨fun xs => by rw [PyData.canLay0]; exact h.layA xs, fun xs => by rw [PyData.depth]; have := h.depA xs; omega, fun xs ys => by rw [PyData.eqv]; exact h.eqvA xs ys⟩
theorem nice_pair (h : Nice n mk) (h2 : Nice n mk2) : Nice (n + 1) (fun p : α × β => PyData.tuple [mk p.1, mk2 p.2]) :=
  ⟨fun p => by simp [PyData.canLay0, PyData.canLayAll0, h.lay, h2.lay], fun p => by have := h.dep p.1; have := h2.dep p.2; simp only [PyData.depth, PyData.depthAll]; omega, fun p q => by
    simp only [PyData.eqv, PyData.eqvAll, h.eqv, h2.eqv, Prod.ext_iff, Bool.and_true, Bool.decide_and]⟩
theorem nice_lpair (h : Nice n mk) (h2 : Nice n mk2) : Nice (n + 1) (fun p : α × β => PyData.list [mk p.1, mk2 p.2]) :=
  ⟨fun p => by simp [PyData.canLay0, PyData.canLayAll0, h.lay, h2.lay], fun p => by have := h.dep p.1; have := h2.dep p.2; simp only [PyData.depth, PyData.depthAll]; omega, fun p q => by
    simp only [PyData.eqv, PyData.eqvAll, h.eqv, h2.eqv, Prod.ext_iff, Bool.and_true, Bool.decide_and]⟩
theorem nice_trip (h : Nice n mk) (h2 : Nice n mk2) (h3 : Nice n mk3) : Nice (n + 1) (fun p : α × β × γ => PyData.tuple [mk p.1, mk2 p.2.1, mk3 p.2.2]) :=
  ⟨fun p => by simp [PyData.canLay0, PyData.canLayAll0, h.lay, h2.lay, h3.lay], fun p => by have := h.dep p.1; have := h2.dep p.2.1; have := h3.dep p.2.2; simp only [PyData.depth, PyData.depthAll]; omega, fun p q => by
    simp only [PyData.eqv, PyData.eqvAll, h.eqv, h2.eqv, h3.eqv, Prod.ext_iff, Bool.and_true, Bool.decide_and]⟩
theorem Nice.shp (h : Nice n mk) (hn : n ≤ 64) (a : α) : SeqAt.shaped (mk a) = true := by
  have := h.dep a
  simp only [SeqAt.shaped, h.lay, Bool.true_and, decide_eq_true_eq]
  omega
theorem Nice.plain (h : Nice n mk) (a : α) : (mk a).plain = true := PyData.plain_of_canLay0 _ (h.lay a)
theorem Nice.plainA (h : Nice n mk) : ∀ xs : List α, PyData.plainAll (xs.map mk) = true
  | [] => rfl
  | x :: xs => by rw [List.map_cons, PyData.plainAll, h.plain, h.plainA xs]; rfl
theorem Nice.eq (h : Nice n mk) (hn : n ≤ 64) (a b : α) : eqD (mk a) (mk b) = some (.bool (decide (a = b))) := by
  rw [eqD, if_pos ⟨h.shp hn a, h.shp hn b⟩, h.eqv]
theorem Nice.ne (h : Nice n mk) (hn : n ≤ 64) (a b : α) : neD (mk a) (mk b) = some (.bool (!decide (a = b))) := by
  rw [neD, if_pos ⟨h.shp hn a, h.shp hn b⟩, h.eqv]
theorem Nice.mem (h : Nice n mk) (a : α) (xs : List α) : memD (mk a) (xs.map mk) = decide (a ∈ xs) := by
  unfold memD
  induction xs with
  | nil => rfl
  | cons x xs ih =>
    rw [List.map_cons, List.any_cons, ih, h.eqv]
    by_cases e : x = a
    · subst e; simp
    · have e2 : ¬ a = x := fun z => e z.symm
      simp [e, e2]
theorem Nice.in_l (h : Nice n mk) (hn : n < 64) (a : α) (xs : List α) : inD (mk a) (.list (xs.map mk)) = some (.bool (decide (a ∈ xs))) := by
  rw [inD, items_l, Option.bind_some, if_pos ⟨h.shp (by omega) a, (nice_lst h).shp (by omega) xs⟩, h.mem]
theorem Nice.in_t (h : Nice n mk) (hn : n < 64) (a : α) (xs : List α) : inD (mk a) (.tuple (xs.map mk)) = some (.bool (decide (a ∈ xs))) := by
  rw [inD, items_t, Option.bind_some, if_pos ⟨h.shp (by omega) a, (nice_tup h).shp (by omega) xs⟩, h.mem]
theorem Nice.notIn_l (h : Nice n mk) (hn : n < 64) (a : α) (xs : List α) : notInD (mk a) (.list (xs.map mk)) = some (.bool (!decide (a ∈ xs))) := by
  rw [notInD, items_l, Option.bind_some, if_pos ⟨h.shp (by omega) a, (nice_lst h).shp (by omega) xs⟩, h.mem]
theorem Nice.notIn_t (h : Nice n mk) (hn : n < 64) (a : α) (xs : List α) : notInD (mk a) (.tuple (xs.map mk)) = some (.bool (!decide (a ∈ xs))) := by
  rw [notInD, items_t, Option.bind_some, if_pos ⟨h.shp (by omega) a, (nice_tup h).shp (by omega) xs⟩, h.mem]
theorem Nice.place (h : Nice n mk) (a : α) (xs : List α) (hx : a ∈ xs) : SeqAt.dataPlace (xs.map mk) (mk a) = some (xs.idxOf a) := by
  unfold SeqAt.dataPlace
  rw [List.findIdx?_map]
  have e : ((fun y => PyData.eqv y (mk a)) ∘ mk) = fun x => x == a := by
    funext x
    show PyData.eqv (mk x) (mk a) = _
    rw [h.eqv]
    rfl
  rw [e, List.findIdx?_eq_some_iff_findIdx_eq]
  exact ⟨List.idxOf_lt_length_iff.mpr hx, rfl⟩
theorem Nice.smOk (h : Nice n mk) (hn : n ≤ 64) (a : α) (xs : List α) : Q.smOk (mk a) (xs.map mk) = true := by
  have := h.dep a
  simp only [Q.smOk, h.plainA, h.plain, Bool.and_self, Bool.true_and, decide_eq_true_eq]
  omega
theorem Nice.idx_l (h : Nice n mk) (hn : n ≤ 64) (a : α) (xs : List α) (hx : a ∈ xs) : idxD (.list (xs.map mk)) (mk a) = some (.int (xs.idxOf a : Nat)) := by
  rw [idxD, items_l, Option.bind_some, if_pos (h.smOk hn a xs), h.place a xs hx]; rfl
theorem Nice.idx_t (h : Nice n mk) (hn : n ≤ 64) (a : α) (xs : List α) (hx : a ∈ xs) : idxD (.tuple (xs.map mk)) (mk a) = some (.int (xs.idxOf a : Nat)) := by
  rw [idxD, items_t, Option.bind_some, if_pos (h.smOk hn a xs), h.place a xs hx]; rfl
theorem Nice.cntP (h : Nice n mk) (a : α) (xs : List α) : (xs.map mk).countP (fun z => PyData.eqv z (mk a)) = xs.count a := by
  rw [List.countP_map, List.count]
  congr 1
  funext x
  show PyData.eqv (mk x) (mk a) = _
  rw [h.eqv]
  rfl
theorem Nice.cnt_l (h : Nice n mk) (hn : n ≤ 64) (a : α) (xs : List α) : cntD (.list (xs.map mk)) (mk a) = some (.int (xs.count a : Nat)) := by
  rw [cntD, items_l, Option.bind_some, if_pos (h.smOk hn a xs), h.cntP]
theorem Nice.cnt_t (h : Nice n mk) (hn : n ≤ 64) (a : α) (xs : List α) : cntD (.tuple (xs.map mk)) (mk a) = some (.int (xs.count a : Nat)) := by
  rw [cntD, items_t, Option.bind_some, if_pos (h.smOk hn a xs), h.cntP]
/-! order -/
theorem ordd_int : Ordd PyData.int fun a b => decide (a < b) := ⟨fun _ _ => by simp [PySem.W.alike], PySem.W.dataLt_int, fun _ z => nomatch z⟩
variable {lt : α → α → Bool} {lt2 : β → β → Bool} {lt3 : γ → γ → Bool}
theorem ordd_pair (h : Nice n mk) (h2 : Nice m mk2) (o : Ordd mk lt) (o2 : Ordd mk2 lt2) (irr : ∀ a, lt2 a a = false) : Ordd (fun p : α × β => PyData.tuple [mk p.1, mk2 p.2]) (fun p q => if p.1 = q.1 then lt2 p.2 q.2 else lt p.1 q.1) :=
  ⟨fun p q => by simp [PySem.W.alike, PySem.W.alikeAll, o.alike, o2.alike], fun p q => by
    rw [PySem.W.dataLt_pair (o.alike _ _) (o2.alike _ _), h.eqv, h2.eqv, o.lt, o2.lt]
    by_cases e : p.1 = q.1
    · by_cases e2 : p.2 = q.2
      · simp [e, e2, irr]
      · simp [e, e2]
    · simp [e], fun _ z => nomatch z⟩
theorem ordd_rows : Ordd (fun xs : List Int => PyData.tuple (xs.map .int)) (fun a b => decide (a < b)) := ⟨fun xs ys => by
    have : ∀ (xs ys : List Int), PySem.W.alikeAll (xs.map .int) (ys.map .int) = true := by
      intro xs
      induction xs with
      | nil => intro ys; simp [PySem.W.alikeAll]
      | cons x xs ih =>
        intro ys
        cases ys with
        | nil => simp [PySem.W.alikeAll]
        | cons y ys => simp [PySem.W.alikeAll, PySem.W.alike, ih]
    rw [PySem.W.alike]
    exact this xs ys, fun xs ys => by rw [PySem.W.dataLt_tuple]; exact PySem.W.dataLt_ints xs ys, fun _ z => nomatch z⟩
theorem bestOk_nice (h : Nice n mk) (hn : n ≤ 64) (o : Ordd mk lt) (xs : List α) : bestOk (xs.map mk) = true := by
  have := h.depA xs
  simp only [bestOk, Bool.and_eq_true, List.all_eq_true, List.mem_map, decide_eq_true_eq]
  refine ⟨⟨?_, ?_⟩, by omega⟩
  · rintro _ ⟨a, _, rfl⟩ _ ⟨b, _, rfl⟩
    exact o.alike a b
  · rintro _ ⟨a, _, rfl⟩
    have := o.nn a
    split
    · rename_i e; exact absurd e this
    · rfl
/-- the first of the least -/
def leastBy (lt : α → α → Bool) (x : α) (xs : List α) : α := xs.foldl (fun a y => if lt y a then y else a) x
/-- the first of the greatest -/
def mostBy (lt : α → α → Bool) (x : α) (xs : List α) : α := xs.foldl (fun a y => if lt a y then y else a) x
theorem minD_nice (o : Ordd mk lt) : ∀ (xs : List α) (x : α), PySem.W.minD (mk x) (xs.map mk) = mk (leastBy lt x xs)
  | [], _ => rfl
  | y :: xs, x => by
    have ih := minD_nice o xs (if lt y x then y else x)
    unfold PySem.W.minD leastBy at ih ⊢
    rw [List.map_cons, List.foldl_cons, List.foldl_cons, o.lt]
    rw [← ih]
    cases lt y x <;> rfl
theorem maxD_nice (o : Ordd mk lt) : ∀ (xs : List α) (x : α), PySem.W.maxD (mk x) (xs.map mk) = mk (mostBy lt x xs)
  | [], _ => rfl
  | y :: xs, x => by
    have ih := maxD_nice o xs (if lt x y then y else x)
    unfold PySem.W.maxD mostBy at ih ⊢
    rw [List.map_cons, List.foldl_cons, List.foldl_cons, o.lt]
    rw [← ih]
    cases lt x y <;> rfl
theorem minOf_nice (h : Nice n mk) (hn : n ≤ 64) (o : Ordd mk lt) (x : α) (xs : List α) : minOf ((x :: xs).map mk) = some (mk (leastBy lt x xs)) := by
  have := bestOk_nice h hn o (x :: xs)
  rw [List.map_cons] at this ⊢
  rw [minOf, if_pos this, minD_nice o]
theorem maxOf_nice (h : Nice n mk) (hn : n ≤ 64) (o : Ordd mk lt) (x : α) (xs : List α) : maxOf ((x :: xs).map mk) = some (mk (mostBy lt x xs)) := by
  have := bestOk_nice h hn o (x :: xs)
  rw [List.map_cons] at this ⊢
  rw [maxOf, if_pos this, maxD_nice o]
theorem leastBy_mem : ∀ (xs : List α) (x : α), leastBy lt x xs ∈ x :: xs
  | [], x => List.mem_cons_self
  | y :: xs, x => by
    unfold leastBy
    rw [List.foldl_cons]
    have := leastBy_mem xs (if lt y x then y else x)
    unfold leastBy at this
    rcases List.mem_cons.mp this with e | e
    · rw [e]
      split <;> simp
    · exact List.mem_cons_of_mem _ (List.mem_cons_of_mem _ e)
theorem mostBy_mem : ∀ (xs : List α) (x : α), mostBy lt x xs ∈ x :: xs
  | [], x => List.mem_cons_self
  | y :: xs, x => by
    unfold mostBy
    rw [List.foldl_cons]
    have := mostBy_mem xs (if lt x y then y else x)
    unfold mostBy at this
    rcases List.mem_cons.mp this with e | e
    · rw [e]
      split <;> simp
    · exact List.mem_cons_of_mem _ (List.mem_cons_of_mem _ e)
/-- the one least -/
theorem leastBy_eq {z : α} : ∀ (xs : List α) (x : α), z ∈ x :: xs → (∀ y ∈ x :: xs, y ≠ z → lt z y = true) → (∀ y ∈ x :: xs, lt y z = false) → leastBy lt x xs = z
  | [], x, h, _, _ => by
    rcases List.mem_cons.mp h with rfl | h
    · rfl
    · cases h
  | y :: xs, x, h, h1, h2 => by
    unfold leastBy
    rw [List.foldl_cons]
    refine leastBy_eq xs _ ?_ ?_ ?_
    · by_cases e : x = z
      · subst e
        rw [h2 y (by simp)]
        simp
      · by_cases e2 : y = z
        · subst e2
          rw [h1 x (by simp) e]
          simp
        · rcases List.mem_cons.mp h with rfl | h
          · exact absurd rfl e
          · rcases List.mem_cons.mp h with rfl | h
            · exact absurd rfl e2
            · exact List.mem_cons_of_mem _ h
    · intro w hw hn
      rcases List.mem_cons.mp hw with rfl | hw
      · cases c : lt y x
        · simp only [c, Bool.false_eq_true, if_false] at hn ⊢
          exact h1 _ (by simp) hn
        · simp only [c, if_true] at hn ⊢
          exact h1 _ (by simp) hn
      · exact h1 w (by simp [hw]) hn
    · intro w hw
      rcases List.mem_cons.mp hw with rfl | hw
      · split
        · exact h2 _ (by simp)
        · exact h2 _ (by simp)
      · exact h2 w (by simp [hw])
theorem mostBy_least (x : α) (xs : List α) : mostBy lt x xs = leastBy (fun a b => lt b a) x xs := rfl
theorem mostBy_eq {z : α} (xs : List α) (x : α) (h : z ∈ x :: xs) (h1 : ∀ y ∈ x :: xs, y ≠ z → lt y z = true) (h2 : ∀ y ∈ x :: xs, lt z y = false) : mostBy lt x xs = z := by
  rw [mostBy_least]
  exact leastBy_eq xs x h h1 h2
/-! sorted -/
end
end Q
namespace Q
open PySem PySem.Spec PySem.Calls PyProof.Rows L2
section
variable {α : Type} {mk : α → D}
theorem at_mk (xs : List α) {k : Nat} (d : α) (h : k < xs.length) : atI (xs.map mk) (k : Int) = some (mk (xs.getD k d)) := by
  rw [atI_nat (by simpa using h)]
  simp [h]
theorem numL_mk (d : α) : ∀ (xs : List α) (k : Nat), numL k (xs.map mk) = (List.range xs.length).map fun i => .tuple [.int ((k + i : Nat) : Int), mk (xs.getD i d)]
  | [], _ => rfl
  | x :: xs, k => by
    rw [List.map_cons, numL, numL_mk d xs (k + 1), List.length_cons, List.range_succ_eq_map, List.map_cons, List.map_map]
    congr 1
    apply List.map_congr_left
    intro i _
    simp [Nat.add_assoc, Nat.add_comm 1 i]
theorem enum_mk (d : α) (xs : List α) (x : D) (h : x = .list (xs.map mk) ∨ x = .tuple (xs.map mk)) : enumD x = some ((List.range xs.length).map fun (i : Nat) => .tuple [.int (i : Int), mk (xs.getD i d)]) := by
  rcases h with rfl | rfl
  · rw [enumD, items_l, Option.map_some, numL_mk d]
    simp
  · rw [enumD, items_t, Option.map_some, numL_mk d]
    simp
end
/-! trees of tuples -/
def tame : Nat → D → Bool
  | n + 1, .tuple ds => decide (ds.length ≤ 1000) && ds.all (tame n)
  | _ + 1, .int _ => true
  | _ + 1, .bool _ => true
  | _ + 1, .str x => PyData.canLay0 (.str x)
  | _ + 1, .none => true
  | _, _ => false
/-- tuples turned into lists -/
def lstd : Nat → D → D
  | n + 1, .tuple ds => .list (ds.map (lstd n))
  | _, d => d
theorem tame_t {n : Nat} {ds : List D} (h : tame (n + 1) (.tuple ds) = true) : ds.length ≤ 1000 ∧ ∀ d ∈ ds, tame n d = true := by
  simpa [tame] using h
theorem eq_str {x : Str} (h : PyData.canLay0 (.str x) = true) : eqD (.str x) (.str x) = some (.bool true) := by
  have e : SeqAt.shaped (.str x) = true := by simp [SeqAt.shaped, h, PyData.depth]
  rw [eqD, if_pos ⟨e, e⟩]
  simp [PyData.eqv]
/-! a loop, by what is done so far -/
theorem forL_pre {α : Type} {step : D → Bd} {mk : α → D} {all : List α} (inv : List α → Rho → Prop) : ∀ (xs pre : List α) (ρ : Rho), all = pre ++ xs → inv pre ρ →
    (∀ (pre post : List α) (ρ : Rho) (x : α), inv pre ρ → all = pre ++ x :: post → ∃ ρ', (step (mk x) ρ = some (.nx ρ') ∨ step (mk x) ρ = some (.ct ρ')) ∧ inv (pre ++ [x]) ρ') →
    ∃ ρ', forL step (xs.map mk) ρ = some (.nx ρ') ∧ inv all ρ'
  | [], pre, ρ, e, h0, h => ⟨ρ, rfl, by rw [e, List.append_nil]; exact h0⟩
  | x :: xs, pre, ρ, e, h0, h => by
    obtain ⟨ρ1, h1, h2⟩ := h pre xs ρ x h0 e
    obtain ⟨ρ2, h3, h4⟩ := forL_pre inv xs (pre ++ [x]) ρ1 (by rw [e]; simp) h2 h
    refine ⟨ρ2, ?_, h4⟩
    rw [List.map_cons]
    unfold forL
    rcases h1 with h1 | h1 <;> rw [h1] <;> exact h3
theorem forL_all {α : Type} {step : D → Bd} {mk : α → D} {xs : List α} (inv : List α → Rho → Prop) (ρ : Rho) (h0 : inv [] ρ)
    (h : ∀ (pre post : List α) (ρ : Rho) (x : α), inv pre ρ → xs = pre ++ x :: post → ∃ ρ', (step (mk x) ρ = some (.nx ρ') ∨ step (mk x) ρ = some (.ct ρ')) ∧ inv (pre ++ [x]) ρ') :
    ∃ ρ', forL step (xs.map mk) ρ = some (.nx ρ') ∧ inv xs ρ' := forL_pre inv xs [] ρ rfl h0 h
theorem range_split {c x : Nat} {pre post : List Nat} (h : List.range c = pre ++ x :: post) : x = pre.length ∧ x < c ∧ pre = List.range x := by
  have h1 : (List.range c)[pre.length]? = some x := by rw [h]; simp
  have h2 := (List.getElem?_eq_some_iff.mp h1).1
  rw [List.length_range] at h2
  rw [List.getElem?_range h2] at h1
  have e := Option.some.inj h1
  refine ⟨e.symm, by omega, ?_⟩
  have h3 := congrArg (List.take pre.length) h
  rw [List.take_left, List.take_range] at h3
  rw [← h3]
  congr 1
  omega
theorem split_mem {α : Type} {xs pre post : List α} {x : α} (h : xs = pre ++ x :: post) : x ∈ xs := by rw [h]; simp
theorem split_len {α : Type} {xs pre post : List α} {x : α} (h : xs = pre ++ x :: post) : pre.length < xs.length := by rw [h]; simp
@[simp] theorem augD_e {op : D → D → Option D} {i : Nat} {f : Rho → Option D} {ρ : Rho} : augD op i f ρ = (imD ρ[i]?).bind fun d => (f ρ).bind fun e => (op d e).bind fun z => some (.nx (ρ.set i (.im z))) := by
  unfold augD
  split
  · rename_i h; rw [h]; rfl
  · rename_i h
    cases e : ρ[i]? with
    | none => rfl
    | some s =>
      cases s with
      | im d => exact absurd e (h d)
      | _ => rfl
@[simp] theorem max2_i (i j : Int) : max2D [.int i, .int j] = some (.int (max i j)) := by
  have e : (if j > i then j else i) = max i j := by split <;> omega
  rw [max2D, e]
@[simp] theorem min2_i (i j : Int) : min2D [.int i, .int j] = some (.int (min i j)) := by
  have e : (if j < i then j else i) = min i j := by split <;> omega
  rw [min2D, e]
/-! sorted -/
section
variable {α : Type} [DecidableEq α] {n : Nat} {mk : α → D} {lt : α → α → Bool}
theorem srtOk_tup (h : Nice n mk) (hn : n ≤ 64) (o : Ordd mk lt) (ht : ∀ a, ∃ x xs, mk a = .tuple (x :: xs)) (xs : List α) : srtOk (xs.map mk) = true := by
  simp only [srtOk, Bool.and_eq_true, Bool.or_eq_true, List.all_eq_true, List.mem_map, forall_exists_index, and_imp, forall_apply_eq_imp_iff₂, decide_eq_true_eq]
  refine ⟨⟨fun a _ b _ => o.alike a b, .inl fun a _ => ?_⟩, fun a _ => Nat.le_trans (h.dep a) hn⟩
  obtain ⟨x, xs, e⟩ := ht a
  rw [e]
theorem srt_nice (o : Ordd mk lt) (xs : List α) : srt (xs.map mk) = (xs.mergeSort fun a b => !lt b a).map mk := by
  unfold srt
  rw [List.map_mergeSort]
  intro a _ b _
  show (!lt b a) = !PySem.W.dataLt (mk b) (mk a)
  rw [o.lt]
theorem sorted_tup (h : Nice n mk) (hn : n ≤ 64) (o : Ordd mk lt) (ht : ∀ a, ∃ x xs, mk a = .tuple (x :: xs)) (xs : List α) (d : D) (hd : d = .list (xs.map mk) ∨ d = .tuple (xs.map mk)) :
    sortedD [d] = some (.list ((xs.mergeSort fun a b => !lt b a).map mk)) := by
  have e : itemsD d = some (xs.map mk) := by rcases hd with rfl | rfl <;> rfl
  rw [sortedD, e, Option.bind_some, if_pos (srtOk_tup h hn o ht xs), srt_nice o]
end
@[simp] theorem bSet_e {j : Nat} {fi f : Rho → Option D} {ρ : Rho} : bSet j fi f ρ = (f ρ).bind fun d => (owL ρ[j]?).bind fun ds => (fi ρ).bind fun i => (intO i).bind fun o => match o with
  | some i => (ixN ds.length i).bind fun k => some (.nx (ρ.set j (.ow (.list (ds.set k d)))))
  | none => none := by
  unfold bSet
  congr 1
  funext d
  split
  · rename_i h
    rw [h]
    simp only [owL_ow, Option.bind_some]
    congr 1
    funext i
    cases i <;> rfl
  · rename_i h
    cases e : ρ[j]? with
    | none => rfl
    | some s =>
      cases s with
      | ow d =>
        cases d with
        | list ds => exact absurd e (h ds)
        | _ => rfl
      | _ => rfl
theorem ixN_n {n k : Nat} (h : k < n) : ixN n (k : Int) = some k := by
  unfold ixN
  rw [if_pos (by omega)]
  simp [h]
theorem ixN_i {n : Nat} {i : Int} (h0 : 0 ≤ i) (h : i < n) : ixN n i = some i.toNat := by
  have := ixN_n (n := n) (k := i.toNat) (by omega)
  rwa [Int.toNat_of_nonneg h0] at this
theorem rep_1 (d : D) (k : Nat) (h : k ≤ 100000) : repLD (.list [d]) (.int (k : Int)) = some (.list (List.replicate k d)) := by
  have hl := line_ge
  rw [repLD, if_pos (by simp only [List.length_singleton]; omega)]
  congr 2
  rw [Int.toNat_natCast]
  clear h
  induction k with
  | zero => rfl
  | succ k ih => rw [List.replicate_succ, List.flatten_cons, ih, List.replicate_succ]; rfl
theorem zipL_mk {α β : Type} {f : α → D} {g : β → D} (dx : α) (dy : β) : ∀ (xs : List α) (ys : List β), xs.length = ys.length → zipL (xs.map f) (ys.map g) = (List.range xs.length).map fun k => .tuple [f (xs.getD k dx), g (ys.getD k dy)]
  | [], [], _ => rfl
  | [], _ :: _, h => by simp at h
  | _ :: _, [], h => by simp at h
  | x :: xs, y :: ys, h => by
    rw [List.map_cons, List.map_cons, zipL, zipL_mk dx dy xs ys (by simpa using h), List.length_cons, List.range_succ_eq_map, List.map_cons, List.map_map]
    rfl
@[simp] theorem zip_ll {ds es : List D} : zipD [.list ds, .list es] = some (zipL ds es) := rfl
@[simp] theorem zip_tt {ds es : List D} : zipD [.tuple ds, .tuple es] = some (zipL ds es) := rfl
end Q
end

/-! part: Q19 -/
section
set_option Elab.async false
set_option linter.all false
set_option maxRecDepth 100000
set_option maxHeartbeats 4000000
set_option autoImplicit false
namespace Q
open PySem PySem.Spec PySem.Calls PyProof.Rows L2
/-! ### zip of two sequences, each a list or a tuple -/
/-- true: a list; false: a tuple -/
def SqB (K : PySem.W.Frag) (b : Bool) (H : Hp) (a : Addr) (xs : List V) : Prop := if b = true then SqL K H a xs else SqT K H a xs
def isS (b : Bool) (h : Heap) (a : Addr) (its : Array Value) : Prop := if b = true then h.IsList a its else h.IsTuple a its
def itS (b : Bool) (h : Heap) (it a : Addr) (i : Nat) : Prop := if b = true then h.IsListIter it a i else h.IsTupleIter it a i
def itO (b : Bool) (a : Addr) : Obj := if b = true then { cls := .type "list_iterator", data := .fields #[.ref a, .int 0 0] } else { cls := .type "tuple_iterator", data := .fields #[.ref a, .int 0 0] }
theorem itS_obj {b : Bool} {h : Heap} {it a : Addr} {i : Nat} (s : itS b h it a i) : ∃ o fs, h.get? it = some o ∧ o.data = .fields fs := by
  cases b with
  | true => obtain ⟨o, e, _, d⟩ := (show h.IsListIter it a i from s); exact ⟨o, _, e, d⟩
  | false => obtain ⟨o, e, _, d⟩ := (show h.IsTupleIter it a i from s); exact ⟨o, _, e, d⟩
theorem itS_at {b : Bool} {h h' : Heap} {it a : Addr} {i : Nat} (s : itS b h it a i) (k : ∀ o, h.get? it = some o → h'.get? it = some o) : itS b h' it a i := by
  cases b with
  | true => exact (show h.IsListIter it a i from s).at k
  | false => exact (show h.IsTupleIter it a i from s).at k
theorem itS_new {b : Bool} {h : Heap} {it a : Addr} (e : h.get? it = some (itO b a)) : itS b h it a 0 := by
  cases b with
  | true => exact ⟨_, e, rfl, rfl⟩
  | false => exact ⟨_, e, rfl, rfl⟩
theorem isS_lt {b : Bool} {h : Heap} {a : Addr} {its : Array Value} (s : isS b h a its) : a < h.objs.size := by
  cases b with
  | true => obtain ⟨o, e, _⟩ := (show h.IsList a its from s); exact Heap.lt_size e
  | false => obtain ⟨o, e, _⟩ := (show h.IsTuple a its from s); exact Heap.lt_size e
theorem isS_at {b : Bool} {h h' : Heap} {a : Addr} {its : Array Value} (s : isS b h a its) (k : ∀ o, h.get? a = some o → h'.get? a = some o) : isS b h' a its := by
  cases b with
  | true => exact (show h.IsList a its from s).at k
  | false => exact (show h.IsTuple a its from s).at k
theorem sqB_get {X : Cx} {pins : List (Addr × Obj)} {σ : L2.St} {H : Hp} {s : Shared} (I : Inv X pins σ H s) {b : Bool} {a : Addr} {xs : List V} (h : SqB X.K b H a xs) : ∃ its, Vals xs its ∧ isS b s.heap a its.toArray := by
  cases b with
  | true => obtain ⟨its, rv, p, _⟩ := I.list (show SqL X.K H a xs from h); exact ⟨its, rv, p.isList⟩
  | false => obtain ⟨its, rv, p, _⟩ := I.tuple (show SqT X.K H a xs from h); exact ⟨its, rv, show s.heap.IsTuple a its.toArray from p⟩
theorem sqB_inj {X : Cx} {pins : List (Addr × Obj)} {σ : L2.St} {H : Hp} {s : Shared} (I : Inv X pins σ H s) {b : Bool} {a : Addr} {xs ys : List V} (h : SqB X.K b H a xs) (h' : SqB X.K b H a ys) : xs = ys := by
  cases b with
  | true => exact I.list_inj (show SqL X.K H a xs from h) h'
  | false => exact I.tuple_inj (show SqT X.K H a xs from h) h'
section
variable {prog : Program} {w : World} {A : Around}
theorem draw_b (hh : A.handled = none) (b : Bool) (it a : Addr) (hne : a ≠ it) (its : Array Value) :
    Draws prog w A it [it, a] its.size (fun i v => its[i]? = some v) (fun i h => itS b h it a i ∧ isS b h a its) := by
  cases b with
  | true => exact Draws.list hh it a hne its
  | false => exact Draws.tuple hh it a hne its
/-- nothing more is drawn -/
theorem draw_end (hh : A.handled = none) (b : Bool) (it a : Addr) (its : Array Value) (n : Nat) (hn : its.size ≤ n) :
    Draws prog w A it [it, a] n (fun _ _ => False) (fun i h => i = n ∧ itS b h it a i ∧ isS b h a its) where
  live := fun i h st => let ⟨o, _, e, _⟩ := itS_obj st.2.1; ⟨o, e⟩
  frame := fun i h h' st k => ⟨st.1, itS_at st.2.1 fun o e => k it (by simp) o e, isS_at st.2.2 fun o e => k a (by simp) o e⟩
  item := fun i s Q E hi st _ => absurd st.1 (Nat.ne_of_lt hi)
  done := fun s Q E st hE => by
    have hx : its[n]? = none := Array.getElem?_eq_none hn
    cases b with
    | true => exact wpAny_nextOf_list_end hh st.2.1 st.2.2 hx hE
    | false => exact wpAny_nextOf_tuple_end hh st.2.1 st.2.2 hx hE
theorem begin_b (b : Bool) (a : Addr) (its : Array Value) : Begins (.ref a) (itO b a) (fun h => isS b h a its) := by
  cases b with
  | true => exact begins_list a its
  | false => exact begins_tuple a its
end
/-- what the two hold as they stand at each turn, in new pairs -/
def ItzM (K : PySem.W.Frag) (b c : Bool) (l m : Addr) : It where
  go := fun i H => ∃ (xs ys : List V) (x y : V), SqB K b H l xs ∧ SqB K c H m ys ∧ xs[i]? = some x ∧ ys[i]? = some y
  yld := fun i H v H' => ∃ T x y, v = .ref T ∧ H T = none ∧ H' = upd H T (.tup [x, y]) ∧ (∀ xs, SqB K b H l xs → xs[i]? = some x) ∧ ∀ ys, SqB K c H m ys → ys[i]? = some y
  stop := fun i H => ∃ xs ys : List V, SqB K b H l xs ∧ SqB K c H m ys ∧ (xs.length ≤ i ∨ ys.length ≤ i)
theorem turn_zipM {P : Program} {w : World} {K : PySem.W.Frag} {elts : List Expr} {kk : Nat} {tpos : Pos} {b c : Bool} {l m z TI TO i1 i2 : Addr} (Z : ZipSep2 z TI TO i1 i2 [i1, l] [i2, m]) (hl : l ≠ i1) (hm : m ≠ i2) :
    Turn P w K (.Tuple elts kk tpos) (ItzM K b c l m) [z, TI, TO, i1, i2] z (fun i h => IsZip h z TI TO .none ∧ IsTupOf2 h TI (.ref i1) (.ref i2) ∧ (∃ x y, IsTupOf2 h TO x y) ∧ itS b h i1 l i ∧ itS c h i2 m i) := by
  have z1 := Z.zi1
  have z2 := Z.zi2
  have t1 := Z.Ti1
  have t2 := Z.Ti2
  have l1 : l ≠ z := fun e => Z.zf1 (by simp [e])
  have m2 : m ≠ z := fun e => Z.zf2 (by simp [e])
  have five : ∀ q : Addr, q ∈ [z, TI, TO, i1, i2] → q = z ∨ q = TI ∨ q = TO ∨ q = i1 ∨ q = i2 := fun q hq => by simpa using hq
  refine ⟨by simp, fun i h st q hq => ?_, fun i h h' st k => ?_, ?_, ?_, fun A i s Q E st h => wpAny_pyIter_zip st.1 h⟩
  · obtain ⟨s1, s2, ⟨x, y, s3⟩, s4, s5⟩ := st
    obtain ⟨o4, f4, e4, d4⟩ := itS_obj s4
    obtain ⟨o5, f5, e5, d5⟩ := itS_obj s5
    rcases five q hq with r | r | r | r | r <;> subst r
    · exact ⟨_, s1, fun v e => nomatch e⟩
    · exact ⟨_, s2, fun v e => nomatch e⟩
    · exact ⟨_, s3, fun v e => nomatch e⟩
    · exact ⟨o4, e4, fun v e => nomatch d4.symm.trans e⟩
    · exact ⟨o5, e5, fun v e => nomatch d5.symm.trans e⟩
  · obtain ⟨s1, s2, ⟨x, y, s3⟩, s4, s5⟩ := st
    exact ⟨k z (by simp) _ s1, k TI (by simp) _ s2, ⟨x, y, k TO (by simp) _ s3⟩, itS_at s4 (k i1 (by simp)), itS_at s5 (k i2 (by simp))⟩
  · rintro X rfl rfl rfl calm i pins s σ H E I own st ⟨xs, ys, x, y, qx, qy, hx, hy⟩
    obtain ⟨s1, s2, ⟨x0, y0, s3⟩, s4, s5⟩ := st
    obtain ⟨us, ru, hu⟩ := sqB_get I qx
    obtain ⟨vs, rv, hv⟩ := sqB_get I qy
    obtain ⟨u, u1, u2⟩ := ru.get hx
    obtain ⟨v, v1, v2⟩ := rv.get hy
    have hd : X.A.in1.handled = none := I.ok.hd calm
    have lu : us.toArray.size = xs.length := by rw [ru.length]; simp
    have lv : vs.toArray.size = ys.length := by rw [rv.length]; simp
    have old : ∀ q, q ∈ [z, TI, TO, i1, i2] → q < s.heap.objs.size := fun q hq => by
      obtain ⟨o4, _, e4, _⟩ := itS_obj s4
      obtain ⟨o5, _, e5, _⟩ := itS_obj s5
      rcases five q hq with r | r | r | r | r <;> subst r
      · exact Heap.lt_size s1
      · exact Heap.lt_size s2
      · exact Heap.lt_size s3
      · exact Heap.lt_size e4
      · exact Heap.lt_size e5
    refine wpAny_pyNext_zipD2_item Z (draw_b hd b i1 l hl us.toArray) (draw_b hd c i2 m hm vs.toArray) s1 s2 s3 ⟨s4, hu⟩ ⟨s5, hv⟩ (by have := (List.getElem?_eq_some_iff.mp hx).1; omega) (by have := (List.getElem?_eq_some_iff.mp hy).1; omega) fun a1 a2 h' tk p1 p2 f1 f3 f4 f5 fT fsz fk => ?_
    have ea1 : a1 = u := by simpa [u1] using p1.symm
    have ea2 : a2 = v := by simpa [v1] using p2.symm
    subst ea1 ea2
    refine ⟨_, rfl, wpAny_letOwnedTupleGo_zip (s := { s with heap := h', toks := tk }) f1 fun h'' g1 sb => ?_⟩
    have pass : ∀ q o, q ≠ z → h'.get? q = some o → h''.get? q = some o := fun q o hq e => (sb.2 q hq).trans e
    have zlt := old z (by simp)
    have new : ObjOk X.prog X.w (upd H s.heap.objs.size (.tup [x, y])) h'' s.heap.objs.size (.tup [x, y]) :=
      ⟨by show 2 ≤ sizeLine; decide, [a1, a2], .cons u2 (.cons v2 .nil), ⟨_, pass _ _ (Nat.ne_of_gt zlt) fT, rfl, _, rfl⟩⟩
    have I1 : Inv X pins σ (upd H s.heap.objs.size (.tup [x, y])) { s with heap := h'', toks := tk } :=
      I.turnedNew (t' := tk) (ch := [z, TI, TO, i1, i2]) (fun q o hq e => by
        simp only [List.mem_cons, List.not_mem_nil, or_false, not_or] at hq
        exact pass q o hq.1 (fk q o hq.1 hq.2.2.1 hq.2.2.2.1 hq.2.2.2.2 e)) own (Nat.le_refl _) new
    refine ⟨.ref s.heap.objs.size, _, I1, rfl, ⟨_, x, y, rfl, I.hok.fresh (Nat.le_refl _), rfl, fun q hq => by rw [sqB_inj I hq qx]; exact hx, fun q hq => by rw [sqB_inj I hq qy]; exact hy⟩, ⟨g1, pass _ _ Z.TIz (fk _ _ Z.TIz Z.TITO Z.TIi1 Z.TIi2 s2), ⟨_, _, pass _ _ Z.TOz f3⟩, itS_at f4.1 fun o => pass _ o z1.symm, itS_at f5.1 fun o => pass _ o z2.symm⟩, fun q hq => ?_⟩
    rw [upd_ne (Nat.ne_of_lt (old q hq))]
    exact (own q hq).1
  · rintro X rfl rfl rfl calm i pins s σ H E I own st ⟨xs, ys, qx, qy, hend⟩
    obtain ⟨s1, s2, ⟨x0, y0, s3⟩, s4, s5⟩ := st
    obtain ⟨us, ru, hu⟩ := sqB_get I qx
    obtain ⟨vs, rv, hv⟩ := sqB_get I qy
    have hd : X.A.in1.handled = none := I.ok.hd calm
    have lu : us.toArray.size = xs.length := by rw [ru.length]; simp
    have lv : vs.toArray.size = ys.length := by rw [rv.length]; simp
    have fin : ∀ (h' : Heap) (tk : Nat), (∀ q o, q ≠ z → q ≠ TO → q ≠ i1 → q ≠ i2 → s.heap.get? q = some o → h'.get? q = some o) → (none : Option Value) = none ∧ Inv X pins σ H { s with heap := h', toks := tk } := fun h' tk fk =>
      ⟨rfl, I.turnedL (t' := tk) (ch := [z, TI, TO, i1, i2]) (fun q o hq e => by
        simp only [List.mem_cons, List.not_mem_nil, or_false, not_or] at hq
        exact fk q o hq.1 hq.2.2.1 hq.2.2.2.1 hq.2.2.2.2 e) own⟩
    by_cases c1 : xs.length ≤ i <;> by_cases c2 : ys.length ≤ i
    · exact wpAny_pyNext_zipD2_end Z (draw_end hd b i1 l us.toArray i (by omega)) (draw_end hd c i2 m vs.toArray i (by omega)) s1 s2 s3 ⟨rfl, s4, hu⟩ ⟨rfl, s5, hv⟩ (Nat.le_refl _) (Nat.le_refl _) (.inl rfl) fin
    · exact wpAny_pyNext_zipD2_end Z (draw_end hd b i1 l us.toArray i (by omega)) (draw_b hd c i2 m hm vs.toArray) s1 s2 s3 ⟨rfl, s4, hu⟩ ⟨s5, hv⟩ (Nat.le_refl _) (by omega) (.inl rfl) fin
    · exact wpAny_pyNext_zipD2_end Z (draw_b hd b i1 l hl us.toArray) (draw_end hd c i2 m vs.toArray i (by omega)) s1 s2 s3 ⟨s4, hu⟩ ⟨rfl, s5, hv⟩ (by omega) (Nat.le_refl _) (.inr rfl) fin
    · rcases hend with e | e
      · exact absurd e c1
      · exact absurd e c2
def iZipM (K : PySem.W.Frag) (ta : TA) : TI := fun σ H R => ta σ H fun vs H1 => ∃ b c l m xs ys, vs = [.ref l, .ref m] ∧ SqB K b H1 l xs ∧ SqB K c H1 m ys ∧ R (ItzM K b c l m) H1
theorem pi_zipM {X : Cx} {e e2 : Expr} {ta : TA} {p pos tpos : Pos} {elts : List Expr} {kk : Nat} (hg : Gl X "zip") (hm : X.mg "zip" = none) (ha : PA X [e, e2] ta)
    (hs : starEach [e, e2] X.env = (false, eval e X.env) :: starEach [e2] X.env := by rfl) (hpl : (backTo pos (starEach [e2] X.env)).any (·.1) = false := by rfl) :
    PI X (.Tuple elts kk tpos) (.Call (.Name "zip" p) [e, e2] [] pos) (iZipM X.K ta) := by
  constructor
  intro pins s σ H R I h
  refine Call_ (ld_blt I hg hm PyProof.Rows.boot_zip (PyProof.Rows.callWith_type1 (thn (ha.run pos pins s σ H _ I h) fun us s1 ⟨vs, H1, I1, r1, ⟨b, c, l, m, xs, ys, ex, qx, qy, q⟩⟩ => ?_) hs hpl))
  subst ex
  obtain ⟨u, us', rfl, ru, r2⟩ : ∃ u us', us = u :: us' ∧ RelV (V.ref l) u ∧ Vals [V.ref m] us' := by cases r1 with | cons r rr => exact ⟨_, _, rfl, r, rr⟩
  obtain ⟨v, rfl, rv⟩ := vals_one r2
  cases ru
  cases rv
  obtain ⟨is, w1, hu⟩ := sqB_get I1 qx
  obtain ⟨js, w2, hv⟩ := sqB_get I1 qy
  have ll := isS_lt hu
  have lm := isS_lt hv
  refine zip_begins2 (begin_b b l is.toArray) (begin_b c m js.toArray) hu hv fun h' hz hTI hTO g1 g2 hsz hk => wpAny_pyIter_zip hz ?_
  refine ⟨_, [s1.heap.objs.size + 4, s1.heap.objs.size + 2, s1.heap.objs.size + 3, s1.heap.objs.size, s1.heap.objs.size + 1], _, _, H1, rfl, I1.kept (t' := s1.toks) hk, turn_zipM (zip_sep2 (fun q hq => ?_) (fun q hq => ?_)) (Nat.ne_of_lt ll) (Nat.ne_of_lt (Nat.lt_succ_of_lt lm)), ⟨hz, hTI, ⟨_, _, hTO⟩, itS_new g1, itS_new g2⟩, fun q hq => ?_, q⟩
  · rw [List.mem_singleton.mp hq]; exact ll
  · rw [List.mem_singleton.mp hq]; exact lm
  · have up : s1.heap.objs.size ≤ q := by
      simp only [List.mem_cons, List.not_mem_nil, or_false] at hq
      rcases hq with r | r | r | r | r <;> rw [r]
      · exact Nat.le_add_right _ _
      · exact Nat.le_add_right _ _
      · exact Nat.le_add_right _ _
      · exact Nat.le_refl _
      · exact Nat.le_add_right _ _
    exact I1.fpOk up (I1.hok.fresh up)
theorem itzM_ok {K : PySem.W.Frag} {F : Hp} {b c : Bool} {l m : Addr} {xs ys : List V} {ds es : List D} {st : Hp → Prop} (hs : ∀ H, Same F H → st H → SqB K b H l xs) (hs2 : ∀ H, Same F H → st H → SqB K c H m ys) (r : RepA K F xs ds) (r2 : RepA K F ys es) : ItO true K (ItzM K b c l m) F st (zipL ds es) := by
  refine ⟨fun i F' H' hi e1 e2 e3 => ?_, fun i d F' H' v H3 hd e1 e2 e3 yy => ?_, fun i F' H' hi e1 e2 e3 => ?_⟩
  · obtain ⟨d, e, h1, h2, _⟩ := zipL_at (List.getElem?_eq_getElem hi)
    obtain ⟨x, h3, _⟩ := r.get h1
    obtain ⟨y, h4, _⟩ := r2.get h2
    exact ⟨xs, ys, x, y, hs H' (e1.trans e2) e3, hs2 H' (e1.trans e2) e3, h3, h4⟩
  · obtain ⟨T, x, y, rfl, hT, rfl, y1, y2⟩ := yy
    obtain ⟨dx, dy, h1, h2, rfl⟩ := zipL_at hd
    obtain ⟨x', h3, h5⟩ := r.get h1
    obtain ⟨y', h4, h6⟩ := r2.get h2
    have q1 := y1 xs (hs H' (e1.trans e2) e3)
    have q2 := y2 ys (hs2 H' (e1.trans e2) e3)
    cases h3.symm.trans q1
    cases h4.symm.trans q2
    exact pair_ok e2 hT (h5.mono e1) (h6.mono e1)
  · rw [zipL_length] at hi
    exact ⟨xs, ys, hs H' (e1.trans e2) e3, hs2 H' (e1.trans e2) e3, by rw [r.length, r2.length]; omega⟩
/-- zip(d, e) of a list or a tuple each -/
def zipMD : List D → Option (List D)
  | [d, e] => (itemsD d).bind fun ds => (itemsD e).bind fun es => some (zipL ds es)
  | _ => none
theorem rep_sqB {K : PySem.W.Frag} {F H : Hp} {v : V} {d : D} {ds : List D} (r : Rep K F v d) (hd : itemsD d = some ds) (fh : Same F H) : ∃ b a xs, v = .ref a ∧ (∀ H', Same F H' → SqB K b H' a xs) ∧ RepA K F xs ds := by
  cases d with
  | list es =>
    cases hd
    cases r with
    | lst hs hr => exact ⟨true, _, _, rfl, fun H' s => s.seq hs, hr⟩
  | tuple es =>
    cases hd
    cases r with
    | tup hs hr => exact ⟨false, _, _, rfl, fun H' s => (hs.mono s).sq, hr⟩
  | _ => cases hd
theorem sem_zipM {K : PySem.W.Frag} {ta : TA} {fs : Rho → Option (List D)} (h : SemA K .fz ta fs) : SemI true K .fz (iZipM K ta) (fIs zipMD fs) := by
  intro B F H σ ρ ds R rel hf q
  obtain ⟨as, h1, h2⟩ := bind_some hf
  refine h B F H σ ρ as _ rel h1 fun vs F1 H1 x1 r1 => ?_
  match as, h2, r1 with
  | [d, e], h2, r1 =>
    obtain ⟨v, w, rfl, rv, rw'⟩ := resA2 r1
    obtain ⟨ds1, k1, h3⟩ := bind_some (show (itemsD d).bind (fun ds => (itemsD e).bind fun es => some (zipL ds es)) = some ds from h2)
    obtain ⟨es1, k2, h4⟩ := bind_some h3
    cases h4
    obtain ⟨b, l, xs, rfl, a1, a2⟩ := rep_sqB rv k1 x1.s
    obtain ⟨c, m, ys, rfl, c1, c2⟩ := rep_sqB rw' k2 x1.s
    exact ⟨b, c, l, m, xs, ys, rfl, a1 _ x1.s, c1 _ x1.s, q _ F1 H1 x1 (itzM_ok (fun H s _ => a1 H s) (fun H s _ => c1 H s) a2 c2)⟩
theorem di_zipMK (K' : PySem.W.Frag) {X : Cx} {ta : TA} {fs : Rho → Option (List D)} {p pos : Pos} {a b : Expr} {elts : List Expr} {kk : Nat} {tpos : Pos} (hg : Gl X "zip") (hm : X.mg "zip" = none) (ha : DA X .fz [a, b] ta fs) (hs : starEach [a, b] X.env = (false, eval a X.env) :: starEach [b] X.env := by rfl) (hpl : (backTo pos (starEach [b] X.env)).any (·.1) = false := by rfl) (hK : X.K = K' := by rfl) :
    DI true X .fz (.Tuple elts kk tpos) (.Call (.Name "zip" p) [a, b] [] pos) (iZipM K' ta) (fIs zipMD fs) := by
  subst hK
  exact ⟨pi_zipM hg hm ha.p hs hpl, sem_zipM ha.s⟩
@[simp] theorem zipMD_e {d e : D} : zipMD [d, e] = (itemsD d).bind fun ds => (itemsD e).bind fun es => some (zipL ds es) := rfl
end Q
end

/-! part: Q20 -/
section
set_option Elab.async false
set_option linter.all false
set_option maxRecDepth 100000
set_option maxHeartbeats 4000000
set_option autoImplicit false
namespace Q
open PySem PySem.Spec PySem.Calls PyProof.Rows L2
theorem tame_mk {α : Type} {mk : α → D} {n : Nat} (h : ∀ a, tame n (mk a) = true) (xs : List α) (hl : xs.length ≤ 1000) : tame (n + 1) (.tuple (xs.map mk)) = true := by
  simp [tame, hl, h]
theorem tame_two {a b : D} {n : Nat} (h1 : tame n a = true) (h2 : tame n b = true) : tame (n + 1) (.tuple [a, b]) = true := by
  simp [tame, h1, h2]
theorem tame_int (n : Nat) (i : Int) : tame (n + 1) (.int i) = true := rfl
theorem tame_ints (n : Nat) (xs : List Int) (hl : xs.length ≤ 1000) : tame (n + 2) (.tuple (xs.map .int)) = true := tame_mk (fun i => tame_int n i) xs hl
theorem lstd_mk {α : Type} {mk mk' : α → D} {n : Nat} (h : ∀ a, lstd n (mk a) = mk' a) (xs : List α) : lstd (n + 1) (.tuple (xs.map mk)) = .list (xs.map mk') := by
  rw [lstd, List.map_map]
  congr 2
  funext a
  exact h a
theorem lstd_ints (n : Nat) (xs : List Int) : lstd (n + 2) (.tuple (xs.map .int)) = .list (xs.map .int) := lstd_mk (fun _ => rfl) xs
/-- a whole number from 0 on -/
theorem nat_of {i : Int} (h : 0 ≤ i) : ∃ k : Nat, i = k := ⟨i.toNat, by omega⟩
theorem mod_nat (i : Int) {m : Int} (h : 0 < m) : ∃ k : Nat, i % m = k ∧ (k : Int) < m := by
  have h1 := Int.emod_nonneg i (Int.ne_of_gt h)
  have h2 := Int.emod_lt_of_pos i h
  exact ⟨(i % m).toNat, by omega, by omega⟩
/-- a loop that may go on, break or return: what is done so far -/
theorem forL_gen {α : Type} {step : D → Bd} {mk : α → D} {all : List α} (inv : List α → Rho → Prop) (fin : Rho → Prop) (R : D → Prop) : ∀ (xs pre : List α) (ρ : Rho), all = pre ++ xs → inv pre ρ →
    (∀ (pre post : List α) (ρ : Rho) (x : α), inv pre ρ → all = pre ++ x :: post → (∃ ρ', (step (mk x) ρ = some (.nx ρ') ∨ step (mk x) ρ = some (.ct ρ')) ∧ inv (pre ++ [x]) ρ') ∨ (∃ ρ', step (mk x) ρ = some (.bk ρ') ∧ fin ρ') ∨ ∃ d, step (mk x) ρ = some (.rt d) ∧ R d) →
    (∃ ρ', forL step (xs.map mk) ρ = some (.nx ρ') ∧ (inv all ρ' ∨ fin ρ')) ∨ ∃ d, forL step (xs.map mk) ρ = some (.rt d) ∧ R d
  | [], pre, ρ, e, h0, h => .inl ⟨ρ, rfl, .inl (by rw [e, List.append_nil]; exact h0)⟩
  | x :: xs, pre, ρ, e, h0, h => by
    rcases h pre xs ρ x h0 e with ⟨ρ1, h1, h2⟩ | ⟨ρ1, h1, h2⟩ | ⟨d, h1, h2⟩
    · have q := forL_gen inv fin R xs (pre ++ [x]) ρ1 (by rw [e]; simp) h2 h
      rw [List.map_cons]
      unfold forL
      rcases h1 with h1 | h1 <;> rw [h1] <;> exact q
    · refine .inl ⟨ρ1, ?_, .inr h2⟩
      rw [List.map_cons]
      unfold forL
      rw [h1]
      rfl
    · refine .inr ⟨d, ?_, h2⟩
      rw [List.map_cons]
      unfold forL
      rw [h1]
      rfl
theorem forL_any {α : Type} {step : D → Bd} {mk : α → D} {xs : List α} (inv : List α → Rho → Prop) (fin : Rho → Prop) (R : D → Prop) (ρ : Rho) (h0 : inv [] ρ)
    (h : ∀ (pre post : List α) (ρ : Rho) (x : α), inv pre ρ → xs = pre ++ x :: post → (∃ ρ', (step (mk x) ρ = some (.nx ρ') ∨ step (mk x) ρ = some (.ct ρ')) ∧ inv (pre ++ [x]) ρ') ∨ (∃ ρ', step (mk x) ρ = some (.bk ρ') ∧ fin ρ') ∨ ∃ d, step (mk x) ρ = some (.rt d) ∧ R d) :
    (∃ ρ', forL step (xs.map mk) ρ = some (.nx ρ') ∧ (inv xs ρ' ∨ fin ρ')) ∨ ∃ d, forL step (xs.map mk) ρ = some (.rt d) ∧ R d := forL_gen inv fin R xs [] ρ rfl h0 h
/-! Euclid -/
theorem euclid_step {a b k P : Nat} (hb : 0 < b) (h : a * b * 2 ^ k ≤ 2 * P) (hab : b ≤ a ∨ k = 0 ∧ a * b ≤ P) : b * (a % b) * 2 ^ (k + 1) ≤ 2 * P ∧ a % b ≤ b ∧ Nat.gcd b (a % b) = Nat.gcd a b := by
  have hr : a % b < b := Nat.mod_lt _ hb
  refine ⟨?_, Nat.le_of_lt hr, by rw [Nat.gcd_comm b, ← Nat.gcd_rec, Nat.gcd_comm]⟩
  rcases hab with hab | ⟨rfl, hab⟩
  · have h1 : a % b * 2 ≤ a := by
      have h2 := Nat.div_add_mod a b
      have h3 : 1 ≤ a / b := (Nat.le_div_iff_mul_le hb).mpr (by omega)
      have h4 : b * 1 ≤ b * (a / b) := Nat.mul_le_mul_left b h3
      omega
    calc b * (a % b) * 2 ^ (k + 1) = b * (a % b * 2) * 2 ^ k := by rw [Nat.pow_succ, Nat.mul_assoc, Nat.mul_assoc, Nat.mul_assoc]; congr 2; rw [Nat.mul_comm (2 ^ k)]
      _ ≤ b * a * 2 ^ k := Nat.mul_le_mul_right _ (Nat.mul_le_mul_left _ h1)
      _ ≤ 2 * P := by rw [Nat.mul_comm b a]; exact h
  · by_cases c : b ≤ a
    · have h1 : a % b * 2 ≤ a := by
        have h2 := Nat.div_add_mod a b
        have h3 : 1 ≤ a / b := (Nat.le_div_iff_mul_le hb).mpr (by omega)
        have h4 : b * 1 ≤ b * (a / b) := Nat.mul_le_mul_left b h3
        omega
      have h2 : b * (a % b * 2) ≤ b * a := Nat.mul_le_mul_left _ h1
      rw [Nat.mul_comm b a, ← Nat.mul_assoc] at h2
      simp only [Nat.zero_add, Nat.pow_one]
      omega
    · rw [Nat.mod_eq_of_lt (by omega), Nat.mul_comm b a]
      simp only [Nat.zero_add, Nat.pow_one]
      omega
def isT : Option D → Bool
  | some (.bool true) => true
  | _ => false
theorem isT_eq {x : Option D} (h : isT x = true) : x = some (.bool true) := by
  unfold isT at h
  split at h
  · rfl
  · cases h
/-! one sign in a text -/
def rSgn (k : Bool → Bool) : R2 := fun x y H Q => ∃ (c : Nat) (z : Str), x = .str ⟨#[c]⟩ ∧ y = .str z ∧ Q (.bl (k (decide (c ∈ z.cps.toList)))) H
def sgnD (k : Bool → Bool) : D → D → Option D
  | .str x, .str z => (match x.cps.toList with
    | [c] => some (.bool (k (decide (c ∈ z.cps.toList))))
    | _ => none)
  | _, _ => none
theorem op_sgn {X : Cx} : OpR X (compareOp .In) (rSgn id) := op_in_sign
theorem op_notSgn {X : Cx} : OpR X (compareOp .NotIn) (rSgn not) := op_notIn_sign
theorem ops_sgn {K : PySem.W.Frag} {k : Bool → Bool} : OpS K .fz (rSgn k) (sgnD k) := by
  intro F H Ha Hb x y d e z Q fh r1 r2 hz q
  match d, e, hz, r1, r2 with
  | .str u, .str w, hz, r1, r2 =>
    have hz' : (match u.cps.toList with
      | [c] => some (PyData.bool (k (decide (c ∈ w.cps.toList))))
      | _ => none) = some z := hz
    split at hz'
    · rename_i c hc
      cases hz'
      have e : u = ⟨#[c]⟩ := by
        obtain ⟨a⟩ := u
        have : a = #[c] := Array.toList_inj.mp hc
        rw [this]
      subst e
      exact ⟨c, w, r1.str, r2.str, q _ F H (.refl fh) (Rep.bl _)⟩
    · cases hz'
end Q
end

/-! part: Q21 -/
section
set_option Elab.async false
set_option linter.all false
set_option maxRecDepth 100000
set_option maxHeartbeats 4000000
set_option autoImplicit false
namespace Q
open PySem PySem.Spec PySem.Calls PyProof.Rows L2
@[simp] theorem fBP_e {m : Md} {Φ : List D → Option D} {fs : Rho → Option (List D)} {ρ : Rho} : fBP m Φ fs ρ = (fs ρ).bind fun ds => (Φ ds).bind fun r => if okR m r = true then some r else none := rfl
theorem nmA_mk {α : Type} {mk : α → D} (h : ∀ a, nm (mk a) = true) : ∀ xs : List α, nmA (xs.map mk) = true
  | [] => by simp [nmA]
  | x :: xs => by rw [List.map_cons, nmA, h x, nmA_mk h xs]; rfl
theorem okR_fr {α : Type} {mk : α → D} (h : ∀ a, nm (mk a) = true) (xs : List α) : okR .fr (.list (xs.map mk)) = true := nmA_mk h xs
theorem filter_nil {α : Type} (p : α → Bool) (xs : List α) : decide (xs.filter (fun x => !p x) = []) = xs.all p := by
  rw [Bool.eq_iff_iff]
  simp
/-! math.lcm, math.isqrt -/
def rLcm : List V → Hp → VK → Prop := fun vs H Q => ∃ a b : Int, vs = [.int a, .int b] ∧ (a.natAbs < 2 ^ 64 ∧ b.natAbs < 2 ^ 64) ∧ Q (.int ((Nat.lcm a.natAbs b.natAbs : Nat) : Int)) H
theorem cr_lcm {X : Cx} : CallR X (.builtin "math.lcm") rLcm := by
  intro pins s σ H vs us Q I r h
  obtain ⟨a, b, rfl, ⟨ha, hb⟩, q⟩ := h
  obtain ⟨t, u, rfl⟩ := Vals.int2 r
  exact PySem.W.mc_lcm ha hb fun _ => ⟨.int _, H, I.tok _, ⟨_, rfl⟩, q⟩
def lcmD : List D → Option D
  | [.int a, .int b] => if a.natAbs < 2 ^ 64 ∧ b.natAbs < 2 ^ 64 then some (.int ((Nat.lcm a.natAbs b.natAbs : Nat) : Int)) else none
  | _ => none
theorem cs_lcm {K : PySem.W.Frag} : CallS K .fz rLcm lcmD := by
  intro F H Ha vs ds z Q fh r hz q
  match ds, r, hz with
  | [.int a, .int b], r, hz =>
    obtain ⟨h1, h2⟩ := if_some (show (if a.natAbs < 2 ^ 64 ∧ b.natAbs < 2 ^ 64 then some (PyData.int ((Nat.lcm a.natAbs b.natAbs : Nat) : Int)) else none) = some z from hz)
    subst h2
    obtain ⟨v, w, rfl, r1, r2⟩ := resA2 r
    rw [r1.int, r2.int]
    exact ⟨a, b, rfl, h1, q _ F H (.refl fh) (Rep.int _)⟩
/-! list(range(i, j)) -/
def lr2D : D → D → Option D
  | .int i, .int j => if (-100000 ≤ i ∧ i ≤ 100000) ∧ -100000 ≤ j ∧ j ≤ 100000 then some (.list (rgD i (j - i).toNat)) else none
  | _, _ => none
theorem de_lr2 {X : Cx} {m1 m2 : Md} {a b : Expr} {ta tb : TE} {f g : Rho → Option D} {p p2 q pos : Pos} (hg : Gl X "list") (hm : X.mg "list" = none) (hg2 : Gl X "range") (hm2 : X.mg "range" = none) (ha : DE X m1 a ta f) (hb : DE X m2 b tb g) (hc : X.calm = true := by rfl)
    (na : starEach [.Call (.Name "range" p2) [a, b] [] q] X.env = (false, eval (.Call (.Name "range" p2) [a, b] [] q) X.env) :: starEach [] X.env := by rfl)
    (na2 : starEach [a, b] X.env = (false, eval a X.env) :: starEach [b] X.env := by rfl) (nb : starEach [b] X.env = (false, eval b X.env) :: starEach [] X.env := by rfl) (hp : (backTo q (starEach [b] X.env)).any (·.1) = false := by rfl) :
    DE X .fr (.Call (.Name "list" p) [.Call (.Name "range" p2) [a, b] [] q] [] pos) (tLstRg (tRg2 ta tb)) (f2 lr2D f g) := ⟨pe_listRg hc hg hm (prg_2 hg2 hm2 ha.p hb.p na2 nb hp) na, fun B F H σ ρ z Q r hf q => by
  obtain ⟨d, h1, h2⟩ := bind_some hf
  obtain ⟨e, h3, h4⟩ := bind_some h2
  refine ha.s B F H σ ρ d _ r h1 fun v F1 H1 x1 r1 => ?_
  refine hb.s B F1 H1 σ ρ e _ (r.ext x1) h3 fun w F2 H2 x2 r2 => ?_
  match d, e, h4, r1, r2 with
  | .int i, .int j, h4, r1, r2 =>
    obtain ⟨hn, rfl⟩ := if_some (show (if (-100000 ≤ i ∧ i ≤ 100000) ∧ -100000 ≤ j ∧ j ≤ 100000 then some (PyData.list (rgD i (j - i).toNat)) else none) = some z from h4)
    refine ⟨i, j, r1.int, r2.int, ⟨by omega, by omega, by omega, by omega, by omega⟩, ?_⟩
    exact newL_res (x1.trans x2) (repA_rg i j) q⟩
end Q
end

/-! part: Q22 -/
section
set_option Elab.async false
set_option linter.all false
set_option maxRecDepth 100000
set_option maxHeartbeats 4000000
set_option autoImplicit false
namespace Q
open PySem PySem.Spec PySem.Calls PyProof.Rows L2
/-! ### comprehensions of two fors -/
/-- a target makes nothing owned -/
def OwOk (W : List Nat) (s : D → Rho → Option Rho) : Prop := ∀ (d : D) (ρ ρ' : Rho) (j : Nat) (e : D), s d ρ = some ρ' → ρ'[j]? = some (.ow e) → j ∉ W ∧ ρ[j]? = some (.ow e)
def OwOks (W : List Nat) (s : List D → Rho → Option Rho) : Prop := ∀ (ds : List D) (ρ ρ' : Rho) (j : Nat) (e : D), s ds ρ = some ρ' → ρ'[j]? = some (.ow e) → j ∉ W ∧ ρ[j]? = some (.ow e)
theorem ow_n (i : Nat) : OwOk [i] (sN i) := fun d ρ ρ' j e h h2 => by
  have h' : ρ.set i (.im d) = ρ' := Option.some.inj h
  subst h'
  by_cases c : j = i
  · subst c
    rw [List.getElem?_set] at h2
    split at h2
    · split at h2
      · cases h2
      · cases h2
    · rename_i x; exact absurd rfl x
  · rw [List.getElem?_set_ne (Ne.symm c)] at h2
    exact ⟨by simpa using c, h2⟩
theorem ow_nil : OwOks [] sNil := fun ds ρ ρ' j e h h2 => by
  cases ds with
  | nil => cases h; exact ⟨by simp, h2⟩
  | cons d ds => cases h
theorem ow_cons {W W' : List Nat} {s : D → Rho → Option Rho} {ss : List D → Rho → Option Rho} (h : OwOk W s) (hs : OwOks W' ss) : OwOks (W ++ W') (sCons s ss) := fun ds ρ ρ' j e h1 h2 => by
  cases ds with
  | nil => cases h1
  | cons d ds =>
    obtain ⟨ρ2, a, b⟩ := bind_some (show (s d ρ).bind (ss ds) = some ρ' from h1)
    obtain ⟨c1, c2⟩ := hs ds ρ2 ρ' j e b h2
    obtain ⟨c3, c4⟩ := h d ρ ρ2 j e a c2
    exact ⟨by simp [c1, c3], c4⟩
theorem ow_t {W : List Nat} {n : Nat} {ss : List D → Rho → Option Rho} (hs : OwOks W ss) : OwOk W (sT n ss) := fun d ρ ρ' j e h1 h2 => by
  cases d with
  | tuple ds =>
    rw [sT_e] at h1
    split at h1
    · exact hs ds ρ ρ' j e h1 h2
    · cases h1
  | _ => cases h1
def lcM (row : D → Option (List D)) : List D → Option (List D)
  | [] => some []
  | d :: ds => (row d).bind fun rs => (lcM row ds).map (rs ++ ·)
def rowL (ρ : Rho) (vs vs1 : List Nat) (s : D → Rho → Option Rho) (ft : Rho → Option Bool) (f1 : Rho → Option (List D)) (s1 : D → Rho → Option Rho) (ft1 : Rho → Option Bool) (fe : Rho → Option D) (d : D) : Option (List D) :=
  (s d (wipeR ρ vs)).bind fun ρ2 => (ft ρ2).bind fun b => if b = true then (f1 ρ2).bind fun es => lcL (fun e => (s1 e (wipeR ρ2 vs1)).bind ft1) (fun e => (s1 e (wipeR ρ2 vs1)).bind fe) es else some []
def fLc2 (f : Rho → Option (List D)) (s : D → Rho → Option Rho) (ft : Rho → Option Bool) (f1 : Rho → Option (List D)) (s1 : D → Rho → Option Rho) (ft1 : Rho → Option Bool) (fe : Rho → Option D) (vs vs1 : List Nat) : Rho → Option D := fun ρ => (f ρ).bind fun ds =>
  (lcM (rowL ρ vs vs1 s ft f1 s1 ft1 fe) ds).bind fun rs => if rs.length ≤ sizeLine then some (.list rs) else none
theorem sem_lc2 {w w1 : Bool} {K : PySem.W.Frag} {W1 W2 vs vs1 : List Nat} {wi wi1 : TI} {g g1 : TG} {tt tt1 : TT} {te : TE} {f f1 : Rho → Option (List D)} {s s1 : D → Rho → Option Rho} {ft ft1 : Rho → Option Bool} {fe : Rho → Option D}
    (hi : SemI w K .pk wi f) (hg : SemG w K W1 g s) (ht : SemT K tt ft) (hi1 : SemI w1 K .fz wi1 f1) (hg1 : SemG w1 K W2 g1 s1) (ht1 : SemT K tt1 ft1) (he : SemE K .fz te fe) (hW : ∀ j ∈ W1, j ∈ vs) (hW2 : ∀ j ∈ W2, j ∈ vs1) (ho : OwOk W1 s) :
    SemE K .fr (tLc2 wi g tt wi1 g1 tt1 te vs vs1) (fLc2 f s ft f1 s1 ft1 fe vs vs1) := by
  intro B F H σ ρ z Q rel hf q
  obtain ⟨ds, h1, h2⟩ := bind_some hf
  obtain ⟨rs, h3, h4⟩ := bind_some h2
  obtain ⟨h5, rfl⟩ := if_some h4
  refine hi B F H σ ρ ds _ rel h1 fun J F1 H1 x1 it => ?_
  intro L hL
  have r1 := (rel.ext x1).wiped vs
  have gL : B.G L = none := (rel.ext x1).g.free hL
  have nL : ∀ (j : Nat) (e : D), (wipeR ρ vs)[j]? = some (.ow e) → (wipe σ vs)[j]? ≠ some (some (.ref L)) := own_ne r1 hL
  -- what stands between two items: the list's items so far
  let St : Hp → List D → Hp → Prop := fun F' rr H' => ∃ acc, Rel K B F' H' (wipe σ vs) (wipeR ρ vs) ∧ Same F1 F' ∧ Same H1 H' ∧ New F1 F' H1 ∧ F' L = none ∧ H' L = some (.lst acc) ∧ RepA K F' acc rr
  have ext : ∀ {F2 F5 H2 H5 : Hp} {rr : List D}, St F2 rr H2 → Ext F2 H2 F5 H5 → St F5 rr H5 := fun {F2 F5 H2 H5 rr} st x => by
    obtain ⟨acc, rel2, f2, s2, n2, fL, hH, ra⟩ := st
    exact ⟨acc, rel2.ext x, f2.trans x.f, s2.trans x.h, fun a h => (x.n a h).elim (n2 a) fun z => .inr (s2.free z), x.keepNone fL (by rw [hH]; exact fun z => nomatch z), x.h _ _ hH, ra.mono x.f⟩
  refine ⟨fun i m H' => m = ds.length - i ∧ i ≤ ds.length ∧ ∃ F' rr r2, St F' rr H' ∧ lcM (rowL ρ vs vs1 s ft f1 s1 ft1 fe) (ds.drop i) = some r2 ∧ rs = rr ++ r2,
    ⟨ds.length, by simp, Nat.zero_le _, F1, [], rs, ⟨[], r1.other (x1.s.free hL) gL nL, .refl _, same_upd hL, .refl, x1.s.free hL, upd_same, .nil⟩, by simpa using h3, rfl⟩, ?_⟩
  rintro i m H2 ⟨rfl, hil, F2, rr, r2, st2, hl, hrs⟩
  have st2' := st2
  obtain ⟨acc, rel2, f2, s2, n2, fL, hH, ra⟩ := st2'
  by_cases hlt : i < ds.length
  · rw [List.drop_eq_getElem_cons hlt] at hl
    obtain ⟨row, e1, e2⟩ := bind_some (show (rowL ρ vs vs1 s ft f1 s1 ft1 fe ds[i]).bind _ = some r2 from hl)
    obtain ⟨r3, e3, rfl⟩ := Option.map_eq_some_iff.mp e2
    obtain ⟨ρ2, e4, e5⟩ := bind_some (show (s ds[i] (wipeR ρ vs)).bind _ = some row from e1)
    obtain ⟨b, e6, e7⟩ := bind_some e5
    refine .inr ⟨it.go i F2 H2 hlt f2 rel2.fh s2, fun H' => i + 1 ≤ ds.length ∧ ∃ F' rr r2, St F' rr H' ∧ lcM (rowL ρ vs vs1 s ft f1 s1 ft1 fe) (ds.drop (i + 1)) = some r2 ∧ rs = rr ++ r2, fun H' hn => ⟨ds.length - (i + 1), by omega, rfl, hn⟩, fun x H3 y => ?_⟩
    obtain ⟨F3, x3, rb⟩ := it.yld i ds[i] F2 H2 x H3 (List.getElem?_eq_getElem hlt) f2 rel2.fh s2 y
    refine hg B F3 H3 (wipe σ vs) (wipeR ρ vs) ρ2 x ds[i] _ (rel2.ext x3) rb e4 fun σ2 rr2 k2 l2 => ?_
    have nL2 : ∀ (j : Nat) (e : D), ρ2[j]? = some (.ow e) → σ2[j]? ≠ some (some (.ref L)) := fun j e hj => by
      obtain ⟨a1, a2⟩ := ho _ _ _ j e e4 hj
      rw [k2 j a1]
      exact nL j e a2
    refine ⟨wipe_back (l2.trans (wipe_length σ vs)) fun j hj => k2 j fun z => hj (hW j z), ?_⟩
    refine ht B F3 H3 σ2 ρ2 b _ rr2 e6 fun F4 H4 x4 => ?_
    have st4 := ext (ext st2 x3) x4
    have rl4 := rr2.ext x4
    cases b with
    | false =>
      have e8 : row = [] := (Option.some.inj (show some [] = some row from e7)).symm
      subst e8
      show _ ∧ _
      exact ⟨hlt, F4, rr, r3, st4, e3, by rw [hrs]; rfl⟩
    | true =>
      obtain ⟨es, e8, e9⟩ := bind_some (show (f1 ρ2).bind _ = some row from e7)
      show wi1 σ2 H4 _
      refine hi1 B F4 H4 σ2 ρ2 es _ rl4 e8 fun J1 F5 H5 x5 it1 => ?_
      have st5 := ext st4 x5
      have rl5 := rl4.ext x5
      refine ⟨fun j k H' => k = es.length - j ∧ j ≤ es.length ∧ ∃ F' done r4, St F' (rr ++ done) H' ∧ Rel K B F' H' σ2 ρ2 ∧ Same F5 F' ∧ lcL (fun e => (s1 e (wipeR ρ2 vs1)).bind ft1) (fun e => (s1 e (wipeR ρ2 vs1)).bind fe) (es.drop j) = some r4 ∧ row = done ++ r4,
        ⟨es.length, by simp, Nat.zero_le _, F5, [], row, by rw [List.append_nil]; exact st5, rl5, .refl _, by simpa using e9, rfl⟩, ?_⟩
      rintro j k H6 ⟨rfl, hjl, F6, done, r4, st6, rl6, f6, hl6, hrow⟩
      have st6' := st6
      obtain ⟨acc6, rel6, g6, s6, n6, fL6, hH6, ra6⟩ := st6'
      by_cases hjt : j < es.length
      · rw [List.drop_eq_getElem_cons hjt] at hl6
        obtain ⟨b1, u1, u2⟩ := bind_some (show ((s1 es[j] (wipeR ρ2 vs1)).bind ft1).bind _ = some r4 from hl6)
        obtain ⟨ρ3, u3, u4⟩ := bind_some u1
        refine .inr ⟨it1.go j F6 H6 hjt f6 rel6.fh trivial, fun H' => j + 1 ≤ es.length ∧ ∃ F' done r4, St F' (rr ++ done) H' ∧ Rel K B F' H' σ2 ρ2 ∧ Same F5 F' ∧ lcL (fun e => (s1 e (wipeR ρ2 vs1)).bind ft1) (fun e => (s1 e (wipeR ρ2 vs1)).bind fe) (es.drop (j + 1)) = some r4 ∧ row = done ++ r4, fun H' hn => ⟨es.length - (j + 1), by omega, rfl, hn⟩, fun x' H7 y' => ?_⟩
        obtain ⟨F7, x7, rb7⟩ := it1.yld j es[j] F6 H6 x' H7 (List.getElem?_eq_getElem hjt) f6 rel6.fh trivial y'
        refine hg1 B F7 H7 (wipe σ2 vs1) (wipeR ρ2 vs1) ρ3 x' es[j] _ ((rl6.ext x7).wiped vs1) rb7 u3 fun σ3 rl7 k3 l3 => ?_
        refine ⟨wipe_back (l3.trans (wipe_length σ2 vs1)) fun j' hj' => k3 j' fun z => hj' (hW2 j' z), ?_⟩
        refine ht1 B F7 H7 σ3 ρ3 b1 _ rl7 u4 fun F8 H8 x8 => ?_
        have x78 := x7.trans x8
        have st8 := ext st6 x78
        cases b1 with
        | false => exact ⟨hjt, F8, done, r4, st8, rl6.ext x78, f6.trans x78.f, u2, hrow⟩
        | true =>
          obtain ⟨y0, u5, u6⟩ := bind_some (show ((s1 es[j] (wipeR ρ2 vs1)).bind fe).bind _ = some r4 from u2)
          obtain ⟨ρ4, u7, u8⟩ := bind_some u5
          rw [u3] at u7
          cases u7
          obtain ⟨r5, u9, rfl⟩ := Option.map_eq_some_iff.mp u6
          show te σ3 H8 _
          refine he B F8 H8 σ3 ρ3 y0 _ (rl7.ext x8) u8 fun v F9 H9 x9 rv => ?_
          have x69 := x78.trans x9
          obtain ⟨acc9, b1', b2, b3, b4, b5, b6, b7⟩ := ext st6 x69
          have hlen : acc9.length < sizeLine := by
            have h6 : rs.length = rr.length + (row.length + r3.length) := by rw [hrs]; simp
            have h7 := b7.length
            rw [hrow] at h6
            simp at h6 h7
            omega
          refine ⟨acc9, b6, hlen, hjt, F9, done ++ [y0], r5, ⟨acc9 ++ [v], b1'.other b5 gL nL, b2, fun c u hc => ?_, b4, b5, upd_same, ?_⟩, (rl6.ext x69).other b5 gL nL2, f6.trans x69.f, u9, by rw [hrow]; simp⟩
          · rw [upd_ne (ne_of_none hc hL)]
            exact b3 _ _ hc
          · rw [← List.append_assoc]
            exact b7.append (.cons rv .nil)
      · have ej : j = es.length := by omega
        subst ej
        rw [List.drop_length] at hl6
        cases hl6
        rw [List.append_nil] at hrow
        subst hrow
        exact .inl ⟨it1.stop _ F6 H6 (Nat.le_refl _) f6 rel6.fh trivial, hlt, F6, rr ++ row, r3, st6, e3, by rw [hrs]; simp⟩
  · have ei : i = ds.length := by omega
    subst ei
    rw [List.drop_length] at hl
    cases hl
    rw [List.append_nil] at hrs
    subst hrs
    refine .inl ⟨it.stop _ F2 H2 (Nat.le_refl _) f2 rel2.fh s2, q _ F2 H2 ⟨x1.f.trans f2, x1.h.trans s2, fun a h => ?_, rel2.fh⟩ ⟨L, rfl, x1.h.free hL, fL, acc, hH, ra⟩⟩
    exact (n2 a h).elim (x1.n a) fun z => .inr (x1.h.free z)
end Q
end

/-! part: Q23 -/
section
set_option Elab.async false
set_option linter.all false
set_option maxRecDepth 100000
set_option maxHeartbeats 4000000
set_option autoImplicit false
namespace Q
open PySem PySem.Spec PySem.Calls PyProof.Rows L2
section
variable {X : Cx} {m : Md} {W1 W2 : List Nat} {pos : Pos} {w w1 : Bool} {elt tg iter tg1 iter1 : Expr} {ifs ifs1 : List Expr} {scope : Scope} {wi wi1 : TI} {g g1 : TG} {tt tt1 : TT} {te : TE} {f f1 : Rho → Option (List D)} {s s1 : D → Rho → Option Rho} {ft ft1 : Rho → Option Bool} {fe : Rho → Option D}
theorem de_lc2 {vs : List Nat} (own : List (Str × Nat)) (vs1 : List Nat) (hN : X.N.Nodup) (hi : DI w X m tg iter wi f) (ok : blkC X.N X.env.scope scope own = true)
    (hg : ∀ (s' : Shared) (H : Hp) (C : Addr) (cl : List (Str × Addr)) (fp : List Addr), DG w (X.blk s' H scope (compEnvC scope cl C X.env) fp) W1 tg g s) (ht : ∀ (s : Shared) (H : Hp) (C : Addr) (cl : List (Str × Addr)) (fp : List Addr), DTs (X.blk s H scope (compEnvC scope cl C X.env) fp) ifs tt ft)
    (hi1 : ∀ (s : Shared) (H : Hp) (C : Addr) (cl : List (Str × Addr)) (fp : List Addr), DI w1 (X.blk s H scope (compEnvC scope cl C X.env) fp) .fz tg1 iter1 wi1 f1)
    (hg1 : ∀ (s' : Shared) (H : Hp) (C : Addr) (cl : List (Str × Addr)) (fp : List Addr), DG w1 (X.blk s' H scope (compEnvC scope cl C X.env) fp) W2 tg1 g1 s1) (ht1 : ∀ (s : Shared) (H : Hp) (C : Addr) (cl : List (Str × Addr)) (fp : List Addr), DTs (X.blk s H scope (compEnvC scope cl C X.env) fp) ifs1 tt1 ft1)
    (he : ∀ (s : Shared) (H : Hp) (C : Addr) (cl : List (Str × Addr)) (fp : List Addr), DE (X.blk s H scope (compEnvC scope cl C X.env) fp) .fz elt te fe) (hW : ∀ j ∈ W1, j ∈ vs) (hW2 : ∀ j ∈ W2, j ∈ vs1) (ho : OwOk W1 s) (hv : ∀ i ∈ vs1, i ∈ own.map (·.2)) (hc : X.calm = true := by rfl) (hs : ∀ x, foldedSetIterable iter X.env x = pure x := by intro _; rfl) (hs1 : ∀ env x, foldedSetIterable iter1 env x = pure x := by intro _ _; rfl) (hvs : own.map (·.2) = vs := by rfl) :
    DE X .fr (.ListComp elt [⟨tg, iter, ifs, 0⟩, ⟨tg1, iter1, ifs1, 0⟩] scope pos) (tLc2 wi g tt wi1 g1 tt1 te vs vs1) (fLc2 f s ft f1 s1 ft1 fe vs vs1) := by
  subst hvs
  exact
  ⟨pe_lc2 hc hN hi.p (blkOk_by ok) hv (fun s H C cl fp => (hg s H C cl fp).p) (fun s H C cl fp => (ht s H C cl fp).p) (fun s H C cl fp => (hi1 s H C cl fp).p) (fun s H C cl fp => (hg1 s H C cl fp).p) (fun s H C cl fp => (ht1 s H C cl fp).p) (fun s H C cl fp => (he s H C cl fp).p) hs hs1,
    sem_lc2 hi.pk.s (hg X.s_0 (fun _ => none) 0 [] []).s (ht X.s_0 (fun _ => none) 0 [] []).s (hi1 X.s_0 (fun _ => none) 0 [] []).s (hg1 X.s_0 (fun _ => none) 0 [] []).s (ht1 X.s_0 (fun _ => none) 0 [] []).s (he X.s_0 (fun _ => none) 0 [] []).s hW hW2 ho⟩
theorem ds_asgLc2 {m1 : Md} {vs : List Nat} {i : Nat} {y : Str} {py spos : Pos} (own : List (Str × Nat)) (vs1 : List Nat) (hN : X.N.Nodup) (hi : DI w X m tg iter wi f) (ok : blkC X.N X.env.scope scope own = true)
    (hg : ∀ (s' : Shared) (H : Hp) (C : Addr) (cl : List (Str × Addr)) (fp : List Addr), DG w (X.blk s' H scope (compEnvC scope cl C X.env) fp) W1 tg g s) (ht : ∀ (s : Shared) (H : Hp) (C : Addr) (cl : List (Str × Addr)) (fp : List Addr), DTs (X.blk s H scope (compEnvC scope cl C X.env) fp) ifs tt ft)
    (hi1 : ∀ (s : Shared) (H : Hp) (C : Addr) (cl : List (Str × Addr)) (fp : List Addr), DI w1 (X.blk s H scope (compEnvC scope cl C X.env) fp) .fz tg1 iter1 wi1 f1)
    (hg1 : ∀ (s' : Shared) (H : Hp) (C : Addr) (cl : List (Str × Addr)) (fp : List Addr), DG w1 (X.blk s' H scope (compEnvC scope cl C X.env) fp) W2 tg1 g1 s1) (ht1 : ∀ (s : Shared) (H : Hp) (C : Addr) (cl : List (Str × Addr)) (fp : List Addr), DTs (X.blk s H scope (compEnvC scope cl C X.env) fp) ifs1 tt1 ft1)
    (he : ∀ (s : Shared) (H : Hp) (C : Addr) (cl : List (Str × Addr)) (fp : List Addr), DE (X.blk s H scope (compEnvC scope cl C X.env) fp) .fz elt te fe) (hW : ∀ j ∈ W1, j ∈ vs) (hW2 : ∀ j ∈ W2, j ∈ vs1) (ho : OwOk W1 s) (hv : ∀ i ∈ vs1, i ∈ own.map (·.2)) (hsw : swapsWith (.ListComp elt [⟨tg, iter, ifs, 0⟩, ⟨tg1, iter1, ifs1, 0⟩] scope pos) (some (.Name y py)) spos.line X.env = pure true)
    (hy : X.N[i]? = some y := by rfl) (hyl : X.env.scope.names.lookup y = some .local := by rfl) (hc : X.calm = true := by rfl) (hs : ∀ x, foldedSetIterable iter X.env x = pure x := by intro _; rfl) (hs1 : ∀ env x, foldedSetIterable iter1 env x = pure x := by intro _ _; rfl) (hvs : own.map (·.2) = vs := by rfl) :
    DS X m1 [i] (.Assign [.Name y py] (.ListComp elt [⟨tg, iter, ifs, 0⟩, ⟨tg1, iter1, ifs1, 0⟩] scope pos) spos) (tAsg (tLc2 wi g tt wi1 g1 tt1 te vs vs1) (gName i)) (bAsg i (fLc2 f s ft f1 s1 ft1 fe vs vs1)) := by
  subst hvs
  have d := de_lc2 (pos := pos) own vs1 hN hi ok hg ht hi1 hg1 ht1 he hW hW2 ho hv hc hs hs1
  exact ⟨ps_setLc2 hc hN hy hyl hsw hi.p (blkOk_by ok) hv (fun s H C cl fp => (hg s H C cl fp).p) (fun s H C cl fp => (ht s H C cl fp).p) (fun s H C cl fp => (hi1 s H C cl fp).p) (fun s H C cl fp => (hg1 s H C cl fp).p) (fun s H C cl fp => (ht1 s H C cl fp).p) (fun s H C cl fp => (he s H C cl fp).p) hs hs1, sem_asg d.frz.s⟩
theorem ds_ownLc2 {m1 : Md} {vs : List Nat} {i : Nat} {y : Str} {py spos : Pos} (own : List (Str × Nat)) (vs1 : List Nat) (hN : X.N.Nodup) (hi : DI w X m tg iter wi f) (ok : blkC X.N X.env.scope scope own = true)
    (hg : ∀ (s' : Shared) (H : Hp) (C : Addr) (cl : List (Str × Addr)) (fp : List Addr), DG w (X.blk s' H scope (compEnvC scope cl C X.env) fp) W1 tg g s) (ht : ∀ (s : Shared) (H : Hp) (C : Addr) (cl : List (Str × Addr)) (fp : List Addr), DTs (X.blk s H scope (compEnvC scope cl C X.env) fp) ifs tt ft)
    (hi1 : ∀ (s : Shared) (H : Hp) (C : Addr) (cl : List (Str × Addr)) (fp : List Addr), DI w1 (X.blk s H scope (compEnvC scope cl C X.env) fp) .fz tg1 iter1 wi1 f1)
    (hg1 : ∀ (s' : Shared) (H : Hp) (C : Addr) (cl : List (Str × Addr)) (fp : List Addr), DG w1 (X.blk s' H scope (compEnvC scope cl C X.env) fp) W2 tg1 g1 s1) (ht1 : ∀ (s : Shared) (H : Hp) (C : Addr) (cl : List (Str × Addr)) (fp : List Addr), DTs (X.blk s H scope (compEnvC scope cl C X.env) fp) ifs1 tt1 ft1)
    (he : ∀ (s : Shared) (H : Hp) (C : Addr) (cl : List (Str × Addr)) (fp : List Addr), DE (X.blk s H scope (compEnvC scope cl C X.env) fp) .fz elt te fe) (hW : ∀ j ∈ W1, j ∈ vs) (hW2 : ∀ j ∈ W2, j ∈ vs1) (ho : OwOk W1 s) (hv : ∀ i ∈ vs1, i ∈ own.map (·.2)) (hsw : swapsWith (.ListComp elt [⟨tg, iter, ifs, 0⟩, ⟨tg1, iter1, ifs1, 0⟩] scope pos) (some (.Name y py)) spos.line X.env = pure true)
    (hy : X.N[i]? = some y := by rfl) (hyl : X.env.scope.names.lookup y = some .local := by rfl) (hc : X.calm = true := by rfl) (hs : ∀ x, foldedSetIterable iter X.env x = pure x := by intro _; rfl) (hs1 : ∀ env x, foldedSetIterable iter1 env x = pure x := by intro _ _; rfl) (hvs : own.map (·.2) = vs := by rfl) :
    DS X m1 [i] (.Assign [.Name y py] (.ListComp elt [⟨tg, iter, ifs, 0⟩, ⟨tg1, iter1, ifs1, 0⟩] scope pos) spos) (tAsg (tLc2 wi g tt wi1 g1 tt1 te vs vs1) (gName i)) (bOwn i (fLc2 f s ft f1 s1 ft1 fe vs vs1)) := by
  subst hvs
  have d := de_lc2 (pos := pos) own vs1 hN hi ok hg ht hi1 hg1 ht1 he hW hW2 ho hv hc hs hs1
  exact ⟨ps_setLc2 hc hN hy hyl hsw hi.p (blkOk_by ok) hv (fun s H C cl fp => (hg s H C cl fp).p) (fun s H C cl fp => (ht s H C cl fp).p) (fun s H C cl fp => (hi1 s H C cl fp).p) (fun s H C cl fp => (hg1 s H C cl fp).p) (fun s H C cl fp => (ht1 s H C cl fp).p) (fun s H C cl fp => (he s H C cl fp).p) hs hs1, sem_own d.s⟩
@[simp] theorem fLc2_e {ρ : Rho} {vs vs1 : List Nat} : fLc2 f s ft f1 s1 ft1 fe vs vs1 ρ = (f ρ).bind fun ds => (lcM (rowL ρ vs vs1 s ft f1 s1 ft1 fe) ds).bind lcB := rfl
@[simp] theorem rowL_e {ρ : Rho} {vs vs1 : List Nat} {d : D} : rowL ρ vs vs1 s ft f1 s1 ft1 fe d = (s d (wipeR ρ vs)).bind fun ρ2 => (ft ρ2).bind fun b => if b = true then (f1 ρ2).bind fun es => lcL (fun e => (s1 e (wipeR ρ2 vs1)).bind ft1) (fun e => (s1 e (wipeR ρ2 vs1)).bind fe) es else some [] := rfl
theorem lcM_mk {α : Type} {mk : α → D} {row : D → Option (List D)} {g : α → List D} : ∀ {xs : List α}, (∀ x ∈ xs, row (mk x) = some (g x)) → lcM row (xs.map mk) = some (xs.flatMap g)
  | [], _ => rfl
  | x :: xs, h => by
    rw [List.map_cons, lcM, h x List.mem_cons_self, Option.bind_some, lcM_mk fun y hy => h y (List.mem_cons_of_mem _ hy)]
    rfl
end
/-! ### x[::-1], a list -/
theorem pick_rev (n : Nat) : sliceBounds none none (some (-1)) n = ((n : Int) - 1, -1, -1) := by
  unfold sliceBounds
  have h0 : ¬ ((-1 : Int) > 0) := by decide
  simp only [Option.getD_some, h0, if_false]
theorem range_rev (n : Nat) : sliceRange ((n : Int) - 1) (-1) (-1) = (List.range n).map fun k => n - 1 - k := by
  unfold sliceRange
  have h0 : ¬ ((-1 : Int) > 0) := by decide
  have e : (- -1 : Int) = 1 := by decide
  simp only [h0, if_false, e, Int.ediv_one]
  by_cases hn : (n : Int) - 1 > -1
  · rw [if_pos hn]
    have h1 : ((n : Int) - 1 - -1 - -1 - 1).toNat = n := by omega
    rw [h1]
    apply List.map_congr_left
    intro k hk
    have := List.mem_range.mp hk
    omega
  · rw [if_neg hn]
    have : n = 0 := by omega
    subst this
    rfl
theorem fm_congr {α β : Type} {f g : α → Option β} : ∀ {l : List α}, (∀ x ∈ l, f x = g x) → l.filterMap f = l.filterMap g
  | [], _ => rfl
  | x :: l, h => by
    rw [List.filterMap_cons, List.filterMap_cons, h x List.mem_cons_self, fm_congr fun y hy => h y (List.mem_cons_of_mem _ hy)]
theorem slicePick_rev (items : Array Value) : slicePick items none none (some (-1)) = items.toList.reverse.toArray := by
  unfold slicePick
  rw [pick_rev, range_rev]
  congr 1
  rw [List.filterMap_map]
  apply List.ext_getElem?
  intro i
  have key : (List.range items.size).filterMap ((fun j => items[j]?) ∘ fun k => items.size - 1 - k) = (List.range items.size).filterMap fun k => items.toList.reverse[k]? := by
    refine fm_congr ?_
    intro k hk
    have := List.mem_range.mp hk
    show items[items.size - 1 - k]? = _
    rw [List.getElem?_reverse (by simpa using this)]
    simp
  rw [key]
  have e2 : (List.range items.size).filterMap (fun k => items.toList.reverse[k]?) = items.toList.reverse := by
    have : items.size = items.toList.reverse.length := by simp
    rw [this]
    generalize items.toList.reverse = l
    induction l with
    | nil => rfl
    | cons x l ih =>
      rw [List.length_cons, List.range_succ_eq_map, List.filterMap_cons]
      simp only [List.getElem?_cons_zero, List.filterMap_map]
      congr 1
  rw [e2]
end Q
end

/-! part: Q24 -/
section
set_option Elab.async false
set_option linter.all false
set_option maxRecDepth 100000
set_option maxHeartbeats 4000000
set_option autoImplicit false
namespace Q
open PySem PySem.Spec PySem.Calls PyProof.Rows L2
section
variable {X : Cx} {m m1 m2 : Md} {e a : Expr} {te ta : TE} {f g : Rho → Option D} {p p2 pos apos : Pos} {j : Nat} {x : Str}
/-! ### xs[::-1], a list -/
def rRev (K : PySem.W.Frag) : V → Int → Hp → VK → Prop := fun x c H Q => ∃ a xs, x = .ref a ∧ c = -1 ∧ SqL K H a xs ∧ ∀ p, H p = none → Q (.ref p) (upd H p (.lst xs.reverse))
def tRev (K : PySem.W.Frag) (te tc : TE) : TE := fun σ H Q => te σ H fun x H1 => tc σ H1 fun y H2 => ∃ c, y = .int c ∧ rRev K x c H2 Q
theorem vals_rev : ∀ {xs : List V} {us : List Value}, Vals xs us → Vals xs.reverse us.reverse
  | _, _, .nil => .nil
  | _, _, .cons h r => by rw [List.reverse_cons, List.reverse_cons]; exact (vals_rev r).append (.cons h .nil)
theorem pe_rev {c : Expr} {tc : TE} (he : PE X e te) (hc : PE X c tc) : PE X (.Subscript e (.Slice none none (some c) p2) pos) (tRev X.K te tc) := by
  refine ⟨fun pins s σ H Q I h => ?_⟩
  refine Subscript_ (thn (he.run pins s σ H _ I h) fun v s1 ⟨x, H1, I1, r1, q1⟩ => ?_)
  refine wpAny_Slice ?_
  rw [evalPart_none]
  refine wpAny_pure (wpAny_pure ?_)
  rw [evalPart_some]
  refine thn (hc.run pins s1 σ H1 _ I1 q1) fun u s2 ⟨y, H2, I2, r2, i, ey, a, xs, ex, ei, sq, q2⟩ => ?_
  subst ey; subst ex; subst ei
  cases r1
  obtain ⟨t, rfl⟩ := r2
  have I4 : Inv X pins σ H2 { s2 with heap := s2.heap.push { cls := .type "slice", data := .fields #[.none, .none, .int (-1) t] } } := I2.kept (t' := s2.toks) fun b ob q => Heap.get?_push_of_some _ q
  obtain ⟨its, rv, pl, hz⟩ := I4.list sq
  show wpAny (model X.prog X.w) X.A (subscriptTail e (.Slice none none (some c) p2) (.ref a) (.ref s2.heap.objs.size)) (EP X pins σ Q) X.xe { s2 with heap := s2.heap.push { cls := .type "slice", data := .fields #[.none, .none, .int (-1) t] } }
  refine tail_any (ops := [.ref a, .ref s2.heap.objs.size]) pl.isList.typeIs PySem.list_getitem_lookup ?_ (by with_unfolding_all rfl)
  refine wpAny_getItem_list_slice pl.isList (Heap.IsSliceOf.new ..) .none .none (.int (-1) t) (by decide) ?_ (by rw [List.size_toArray]; rw [← rv.length]; exact hz)
  rw [slicePick_rev]
  refine ⟨.ref _, upd H2 _ (.lst xs.reverse), ?_, rfl, q2 _ I4.fresh⟩
  have h1 : (its.toArray.toList.reverse).toArray = its.reverse.toArray := by simp
  rw [h1]
  exact I4.lnew (its := its.reverse) (t' := s2.toks) (vals_rev rv) (by rw [List.length_reverse]; exact hz)
def revSD (d c : D) : Option D := match d, c with
  | .list ds, .int i => if i = -1 then some (.list ds.reverse) else none
  | _, _ => none
theorem RepA.rev {K : PySem.W.Frag} {F : Hp} : ∀ {vs : List V} {ds : List D}, RepA K F vs ds → RepA K F vs.reverse ds.reverse
  | _, _, .nil => .nil
  | _, _, .cons h r => by rw [List.reverse_cons, List.reverse_cons]; exact (RepA.rev r).append (.cons h .nil)
theorem de_rev {c : Expr} {tc : TE} (he : DE X m e te f) (hc : DE X m1 c tc g) : DE X .fr (.Subscript e (.Slice none none (some c) p2) pos) (tRev X.K te tc) (f2 revSD f g) := ⟨pe_rev he.p hc.p, fun B F H σ ρ z Q r hf q => by
  obtain ⟨d, h1, h2⟩ := bind_some hf
  obtain ⟨i, h3, h4⟩ := bind_some h2
  refine he.s B F H σ ρ d _ r h1 fun v F1 H1 x1 r1 => ?_
  refine hc.s B F1 H1 σ ρ i _ (r.ext x1) h3 fun w F2 H2 x2 r2 => ?_
  match d, i, h4, r1, r2 with
  | .list ds, .int i, h4, r1, r2 =>
    obtain ⟨hn, rfl⟩ := if_some (show (if i = -1 then some (PyData.list ds.reverse) else none) = some z from h4)
    obtain ⟨a, xs, rfl, s1, p1⟩ := (r1.mono x2).list x2.s
    exact ⟨i, r2.int, a, xs, rfl, hn, s1, newL_res (x1.trans x2) p1.rev q⟩⟩
theorem de_revK {c : Expr} {tc : TE} (K' : PySem.W.Frag) (he : DE X m e te f) (hc : DE X m1 c tc g) (hK : X.K = K' := by rfl) : DE X .fr (.Subscript e (.Slice none none (some c) p2) pos) (tRev K' te tc) (f2 revSD f g) := by
  subst hK
  exact de_rev he hc
/-! ### sep.join(texts) -/
def strsOf : List D → Option (List Str)
  | [] => some []
  | .str x :: ds => (strsOf ds).map (x :: ·)
  | _ :: _ => none
theorem strsOf_map : ∀ {ds : List D} {ns : List Str}, strsOf ds = some ns → ds = ns.map .str
  | [], _, h => by cases h; rfl
  | .str i :: ds, ns, h => by
    obtain ⟨ms, h1, rfl⟩ := Option.map_eq_some_iff.mp (show (strsOf ds).map (i :: ·) = some ns from h)
    rw [strsOf_map h1]; rfl
@[simp] theorem strsOf_strs : ∀ (ns : List Str), strsOf (ns.map .str) = some ns
  | [] => rfl
  | n :: ns => by show (strsOf (ns.map .str)).map (n :: ·) = _; rw [strsOf_strs ns]; rfl
def joinD (d e : D) : Option D := match d with
  | .str a => (itemsD e).bind fun ds => (strsOf ds).bind fun ys => if (ys.map (·.length)).sum + ys.length * a.length ≤ 16777216 then some (.str (Txt.join a ys)) else none
  | _ => none
def rJoin (K : PySem.W.Frag) : V → List V → Hp → VK → Prop := fun x xs H Q => ∃ a p, ∃ ys : List Str, x = .str a ∧ xs = [.ref p] ∧ (SqL K H p (ys.map V.str) ∨ SqT K H p (ys.map V.str)) ∧ (ys.map (·.length)).sum + ys.length * a.length ≤ 16777216 ∧ Q (.str (Txt.join a ys)) H
theorem de_join (K' : PySem.W.Frag) (ha : DE X m a ta f) (he : DE X m1 e te g) (hK : X.K = K' := by rfl) (hs : starEach [e] X.env = [(false, eval e X.env)] := by rfl) (hbase : attributeBase a "join" X.env (eval a X.env) = eval a X.env := by rfl) (hline : (apos.endLine == pos.line) = true := by rfl) :
    DE X .fz (.Call (.Attribute a "join" apos) [e] [] pos) (tM1 (rJoin K') ta te) (f2 joinD f g) := by
  subst hK
  exact ⟨pe_m1 F.slot_str_join F.type_str_join mt_join ha.p he.p hs hbase hline, fun B F H σ ρ z Q r hf q => by
    obtain ⟨d, h1, h2⟩ := bind_some hf
    obtain ⟨i, h3, h4⟩ := bind_some h2
    refine ha.s B F H σ ρ d _ r h1 fun v F1 H1 x1 r1 => ?_
    cases d with
    | str t =>
      refine ⟨⟨t, r1.str⟩, ?_⟩
      refine he.s B F1 H1 σ ρ i _ (r.ext x1) h3 fun w F2 H2 x2 r2 => ?_
      obtain ⟨ds, h5, h6⟩ := bind_some (show (itemsD i).bind _ = some z from h4)
      obtain ⟨ys, h7, h8⟩ := bind_some h6
      obtain ⟨h9, rfl⟩ := if_some h8
      obtain ⟨l, xs, rfl, s1, p1⟩ := r2.items x2.s h5
      have ed := strsOf_map h7
      subst ed
      have ex := RepA.strs p1
      subst ex
      exact ⟨t, l, ys, r1.str, rfl, s1, h9, q _ F2 H2 (x1.trans x2) (Rep.str _)⟩
    | _ => cases h4⟩
/-! ### xs.extend(a new list) -/
def bExt (j : Nat) (f : Rho → Option D) : Bd := fun ρ => (f ρ).bind fun d => match d with
  | .list es => (owL ρ[j]?).bind fun ds => if ds.length + es.length ≤ sizeLine then some (.nx (ρ.set j (.ow (.list (ds ++ es))))) else none
  | _ => none
theorem ext_some {ρ : Rho} {o : Out} (h : bExt j f ρ = some o) : ∃ ds es, ρ[j]? = some (.ow (.list ds)) ∧ f ρ = some (.list es) ∧ ds.length + es.length ≤ sizeLine ∧ o = .nx (ρ.set j (.ow (.list (ds ++ es)))) := by
  obtain ⟨d, h1, h2⟩ := bind_some h
  cases d with
  | list es =>
    obtain ⟨ds, h3, h4⟩ := bind_some (show (owL ρ[j]?).bind _ = some o from h2)
    obtain ⟨h5, rfl⟩ := if_some h4
    refine ⟨ds, es, ?_, h1, h5, rfl⟩
    revert h3
    cases hq : ρ[j]? with
    | none => intro h3; cases h3
    | some sl =>
      cases sl with
      | ow d =>
        cases d with
        | list l => intro h3; cases h3; rfl
        | _ => intro h3; cases h3
      | _ => intro h3; cases h3
  | _ => cases h2
theorem sem_ext {K : PySem.W.Frag} (h : SemE K .fr te f) : SemS K m [] (tDrop (tBM K "list" rExtend (tVar j) (tCons te tNil))) (bExt j f) := by
  intro B F H σ ρ o D r hb q
  obtain ⟨ds, es, e1, e2, hl, rfl⟩ := ext_some hb
  obtain ⟨a, vs, h1, h2, h3, h4, h5⟩ := r.own e1
  refine ⟨_, h1, tyL h4, ?_⟩
  refine h B F H σ ρ _ _ r e2 fun v F1 H1 x1 r1 => ?_
  obtain ⟨b, rfl, k1, k2, ys, k3, k4⟩ := r1
  have h6 := x1.h _ _ h4
  refine ⟨a, b, vs, ys, rfl, rfl, h6, k3, by rw [h5.length, k4.length]; exact hl, ?_⟩
  have hF1 : F1 a = none := x1.keepNone h2 (by rw [h4]; exact fun z => nomatch z)
  exact q σ F1 _ ((r.ext x1).write e1 h1 hF1 h3 ⟨vs ++ ys, upd_same, (h5.mono x1.f).append k4⟩) fun _ _ => rfl
theorem ds_ext {pn : Pos} (he : DE X .fr e te f) (hN : X.N[j]? = some x := by rfl) (hv : Vis X.env.scope x := by first | exact Or.inl rfl | exact Or.inr (Or.inl rfl) | exact Or.inr (Or.inr rfl)) (hd : (x == ("__debug__" : Str)) = false := by decide) (hcd : (x == ("__classdict__" : Str)) = false := by decide)
    (hbase : attributeBase (.Name x pn) "extend" X.env (eval (.Name x pn) X.env) = eval (.Name x pn) X.env := by rfl)
    (hfew : ((backTo p (starEach [e] X.env)).all (fun x => !x.1) && (backToKw p (keywordEach [] X.env)).all (fun x => x.1.isSome)
      && decide ([e].length + ([] : List Keyword).length + (if ([] : List Keyword).isEmpty then 0 else 1) < 30)) = true := by rfl)
    (hline : (apos.endLine == p.line) = true := by rfl) (hs : starEach [e] X.env = (false, eval e X.env) :: starEach [] X.env := by rfl) (hsw : swapsWith (.Call (.Attribute (.Name x pn) "extend" apos) [e] [] p) none pos.line X.env = pure false := by rfl) :
    DS X m [] (.Expr (.Call (.Attribute (.Name x pn) "extend" apos) [e] [] p) pos) (tDrop (tBM X.K "list" rExtend (tVar j) (tCons te tNil))) (bExt j f) :=
  ⟨ps_expr (pe_bm PySem.F.plainAttrs_list PySem.F.slot_list_extend PySem.F.type_list_extend mt_extend (pe_var hN hv hd hcd) (pa_cons he.p pa_nil hs) hbase hfew hline hs rfl) hsw, sem_ext he.s⟩
/-! ### min(xs, default=d) -/
def rMinDf (K : PySem.W.Frag) : List V → List V → Hp → VK → Prop := fun vs zs H Q => ∃ a xs F w ds, vs = [V.ref a] ∧ zs = [w] ∧ Same F H ∧ SqA K H a xs ∧ RepA K F xs ds ∧ (ds = [] → Q w H) ∧ (∀ y ys, ds = y :: ys → bestOk (y :: ys) = true ∧ ∀ v, Rep K F v (PySem.W.minD y ys) → Q v H)
theorem cr_minDf (K' : PySem.W.Frag) (hc : X.calm = true) (hu : X.A.units + 70 < cLine) (hK : X.K = K' := by rfl) : CallRK X (.builtin "min") [Str.ofString "default"] (rMinDf K') := by
  subst hK
  intro pins s σ H vs zs us ws Q I r rz h
  obtain ⟨a, xs, F, w, ds, rfl, rfl, fh, sq, rp, q0, q1⟩ := h
  obtain rfl := Vals.ref1 r
  obtain ⟨w1, rfl, e1⟩ := vals1 rz
  have key : PySem.W.AlikeAll ds ∧ PyData.depthAll ds ≤ 64 := by
    cases ds with
    | nil => exact ⟨⟨fun d hd => (nomatch hd), fun d hd => (nomatch hd)⟩, Nat.zero_le _⟩
    | cons y ys => exact bestOk_of (q1 y ys rfl).1
  obtain ⟨h1, h2⟩ := key
  rcases sq with sq | sq
  · obtain ⟨its, rv, pl, hz⟩ := I.list sq
    obtain ⟨as, hr⟩ := Dp.readsAll I ds xs its ((rp.mono fh).dp (ndA_of _ fun d hd => nd_alike d (h1.1 d hd d hd))) rv
    refine PySem.W.min_list_default (I.ok.hd hc) pl.isList (show ReadsAll s.heap its.toArray.toList _ _ from hr) h1 (by omega) (fun e h' tk hk => ⟨w, H, I.kept hk, e1, q0 e⟩) fun y ys i v h' tk bs e hi hr' hk => ?_
    subst e
    obtain ⟨w, r1, r2⟩ := best_end (tk := tk) I fh rv rp h1 (minD_mem y ys) hi hr' hk
    exact ⟨w, H, I.kept hk, r1, (q1 y ys rfl).2 w r2⟩
  · obtain ⟨its, rv, pl, hz⟩ := I.tuple sq
    obtain ⟨as, hr⟩ := Dp.readsAll I ds xs its ((rp.mono fh).dp (ndA_of _ fun d hd => nd_alike d (h1.1 d hd d hd))) rv
    refine PySem.W.min_tuple_default (I.ok.hd hc) pl (show ReadsAll s.heap its.toArray.toList _ _ from hr) h1 (by omega) (fun e h' tk hk => ⟨w, H, I.kept hk, e1, q0 e⟩) fun y ys i v h' tk bs e hi hr' hk => ?_
    subst e
    obtain ⟨w, r1, r2⟩ := best_end (tk := tk) I fh rv rp h1 (minD_mem y ys) hi hr' hk
    exact ⟨w, H, I.kept hk, r1, (q1 y ys rfl).2 w r2⟩
def minDf (d z : D) : Option D := (itemsD d).bind fun ds => match ds with
  | [] => some z
  | ds => minOf ds
theorem de_minDf (K' : PySem.W.Frag) {kpos : Pos} (hg : Gl X "min") (hm : X.mg "min" = none) (hu : X.A.units + 70 < cLine) (he : DE X m e te f) (hd : DE X .fz a ta g) (hc : X.calm = true := by rfl) (hK : X.K = K' := by rfl)
    (hs : backTo pos (starEach [e] X.env) = (false, eval e X.env) :: backTo pos (starEach [] X.env) := by rfl) (hpl : (backTo pos (starEach [e] X.env)).any (·.1) = false := by rfl)
    (hall : (backToKw pos (keywordEach [⟨some (Str.ofString "default"), a, kpos⟩] X.env)).all (·.1.isSome) = true := by rfl) (hnone : (backToKw pos (keywordEach [⟨some (Str.ofString "default"), a, kpos⟩] X.env)).any (·.1.isNone) = false := by rfl) (hks : (backToKw pos (keywordEach [⟨some (Str.ofString "default"), a, kpos⟩] X.env)).filterMap (·.1) = [Str.ofString "default"] := by rfl) (hn1 : starEach [e] X.env = (false, eval e X.env) :: starEach [] X.env := by rfl) :
    DE X .fz (.Call (.Name "min" p) [e] [⟨some (Str.ofString "default"), a, kpos⟩] pos) (tCKw (rMinDf K') (tCons te tNil) (tCons ta tNil)) (f2 minDf f g) := by
  have hcr := cr_minDf K' hc hu hK
  subst hK
  exact ⟨pe_callBK hcr hg hm bt_min (pa_cons he.p pa_nil hn1) (pk_cons hd.p pk_nil) (by decide) (by decide) hs hpl hall hnone hks, fun B F H σ ρ z Q r hf q => by
    obtain ⟨d, h1, h2⟩ := bind_some hf
    obtain ⟨i, h3, h4⟩ := bind_some h2
    obtain ⟨ds, h5, h6⟩ := bind_some (show (itemsD d).bind _ = some z from h4)
    refine he.s B F H σ ρ d _ r h1 fun v F1 H1 x1 r1 => ?_
    refine hd.s B F1 H1 σ ρ i _ (r.ext x1) h3 fun w F2 H2 x2 r2 => ?_
    obtain ⟨l, xs, rfl, s1, p1⟩ := (r1.mono x2).items x2.s h5
    refine ⟨l, xs, F2, w, ds, rfl, rfl, x2.s, s1, p1, fun e => ?_, fun y ys e => ?_⟩
    · subst e
      cases h6
      exact q _ F2 H2 (x1.trans x2) r2
    · subst e
      obtain ⟨ok, rfl⟩ := if_some (show (if bestOk (y :: ys) = true then some (PySem.W.minD y ys) else none) = some z from h6)
      exact ⟨ok, fun v rv => q v F2 H2 (x1.trans x2) rv⟩⟩
/-! ### min of three -/
def min3D : List D → Option D
  | [.int a, .int b, .int c] => some (.int (min (min a b) c))
  | _ => none
def rMin3 : List V → Hp → VK → Prop := fun xs H Q => ∃ a b c : Int, xs = [.int a, .int b, .int c] ∧ Q (.int (min (min a b) c)) H
theorem cr_min3 (hc : X.calm = true) : CallR X (.builtin "min") rMin3 := by
  intro pins s σ H xs us Q I r h
  obtain ⟨a, b, c, rfl, q⟩ := h
  cases r with
  | cons r1 r => cases r with
  | cons r2 r => cases r with
  | cons r3 r =>
  cases r
  obtain ⟨t1, rfl⟩ := r1
  obtain ⟨t2, rfl⟩ := r2
  obtain ⟨t3, rfl⟩ := r3
  refine min_three_ints (I.ok.hd hc) fun h' tk k => ⟨_, H, I.kept k, ?_, q⟩
  by_cases h1 : b < a
  · rw [if_pos h1]
    by_cases h2 : c < b
    · rw [if_pos h2]; exact ⟨t3, by congr 1; omega⟩
    · rw [if_neg h2]; exact ⟨t2, by congr 1; omega⟩
  · rw [if_neg h1]
    by_cases h2 : c < a
    · rw [if_pos h2]; exact ⟨t3, by congr 1; omega⟩
    · rw [if_neg h2]; exact ⟨t1, by congr 1; omega⟩
theorem cs_min3 {K : PySem.W.Frag} : CallS K .fz rMin3 min3D := by
  intro F H Ha vs ds z Q fh r hz q
  match ds, r, hz with
  | [.int a, .int b, .int c], r, hz =>
    cases hz
    obtain ⟨x, y, w, rfl, r1, r2, r3⟩ := resA3 r
    rw [r1.int, r2.int, r3.int]
    exact ⟨a, b, c, rfl, q _ F H (.refl fh) (Rep.int _)⟩
@[simp] theorem min3_i (a b c : Int) : min3D [.int a, .int b, .int c] = some (.int (min (min a b) c)) := rfl
@[simp] theorem revSD_e (ds : List D) : revSD (.list ds) (.int (-1)) = some (.list ds.reverse) := rfl
@[simp] theorem bExt_e {ρ : Rho} : bExt j f ρ = (f ρ).bind fun d => match d with
  | .list es => (owL ρ[j]?).bind fun ds => if ds.length + es.length ≤ sizeLine then some (.nx (ρ.set j (.ow (.list (ds ++ es))))) else none
  | _ => none := rfl
end
end Q
end

/-! part: Q25 -/
section
set_option Elab.async false
set_option linter.all false
set_option maxRecDepth 100000
set_option maxHeartbeats 4000000
set_option autoImplicit false
namespace Q
open PySem PySem.Spec PySem.Calls PyProof.Rows L2
/-! ### enumerate over a text -/
def IteS (z : Str) : It :=
  ⟨fun i _ => i < z.cps.size, fun i H v H' => ∃ T c, v = .ref T ∧ H T = none ∧ z.cps[i]? = some c ∧ H' = upd H T (.tup [.int (i : Nat), .str ⟨#[c]⟩]), fun i _ => z.cps.size ≤ i⟩
theorem turn_enumS {P : Program} {w : World} {K : PySem.W.Frag} {elts : List Expr} {kk : Nat} {tpos : Pos} (e it : Addr) (z : Str) (t : Tok) :
    Turn P w K (.Tuple elts kk tpos) (IteS z) [e, it] e (fun i h => i ≤ z.cps.size ∧ (∃ old, IsEnum h e it ((i : Nat) : Int) old) ∧ h.IsStrIter it (strIterType z) z t i ∧ e ≠ it) where
  mem := by simp
  obj := fun i h st b hb => by
    obtain ⟨_, ⟨old, he⟩, ⟨o, ho, hc, hd⟩, _⟩ := st
    have e' : b = e ∨ b = it := by simpa using hb
    rcases e' with z | z
    · rw [z]; exact ⟨_, he, fun v q => nomatch q⟩
    · rw [z]; exact ⟨o, ho, fun v q => by rw [hd] at q; cases q⟩
  keep := fun i h h' st k => let ⟨hn, ⟨old, he⟩, ⟨o, ho, r⟩, hne⟩ := st; ⟨hn, ⟨old, k e (by simp) _ he⟩, ⟨o, k it (by simp) o ho, r⟩, hne⟩
  item := by
    intro X hP hw hK hc i pins s σ H E I hf st hg
    subst hP hw hK
    obtain ⟨_, ⟨old, he⟩, hit, hne⟩ := st
    have hlt : i < z.cps.size := hg
    have hel : e < s.heap.objs.size := Heap.lt_size he
    have hil : it < s.heap.objs.size := by obtain ⟨_, q, _⟩ := hit; exact Heap.lt_size q
    have Dr := Draws.text (prog := X.prog) (w := X.w) (A := X.A.in1) (I.ok.hd hc) it z t
    refine wpAny_pyNext_enum_itemD Dr he hit hlt hne (by simp [hne]) fun u' h' tk hP' ho hit' hT hsz hk => ?_
    obtain ⟨c, u, hcx, rfl⟩ := hP'
    refine ⟨_, rfl, wpAny_letOwnedTupleGo_enum (s := { s with heap := h', toks := tk + 1 }) ho fun h'' he' sb => ?_⟩
    have hT2 : h''.get? s.heap.objs.size = some { cls := .type "tuple", data := .seq #[.int i tk, .str ⟨#[c]⟩ u] } := (sb.2 _ (Nat.ne_of_gt hel)).trans hT
    have new : ObjOk X.prog X.w (upd H s.heap.objs.size (.tup [.int (i : Nat), .str ⟨#[c]⟩])) h'' s.heap.objs.size (.tup [.int (i : Nat), .str ⟨#[c]⟩]) :=
      ⟨by show 2 ≤ sizeLine; decide, [.int i tk, .str ⟨#[c]⟩ u], .cons ⟨_, rfl⟩ (.cons ⟨_, rfl⟩ .nil), ⟨_, hT2, rfl, _, rfl⟩⟩
    have I1 : Inv X pins σ (upd H s.heap.objs.size (.tup [.int (i : Nat), .str ⟨#[c]⟩])) { s with heap := h'', toks := tk + 1 } :=
      I.turnedNew (ch := [e, it]) (fun b ob hb q => (sb.2 b (fun z => hb (by simp [z]))).trans (hk b ob (fun z => hb (by simp [z])) (fun z => hb (by simp [z])) q)) hf (Nat.le_refl _) new
    refine ⟨.ref s.heap.objs.size, _, I1, rfl, ⟨_, c, rfl, I.hok.fresh (Nat.le_refl _), hcx, rfl⟩, ⟨hlt, ⟨.str ⟨#[c]⟩ u, ?_⟩, ?_, hne⟩, fun b hb => ?_⟩
    · have e1 : ((i + 1 : Nat) : Int) = (i : Int) + 1 := by omega
      rw [e1]; exact he'
    · obtain ⟨o, ho', r⟩ := hit'
      exact ⟨o, (sb.2 it (Ne.symm hne)).trans ho', r⟩
    · have hb' : b < s.heap.objs.size := by
        have e' : b = e ∨ b = it := by simpa using hb
        rcases e' with z | z
        · rw [z]; exact hel
        · rw [z]; exact hil
      rw [upd_ne (Nat.ne_of_lt hb')]
      exact (hf b hb).1
  done := by
    intro X hP hw hK hc i pins s σ H E I hf st hg
    subst hP hw hK
    obtain ⟨hin, ⟨old, he⟩, hit, hne⟩ := st
    have hge : z.cps.size ≤ i := hg
    obtain ⟨f0, f1, f2, f3, f4, f5⟩ := hf it (by simp)
    have Dr := Draws.text (prog := X.prog) (w := X.w) (A := X.A.in1) (I.ok.hd hc) it z t
    have ei : i = z.cps.size := by omega
    subst ei
    exact wpAny_pyNext_enum_endD Dr he hit fun h' eb => ⟨rfl, I.turned (t' := s.toks) (fun b o hb q => eb b o hb q) f0 f1 f3 f4 f5⟩
  self := fun A i s Q E st h => let ⟨_, ⟨_, he⟩, _⟩ := st; wpAny_pyIter_enum he h
def iEnumS (te : TE) : TI := fun σ H R => te σ H fun v H1 => ∃ z, v = .str z ∧ R (IteS z) H1
theorem pi_enumS {X : Cx} {e : Expr} {te : TE} {p pos tpos : Pos} {elts : List Expr} {kk : Nat} (hg : Gl X "enumerate") (hm : X.mg "enumerate" = none) (he : PE X e te) (hs : starEach [e] X.env = (false, eval e X.env) :: starEach [] X.env := by rfl) :
    PI X (.Tuple elts kk tpos) (.Call (.Name "enumerate" p) [e] [] pos) (iEnumS te) := by
  refine ⟨fun pins s σ H R I h => ?_⟩
  refine Call_ (ld_blt I hg hm boot_enumerate (PyProof.Rows.callWith_type1 (args_cons (thn (he.run pins s σ H _ I h) fun u s1 ⟨v, H1, I1, r1, q1⟩ => args_nil ?_) hs) hs rfl))
  obtain ⟨z, ev, q⟩ := q1
  subst ev
  obtain ⟨t, rfl⟩ : ∃ t, u = .str z t := r1
  have fresh2 : ∀ b, b ∈ [s1.heap.objs.size + 1, s1.heap.objs.size] → FpOk X pins H1 b := fun b hb => by
    have e' : b = s1.heap.objs.size + 1 ∨ b = s1.heap.objs.size := by simpa using hb
    have hle : s1.heap.objs.size ≤ b := by
      rcases e' with z | z
      · rw [z]; exact Nat.le_add_right _ _
      · rw [z]; exact Nat.le_refl _
    exact I1.fpOk hle (I1.hok.fresh hle)
  refine enum_begins1 (begins_text z t) trivial fun h' he hit hsz hk => wpAny_pyIter_enum he ?_
  have I2 : Inv X pins σ H1 { s1 with heap := h' } := I1.kept (t' := s1.toks) hk
  exact ⟨s1.heap.objs.size + 1, [s1.heap.objs.size + 1, s1.heap.objs.size], _, _, H1, rfl, I2, turn_enumS (s1.heap.objs.size + 1) s1.heap.objs.size z t, ⟨Nat.zero_le _, ⟨.none, he⟩, ⟨_, hit, rfl, rfl⟩, Nat.succ_ne_self _⟩, fresh2, q⟩
theorem signs_at {z : Str} {i : Nat} {d : D} (h : (signsD z)[i]? = some d) : ∃ c, z.cps[i]? = some c ∧ d = .str ⟨#[c]⟩ := by
  unfold signsD at h
  rw [List.getElem?_map, Option.map_eq_some_iff] at h
  obtain ⟨c, h1, h2⟩ := h
  exact ⟨c, by rw [← h1]; simp, h2.symm⟩
theorem signs_length (z : Str) : (signsD z).length = z.cps.size := by simp [signsD]
theorem iteS_ok {K : PySem.W.Frag} {F : Hp} {z : Str} {st : Hp → Prop} : ItO true K (IteS z) F st (numL 0 (signsD z)) :=
  ⟨fun i F' H' hi s1 s2 s3 => by
    rw [numL_length, signs_length] at hi
    exact hi, fun i d F' H' v H3 hd s1 s2 s3 yy => by
    obtain ⟨T, c, rfl, hT, hc, rfl⟩ := yy
    obtain ⟨dx, h1, rfl⟩ := numL_at hd
    obtain ⟨c', h3, rfl⟩ := signs_at h1
    rw [hc] at h3
    cases h3
    rw [Nat.zero_add]
    exact pair_ok s2 hT (Rep.int _) (Rep.str _), fun i F' H' hi s1 s2 s3 => by
    rw [numL_length, signs_length] at hi
    exact hi⟩
def fEnumS (f : Rho → Option D) : Rho → Option (List D) := fun ρ => (f ρ).bind fun d => match d with
  | .str z => some (numL 0 (signsD z))
  | _ => none
section
variable {X : Cx} {m : Md} {e : Expr} {te : TE} {f : Rho → Option D} {p pos tpos : Pos} {elts : List Expr} {kk : Nat}
theorem sem_enumS {K : PySem.W.Frag} (h : SemE K m te f) : SemI true K .fz (iEnumS te) (fEnumS f) := by
  intro B F H σ ρ ds R rel hf q
  obtain ⟨d, h1, h2⟩ := bind_some hf
  refine h B F H σ ρ d _ rel h1 fun v F1 H1 x1 r1 => ?_
  cases d with
  | str z =>
    cases h2
    exact ⟨z, r1.str, q _ F1 H1 x1 iteS_ok⟩
  | _ => cases h2
theorem di_enumS (hg : Gl X "enumerate") (hm : X.mg "enumerate" = none) (he : DE X m e te f) (hs : starEach [e] X.env = (false, eval e X.env) :: starEach [] X.env := by rfl) :
    DI true X .fz (.Tuple elts kk tpos) (.Call (.Name "enumerate" p) [e] [] pos) (iEnumS te) (fEnumS f) := ⟨pi_enumS hg hm he.p hs, sem_enumS he.s⟩
def enumSD (d : D) : Option (List D) := match d with
  | .str z => some (numL 0 (signsD z))
  | _ => none
@[simp] theorem fEnumS_e {ρ : Rho} : fEnumS f ρ = (f ρ).bind enumSD := rfl
end
end Q
end

/-! part: Q26 -/
section
set_option Elab.async false
set_option linter.all false
set_option maxRecDepth 100000
set_option maxHeartbeats 4000000
set_option autoImplicit false
namespace Q
open PySem PySem.Spec PySem.Calls PyProof.Rows L2
/-! ### dicts whose keys are ints and texts -/
def keyO : D → Option Key
  | .int i => some (.inl i)
  | .str x => some (.inr x)
  | _ => none
theorem keyO_kD (k : Key) : keyO (kD k) = some k := by cases k <;> rfl
def valE (es : List (D × D)) (k : Key) : Option D := (es.find? fun e => decide (keyO e.1 = some k)).map (·.2)
def putE (es : List (D × D)) (k : Key) (d : D) : List (D × D) :=
  if (es.any fun e => decide (keyO e.1 = some k)) = true then es.map (fun e => if keyO e.1 = some k then (e.1, d) else e) else es ++ [(kD k, d)]
section
variable {K : PySem.W.Frag} {F : Hp} {v : V} {d : D} {ks : List (Key × V)} {es : List (D × D)}
theorem rep_key {k : Key} (h : Rep K F v d) (e : keyO d = some k) : v = kV k := by
  cases h with
  | int i => cases e; rfl
  | str x => cases e; rfl
  | _ => cases e
theorem RepK.length : ∀ {ks : List (Key × V)} {es : List (D × D)}, RepK K F ks es → ks.length = es.length
  | _, _, .nil => rfl
  | _, _, .cons _ r => congrArg Nat.succ (RepK.length r)
theorem key_dec (k j : Key) : decide (keyO (kD k) = some j) = decide (k = j) := by rw [keyO_kD]; simp
theorem RepK.val (k : Key) : ∀ {ks : List (Key × V)} {es : List (D × D)}, RepK K F ks es → (valV ks k = none ∧ valE es k = none) ∨ ∃ v d, valV ks k = some v ∧ valE es k = some d ∧ Rep K F v d
  | _, _, .nil => .inl ⟨rfl, rfl⟩
  | _, _, .cons (k := j) h r => by
    unfold valV valE
    rw [List.find?_cons, List.find?_cons]
    dsimp only
    rw [key_dec]
    by_cases c : j = k
    · rw [decide_eq_true c]
      exact .inr ⟨_, _, rfl, rfl, h⟩
    · rw [decide_eq_false c]
      exact RepK.val k r
theorem RepK.any (k : Key) : ∀ {ks : List (Key × V)} {es : List (D × D)}, RepK K F ks es → (ks.any fun e => decide (e.1 = k)) = es.any fun e => decide (keyO e.1 = some k)
  | _, _, .nil => rfl
  | _, _, .cons (k := j) h r => by
    rw [List.any_cons, List.any_cons, RepK.any k r]
    dsimp only
    rw [key_dec]
theorem RepK.repl (k : Key) (h : Rep K F v d) : ∀ {ks : List (Key × V)} {es : List (D × D)}, RepK K F ks es → RepK K F (ks.map fun e => if e.1 = k then (e.1, v) else e) (es.map fun e => if keyO e.1 = some k then (e.1, d) else e)
  | _, _, .nil => .nil
  | _, _, .cons (k := j) q r => by
    rw [List.map_cons, List.map_cons]
    dsimp only
    rw [keyO_kD]
    by_cases c : j = k
    · subst c
      rw [if_pos rfl, if_pos rfl]
      exact .cons h (RepK.repl j h r)
    · rw [if_neg c, if_neg fun z => c (Option.some.inj z)]
      exact .cons q (RepK.repl k h r)
theorem RepK.append : ∀ {ks js : List (Key × V)} {es fs : List (D × D)}, RepK K F ks es → RepK K F js fs → RepK K F (ks ++ js) (es ++ fs)
  | _, _, _, _, .nil, s => s
  | _, _, _, _, .cons h r, s => .cons h (RepK.append r s)
theorem RepK.put (k : Key) (h : Rep K F v d) (r : RepK K F ks es) : RepK K F (putK ks k v) (putE es k d) := by
  unfold putK putE
  rw [r.any k]
  by_cases c : (es.any fun e => decide (keyO e.1 = some k)) = true
  · rw [if_pos c, if_pos c]
    exact r.repl k h
  · rw [if_neg c, if_neg c]
    exact r.append (.cons h .nil)
theorem Res.dict {m : Md} {H0 H : Hp} (h : Res K m H0 F H v (.dict es)) (fh : Same F H) : ∃ a ks, v = .ref a ∧ Rd H a (.dK ks) ∧ RepK K F ks es := by
  rcases h.any with h | ⟨a, rfl, _, o⟩
  · cases h with
    | dct h1 r => exact ⟨_, _, rfl, fh.rd h1, r⟩
  · obtain ⟨ks, e, r⟩ := o
    exact ⟨a, ks, rfl, .of e, r⟩
end
/-! reading -/
def dgetD : D → D → Option D
  | .dict es, y => (keyO y).bind fun k => valE es k
  | _, _ => none
def dinD (r : Bool → Bool) : D → D → Option D
  | y, .dict es => (keyO y).map fun k => .bool (r (valE es k).isSome)
  | _, _ => none
def dget1D : D → D → Option D
  | .dict es, y => (keyO y).map fun k => (valE es k).getD .none
  | _, _ => none
def dget2D : D → D → D → Option D
  | .dict es, y, z => (keyO y).map fun k => (valE es k).getD z
  | _, _, _ => none
section
variable {X : Cx} {m m1 m2 : Md} {o i z : Expr} {td ty tx : TE} {f g h : Rho → Option D} {pos apos cpos : Pos}
theorem dict_of {d : D} {α : Type} {F : List (D × D) → Option α} {x : α} (h : (match d with | .dict es => F es | _ => none) = some x) : ∃ es, d = .dict es ∧ F es = some x := by
  cases d with
  | dict es => exact ⟨es, rfl, h⟩
  | _ => cases h
theorem de_dget (hu : X.A.units + 64 < cLine) (ho : DE X m o td f) (hi : DE X .fz i ty g) (hs : NoSl i := by intro _ _; rfl) : DE X .fz (.Subscript o i pos) (tDGet td ty) (f2 dgetD f g) := by
  refine ⟨pe_dget (by omega) ho.p hi.p hs, fun B F H σ ρ d Q r hf q => ?_⟩
  obtain ⟨d1, h1, h2⟩ := bind_some hf
  obtain ⟨y, h3, h4⟩ := bind_some h2
  cases d1 with
  | dict es =>
    obtain ⟨k, h5, h6⟩ := bind_some (show ((keyO y).bind fun k => valE es k) = some d from h4)
    refine ho.s B F H σ ρ _ _ r h1 fun v F1 H1 x1 r1 => ?_
    refine hi.s B F1 H1 σ ρ y _ (r.ext x1) h3 fun u F2 H2 x2 r2 => ?_
    obtain ⟨a, ks, rfl, rd, rk⟩ := (r1.mono x2).dict x2.s
    have r2 := rep_key r2 h5
    subst r2
    rcases rk.val k with ⟨_, z2⟩ | ⟨w, d', z1, z2, z3⟩
    · rw [z2] at h6; cases h6
    · rw [z2] at h6; cases h6
      exact ⟨a, w, rfl, .inl ⟨ks, k, rd, rfl, z1.symm⟩, q w F2 H2 (x1.trans x2) z3⟩
  | _ => cases h4
theorem sem_din {K : PySem.W.Frag} (r0 : Bool → Bool) (hi : SemE K .fz ty g) (ho : SemE K m td f) : SemE K .fz (fun σ H Q => ty σ H fun y H1 => td σ H1 fun x H2 => ∃ a o, x = .ref a ∧ DGet H2 a y o ∧ Q (.bl (r0 o.isSome)) H2) (f2 (dinD r0) g f) := by
  intro B F H σ ρ d Q r hf q
  obtain ⟨y, h1, h2⟩ := bind_some hf
  obtain ⟨d1, h3, h4⟩ := bind_some h2
  cases d1 with
  | dict es =>
    obtain ⟨k, h5, h6⟩ := Option.map_eq_some_iff.mp (show ((keyO y).map fun k => PyData.bool (r0 (valE es k).isSome)) = some d by cases y <;> exact h4)
    subst h6
    refine hi B F H σ ρ y _ r h1 fun u F1 H1 x1 r1 => ?_
    refine ho B F1 H1 σ ρ _ _ (r.ext x1) h3 fun v F2 H2 x2 r2 => ?_
    obtain ⟨a, ks, rfl, rd, rk⟩ := r2.dict x2.s
    have r1 := rep_key r1 h5
    subst r1
    refine ⟨a, valV ks k, rfl, .inl ⟨ks, k, rd, rfl, rfl⟩, q _ F2 H2 (x1.trans x2) ?_⟩
    rcases rk.val k with ⟨z1, z2⟩ | ⟨w, d', z1, z2, z3⟩
    · rw [z1, z2]; exact Rep.bl _
    · rw [z1, z2]; exact Rep.bl _
  | _ => cases y <;> cases h4
theorem de_din (hu : X.A.units + 64 < cLine) (hi : DE X .fz i ty g) (ho : DE X m o td f) (hm : behindInMarks .In o = false := by rfl) : DE X .fz (.Compare i [.In] [o] pos) (tDIn ty td) (f2 (dinD id) g f) :=
  ⟨pe_cmp (pc_din (by omega) hi.p ho.p) hm, sem_din id hi.s ho.s⟩
theorem de_dnot (hu : X.A.units + 64 < cLine) (hi : DE X .fz i ty g) (ho : DE X m o td f) (hm : behindInMarks .NotIn o = false := by rfl) : DE X .fz (.Compare i [.NotIn] [o] pos) (tDNotIn ty td) (f2 (dinD not) g f) :=
  ⟨pe_cmp (pc_dnotin (by omega) hi.p ho.p) hm, sem_din not hi.s ho.s⟩
theorem dt_din (hu : X.A.units + 64 < cLine) (hi : DE X .fz i ty g) (ho : DE X m o td f) (hm : behindInMarks .In o = false := by rfl) : DT X (.Compare i [.In] [o] pos) (tTest (tDIn ty td)) (fT (f2 (dinD id) g f)) :=
  ⟨pt_cmp (pc_din (by omega) hi.p ho.p) hm, sem_test (sem_din id hi.s ho.s)⟩
theorem dt_dnot (hu : X.A.units + 64 < cLine) (hi : DE X .fz i ty g) (ho : DE X m o td f) (hm : behindInMarks .NotIn o = false := by rfl) : DT X (.Compare i [.NotIn] [o] pos) (tTest (tDNotIn ty td)) (fT (f2 (dinD not) g f)) :=
  ⟨pt_cmp (pc_dnotin (by omega) hi.p ho.p) hm, sem_test (sem_din not hi.s ho.s)⟩
theorem isD_rd {H : Hp} {a : Addr} {ks : List (Key × V)} (h : Rd H a (.dK ks)) : IsD H a := .inl ⟨ks, h⟩
theorem de_dget1 (hu : X.A.units + 64 < cLine) (ho : DE X m o td f) (hi : DE X .fz i ty g) (hm : M1 X o "get" apos i cpos := by exact ⟨rfl, rfl, rfl, rfl⟩) : DE X .fz (.Call (.Attribute o "get" apos) [i] [] cpos) (tDGet1 td ty) (f2 dget1D f g) := by
  refine ⟨pe_dget1 (by omega) ho.p hi.p hm, fun B F H σ ρ d Q r hf q => ?_⟩
  obtain ⟨d1, h1, h2⟩ := bind_some hf
  obtain ⟨y, h3, h4⟩ := bind_some h2
  cases d1 with
  | dict es =>
    obtain ⟨k, h5, h6⟩ := Option.map_eq_some_iff.mp (show ((keyO y).map fun k => (valE es k).getD .none) = some d from h4)
    subst h6
    refine ho.s B F H σ ρ _ _ r h1 fun v F1 H1 x1 r1 => ?_
    obtain ⟨a, ks, rfl, rd, rk⟩ := r1.dict x1.s
    refine ⟨a, rfl, isD_rd rd, ?_⟩
    refine hi.s B F1 H1 σ ρ y _ (r.ext x1) h3 fun u F2 H2 x2 r2 => ?_
    have r2 := rep_key r2 h5
    subst r2
    refine ⟨valV ks k, .inl ⟨ks, k, x2.h.rd rd, rfl, rfl⟩, q _ F2 H2 (x1.trans x2) ?_⟩
    rcases rk.val k with ⟨z1, z2⟩ | ⟨w, d', z1, z2, z3⟩
    · rw [z1, z2]; exact Rep.non
    · rw [z1, z2]; exact z3.mono x2.f
  | _ => cases h4
def fGet2 (f g h : Rho → Option D) : Rho → Option D := fun ρ => (f ρ).bind fun d => (g ρ).bind fun y => (h ρ).bind fun z => dget2D d y z
theorem de_dget2 (hu : X.A.units + 64 < cLine) (ho : DE X m o td f) (hi : DE X .fz i ty g) (hz : DE X .fz z tx h) (hm : M2 X o "get" apos i z cpos := by exact ⟨rfl, rfl, rfl, rfl⟩) :
    DE X .fz (.Call (.Attribute o "get" apos) [i, z] [] cpos) (tDGet2 td ty tx) (fGet2 f g h) := by
  refine ⟨pe_dget2 (by omega) ho.p hi.p hz.p hm, fun B F H σ ρ d Q r hf q => ?_⟩
  obtain ⟨d1, h1, h2⟩ := bind_some hf
  obtain ⟨y, h3, h4⟩ := bind_some h2
  obtain ⟨e, h7, h8⟩ := bind_some h4
  cases d1 with
  | dict es =>
    obtain ⟨k, h5, h6⟩ := Option.map_eq_some_iff.mp (show ((keyO y).map fun k => (valE es k).getD e) = some d from h8)
    subst h6
    refine ho.s B F H σ ρ _ _ r h1 fun v F1 H1 x1 r1 => ?_
    obtain ⟨a, ks, rfl, rd, rk⟩ := r1.dict x1.s
    refine ⟨a, rfl, isD_rd rd, ?_⟩
    refine hi.s B F1 H1 σ ρ y _ (r.ext x1) h3 fun u F2 H2 x2 r2 => ?_
    refine hz.s B F2 H2 σ ρ e _ ((r.ext x1).ext x2) h7 fun w0 F3 H3 x3 r3 => ?_
    have r2 := rep_key r2 h5
    subst r2
    refine ⟨valV ks k, .inl ⟨ks, k, x3.h.rd (x2.h.rd rd), rfl, rfl⟩, q _ F3 H3 ((x1.trans x2).trans x3) ?_⟩
    rcases rk.val k with ⟨z1, z2⟩ | ⟨w, d', z1, z2, z3⟩
    · rw [z1, z2]; exact r3
    · rw [z1, z2]; exact (z3.mono x2.f).mono x3.f
  | _ => cases h8
end
/-! new dicts -/
section
variable {X : Cx} {k v : Expr} {tk tv : TE} {f g : Rho → Option D} {pos : Pos}
theorem de_dnew : DE X .fr (.Dict [] [] pos) tDNewK (cD (.dict [])) := ⟨pe_dnewK, fun B F H σ ρ d Q r hf q p hp => by
  cases hf
  have hF : F p = none := r.fh.free hp
  refine q _ F _ ⟨.refl _, same_upd hp, .refl, fun b u z => ?_⟩ ⟨p, rfl, hp, hF, [], upd_same, .nil⟩
  rw [upd_ne (ne_of_none z hF)]; exact r.fh b u z⟩
def disp1D (y d : D) : Option D := (keyO y).map fun k => .dict [(kD k, d)]
theorem de_disp1 (hk : DE X .fz k tk f) (hv : DE X .fz v tv g) : DE X .fr (.Dict [some k] [v] pos) (tDisp [(tk, tv)]) (f2 disp1D f g) := by
  refine ⟨pe_disp (pps_cons hk.p hv.p pps_nil) rfl rfl (by simp) (by simp), fun B F H σ ρ d Q r hf q p hp => ?_⟩
  obtain ⟨y, h1, h2⟩ := bind_some hf
  obtain ⟨e, h3, h4⟩ := bind_some h2
  obtain ⟨j, h5, h6⟩ := Option.map_eq_some_iff.mp (show ((keyO y).map fun k => PyData.dict [(kD k, e)]) = some d from h4)
  subst h6
  have hF : F p = none := r.fh.free hp
  have xx : Ext F H F (upd H p (.dK [])) := ⟨.refl _, same_upd hp, .refl, fun b u z => by rw [upd_ne (ne_of_none z hF)]; exact r.fh b u z⟩
  refine hk.s B F _ σ ρ y _ (r.ext xx) h1 fun u F1 H1 x1 r1 => ?_
  refine hv.s B F1 H1 σ ρ e _ ((r.ext xx).ext x1) h3 fun w F2 H2 x2 r2 => ?_
  have r1 := rep_key r1 h5
  subst r1
  have e1 : H2 p = some (.dK []) := x2.h _ _ (x1.h _ _ upd_same)
  have f1 : F1 p = none := x1.keepNone hF (by rw [upd_same]; exact fun z => nomatch z)
  have f2 : F2 p = none := x2.keepNone f1 (by rw [x1.h _ _ upd_same]; exact fun z => nomatch z)
  have x3 := (xx.trans x1).trans x2
  refine ⟨e1, [(j, w)], rfl, by simp, q _ F2 _ ⟨x3.f, fun b u z => ?_, x3.n, fun b u z => ?_⟩ ⟨p, rfl, hp, f2, [(j, w)], ?_, .cons r2 .nil⟩⟩
  · rw [upd_ne (ne_of_none z hp)]; exact x3.h b u z
  · rw [upd_ne (ne_of_none z f2)]; exact x3.s b u z
  · rw [upd_same]; rfl
end
/-! writing -/
def dcL : Option Sl → Option (List (D × D))
  | some (.ow (.dict es)) => some es
  | _ => none
@[simp] theorem dcL_ow {es : List (D × D)} : dcL (some (.ow (.dict es))) = some es := rfl
def bDput (j : Nat) (fk fv : Rho → Option D) : Bd := fun ρ => (fv ρ).bind fun d => (dcL ρ[j]?).bind fun es => (fk ρ).bind fun y => (keyO y).bind fun k => if es.length < sizeLine then some (.nx (ρ.set j (.ow (.dict (putE es k d))))) else none
theorem dcL_some {s : Option Sl} {es : List (D × D)} (h : dcL s = some es) : s = some (.ow (.dict es)) := by
  unfold dcL at h
  split at h
  · cases h; rfl
  · cases h
theorem sem_dput {K : PySem.W.Frag} {m : Md} {j : Nat} {tk tv : TE} {fk fv : Rho → Option D} (hk : SemE K .fz tk fk) (hv : SemE K .fz tv fv) : SemS K m [] (sDPut (tVar j) tk tv) (bDput j fk fv) := by
  intro B F H σ ρ o D r hb q
  obtain ⟨d, h1, h2⟩ := bind_some hb
  obtain ⟨es, h3, h4⟩ := bind_some h2
  obtain ⟨y, h5, h6⟩ := bind_some h4
  obtain ⟨k, h7, h8⟩ := bind_some h6
  obtain ⟨hl, rfl⟩ := if_some h8
  have h3 := dcL_some h3
  refine hv B F H σ ρ d _ r h1 fun v F1 H1 x1 r1 => ?_
  obtain ⟨oo, e1, a, rfl, hF, hG, ks, e2, rk⟩ := (r.ext x1).at h3
  refine ⟨.ref a, e1, ?_⟩
  refine hk B F1 H1 σ ρ y _ (r.ext x1) h5 fun u F2 H2 x2 r2 => ?_
  have r2 := rep_key r2 h7
  subst r2
  have hF2 : F2 a = none := x2.keepNone hF (by rw [e2]; exact fun z => nomatch z)
  refine ⟨a, _, rfl, DPut.k (x2.h _ _ e2) (by rw [rk.length]; exact hl), ?_⟩
  exact q σ F2 _ (((r.ext x1).ext x2).write h3 e1 hF2 hG ⟨putK ks k v, upd_same, (rk.mono x2.f).put k (Rep.mono x2.f r1)⟩) fun _ _ => rfl
theorem ds_dput {X : Cx} {m : Md} {j : Nat} {x : Str} {pn pos pos' : Pos} {i e : Expr} {tk tv : TE} {fk fv : Rho → Option D} (hu : X.A.units + 64 < cLine) (hk : DE X .fz i tk fk) (hv : DE X .fz e tv fv) (hN : X.N[j]? = some x := by rfl)
    (hvs : Vis X.env.scope x := by first | exact Or.inl rfl | exact Or.inr (Or.inl rfl) | exact Or.inr (Or.inr rfl)) (hd : (x == ("__debug__" : Str)) = false := by decide) (hcd : (x == ("__classdict__" : Str)) = false := by decide)
    (hs : swapsWith e (some (.Subscript (.Name x pn) i pos')) pos.line X.env = pure false := by rfl) :
    DS X m [] (.Assign [.Subscript (.Name x pn) i pos'] e pos) (sDPut (tVar j) tk tv) (bDput j fk fv) :=
  ⟨ps_dput (by omega) (pe_var hN hvs hd hcd) hk.p hv.p hs, sem_dput hk.s hv.s⟩
@[simp] theorem fGet2_e {f g h : Rho → Option D} {ρ : Rho} : fGet2 f g h ρ = (f ρ).bind fun d => (g ρ).bind fun y => (h ρ).bind fun z => dget2D d y z := rfl
@[simp] theorem bDput_e {j : Nat} {fk fv : Rho → Option D} {ρ : Rho} : bDput j fk fv ρ = (fv ρ).bind fun d => (dcL ρ[j]?).bind fun es => (fk ρ).bind fun y => (keyO y).bind fun k => if es.length < sizeLine then some (.nx (ρ.set j (.ow (.dict (putE es k d))))) else none := rfl
end Q
end

/-! part: Q27 -/
section
set_option Elab.async false
set_option linter.all false
set_option maxRecDepth 100000
set_option maxHeartbeats 4000000
set_option autoImplicit false
namespace Q
open PySem PySem.Spec PySem.Calls PyProof.Rows L2
/-! ### x[::-1], a text -/
theorem rev_pick {α : Type} (items : Array α) : ((List.range items.size).map fun k => items.size - 1 - k).filterMap (fun j => items[j]?) = items.toList.reverse := by
  rw [List.filterMap_map]
  have key : (List.range items.size).filterMap ((fun j => items[j]?) ∘ fun k => items.size - 1 - k) = (List.range items.size).filterMap fun k => items.toList.reverse[k]? := by
    refine fm_congr ?_
    intro k hk
    have := List.mem_range.mp hk
    show items[items.size - 1 - k]? = _
    rw [List.getElem?_reverse (by simpa using this)]
    simp
  rw [key]
  have : items.size = items.toList.reverse.length := by simp
  rw [this]
  generalize items.toList.reverse = l
  induction l with
  | nil => rfl
  | cons x l ih =>
    rw [List.length_cons, List.range_succ_eq_map, List.filterMap_cons]
    simp only [List.getElem?_cons_zero, List.filterMap_map]
    congr 1
theorem sidx_rev (n : Nat) : Builtin.Str.strSliceIndices none none (-1) n = (List.range n).map fun k => n - 1 - k := by
  rw [← range_rev]
  rfl
def revS (z : Str) : Str := ⟨z.cps.toList.reverse.toArray⟩
def tRevT (te tc : TE) : TE := fun σ H Q => te σ H fun x H1 => tc σ H1 fun y H2 => ∃ z, x = .str z ∧ y = .int (-1) ∧ z.length ≤ sizeLine ∧ Q (.str (revS z)) H2
section
variable {X : Cx} {m m1 : Md} {e c : Expr} {te tc : TE} {f g : Rho → Option D} {p2 pos : Pos}
theorem pe_revT (he : PE X e te) (hc : PE X c tc) : PE X (.Subscript e (.Slice none none (some c) p2) pos) (tRevT te tc) := by
  refine ⟨fun pins s σ H Q I h => ?_⟩
  refine Subscript_ (thn (he.run pins s σ H _ I h) fun v s1 ⟨x, H1, I1, r1, q1⟩ => ?_)
  refine wpAny_Slice ?_
  rw [evalPart_none]
  refine wpAny_pure (wpAny_pure ?_)
  rw [evalPart_some]
  refine thn (hc.run pins s1 σ H1 _ I1 q1) fun u s2 ⟨y, H2, I2, r2, z, ex, ey, hz, q2⟩ => ?_
  subst ey; subst ex
  obtain ⟨t1, rfl⟩ := r1
  obtain ⟨t, rfl⟩ := r2
  have I4 : Inv X pins σ H2 { s2 with heap := s2.heap.push { cls := .type "slice", data := .fields #[.none, .none, .int (-1) t] } } := I2.kept (t' := s2.toks) fun b ob q => Heap.get?_push_of_some _ q
  show wpAny (model X.prog X.w) X.A (subscriptTail e (.Slice none none (some c) p2) (.str z t1) (.ref s2.heap.objs.size)) (EP X pins σ Q) X.xe { s2 with heap := s2.heap.push { cls := .type "slice", data := .fields #[.none, .none, .int (-1) t] } }
  refine tail_any (ops := [.str z t1, .ref s2.heap.objs.size]) (typeIs_str _ _ _) F.slot_str_getitem.lookup ?_ (by with_unfolding_all rfl)
  refine wpAny_getItem_str_slice (l := none) (u := none) (st := some (-1, t)) ⟨_, Heap.get?_push_size _ rfl, rfl, rfl⟩ rfl ?_
  have hrev : ((Builtin.Str.strSliceIndices none none (-1) z.length).filterMap (z.cps[·]?)).toArray = z.cps.toList.reverse.toArray := by
    rw [sidx_rev]
    exact congrArg List.toArray (rev_pick z.cps)
  show Made.post (Made.str ⟨((Builtin.Str.strSliceIndices none none (-1) z.length).filterMap (z.cps[·]?)).toArray⟩) (EP X pins σ Q) _
  rw [hrev]
  refine ⟨?_, .str (revS z), H2, I4.tok _, ⟨_, rfl⟩, q2⟩
  show (z.cps.toList.reverse.toArray).size ≤ sizeLine
  have : z.cps.size ≤ sizeLine := hz
  simpa using this
def revTD (d c : D) : Option D := match d, c with
  | .str z, .int i => if i = -1 ∧ z.length ≤ sizeLine then some (.str (revS z)) else none
  | _, _ => none
theorem de_revT (he : DE X m e te f) (hc : DE X m1 c tc g) : DE X .fz (.Subscript e (.Slice none none (some c) p2) pos) (tRevT te tc) (f2 revTD f g) := ⟨pe_revT he.p hc.p, fun B F H σ ρ z Q r hf q => by
  obtain ⟨d, h1, h2⟩ := bind_some hf
  obtain ⟨i, h3, h4⟩ := bind_some h2
  refine he.s B F H σ ρ d _ r h1 fun v F1 H1 x1 r1 => ?_
  refine hc.s B F1 H1 σ ρ i _ (r.ext x1) h3 fun w F2 H2 x2 r2 => ?_
  match d, i, h4, r1, r2 with
  | .str x, .int i, h4, r1, r2 =>
    obtain ⟨⟨hn, hl⟩, rfl⟩ := if_some (show (if i = -1 ∧ x.length ≤ sizeLine then some (PyData.str (revS x)) else none) = some z from h4)
    subst hn
    exact ⟨x, r1.str, r2.int, hl, q _ F2 H2 (x1.trans x2) (Rep.str _)⟩⟩
end
end Q
end

/-! part: HeadK36 -/
section
set_option Elab.async false
set_option linter.all false
set_option maxRecDepth 100000
set_option maxHeartbeats 0
namespace Hd
open PySem PySem.Spec PyProof.Rows L2
def top (i : Nat) : Stmt := PySem.Challenge.pw_playground_k36_words_near_and_ladders.main.body.getD i (.Pass ⟨0, 0, 0, 0⟩)
abbrev s_need : Stmt := top 5
abbrev s_is_int : Stmt := top 6
abbrev s_is_seq : Stmt := top 7
abbrev s_is_within : Stmt := top 8
abbrev s_need_within : Stmt := top 9
abbrev s_is_name : Stmt := top 10
abbrev s_rank_key : Stmt := top 11
abbrev s_is_rising : Stmt := top 12
abbrev s_is_told : Stmt := top 13
abbrev s_to_row : Stmt := top 14
abbrev s_to_names : Stmt := top 15
abbrev s_to_rising_names : Stmt := top 16
abbrev s_to_member : Stmt := top 17
abbrev s_to_word : Stmt := top 21
abbrev s_to_words : Stmt := top 22
abbrev s_to_heard : Stmt := top 23
abbrev s_gap_of : Stmt := top 24
abbrev s_floor_of : Stmt := top 25
abbrev s_started : Stmt := top 26
abbrev s_nearest_start : Stmt := top 27
abbrev s_web : Stmt := top 28
abbrev s_steps_to : Stmt := top 29
abbrev s_ladder : Stmt := top 30
abbrev s_to_closed : Stmt := top 31
abbrev s_ladders_closed : Stmt := top 32
abbrev s_safe : Stmt := top 33
abbrev s_heard_as : Stmt := top 34
abbrev s_is_slip : Stmt := top 35
abbrev s_slipped : Stmt := top 36
abbrev s_told_on : Stmt := top 37
abbrev s_rounds : Stmt := top 38
abbrev s_backwards : Stmt := top 39
abbrev s_shared : Stmt := top 40
abbrev s__law_cell : Stmt := top 42
abbrev s__law_numbers : Stmt := top 43
abbrev s__law_listed : Stmt := top 44
abbrev s__law_same : Stmt := top 45
abbrev s__law_subsets : Stmt := top 46
abbrev s__law_word : Stmt := top 47
abbrev s__law_gap : Stmt := top 48
abbrev s__law_words : Stmt := top 49
abbrev s__law_ladder : Stmt := top 50
abbrev s__law_rounds : Stmt := top 51
abbrev s__law_made : Stmt := top 52
abbrev s__law_shared : Stmt := top 53
abbrev s_law : Stmt := top 54
def d_need : He.DefD := ⟨("need", none), "need", "need", defArgs s_need, defBody s_need, defScope s_need, [], []⟩
def d_is_int : He.DefD := ⟨("is_int", none), "is_int", "is_int", defArgs s_is_int, defBody s_is_int, defScope s_is_int, [], []⟩
def d_is_seq : He.DefD := ⟨("is_seq", none), "is_seq", "is_seq", defArgs s_is_seq, defBody s_is_seq, defScope s_is_seq, [], []⟩
def d_is_within : He.DefD := ⟨("is_within", none), "is_within", "is_within", defArgs s_is_within, defBody s_is_within, defScope s_is_within, [], []⟩
def d_need_within : He.DefD := ⟨("need_within", none), "need_within", "need_within", defArgs s_need_within, defBody s_need_within, defScope s_need_within, [], []⟩
def d_is_name : He.DefD := ⟨("is_name", none), "is_name", "is_name", defArgs s_is_name, defBody s_is_name, defScope s_is_name, [], []⟩
def d_rank_key : He.DefD := ⟨("rank_key", none), "rank_key", "rank_key", defArgs s_rank_key, defBody s_rank_key, defScope s_rank_key, [], []⟩
def d_is_rising : He.DefD := ⟨("is_rising", none), "is_rising", "is_rising", defArgs s_is_rising, defBody s_is_rising, defScope s_is_rising, [], []⟩
def d_is_told : He.DefD := ⟨("is_told", none), "is_told", "is_told", defArgs s_is_told, defBody s_is_told, defScope s_is_told, [], []⟩
def d_to_row : He.DefD := ⟨("to_row", none), "to_row", "to_row", defArgs s_to_row, defBody s_to_row, defScope s_to_row, [], []⟩
def d_to_names : He.DefD := ⟨("to_names", none), "to_names", "to_names", defArgs s_to_names, defBody s_to_names, defScope s_to_names, [], []⟩
def d_to_rising_names : He.DefD := ⟨("to_rising_names", none), "to_rising_names", "to_rising_names", defArgs s_to_rising_names, defBody s_to_rising_names, defScope s_to_rising_names, [], []⟩
def d_to_member : He.DefD := ⟨("to_member", none), "to_member", "to_member", defArgs s_to_member, defBody s_to_member, defScope s_to_member, [], []⟩
def d_to_word : He.DefD := ⟨("to_word", none), "to_word", "to_word", defArgs s_to_word, defBody s_to_word, defScope s_to_word, [], []⟩
def d_to_words : He.DefD := ⟨("to_words", none), "to_words", "to_words", defArgs s_to_words, defBody s_to_words, defScope s_to_words, [], []⟩
def d_to_heard : He.DefD := ⟨("to_heard", none), "to_heard", "to_heard", defArgs s_to_heard, defBody s_to_heard, defScope s_to_heard, [], []⟩
def d_gap_of : He.DefD := ⟨("gap_of", none), "gap_of", "gap_of", defArgs s_gap_of, defBody s_gap_of, defScope s_gap_of, [], []⟩
def d_floor_of : He.DefD := ⟨("floor_of", none), "floor_of", "floor_of", defArgs s_floor_of, defBody s_floor_of, defScope s_floor_of, [], []⟩
def d_started : He.DefD := ⟨("started", none), "started", "started", defArgs s_started, defBody s_started, defScope s_started, [], []⟩
def d_nearest_start : He.DefD := ⟨("nearest_start", none), "nearest_start", "nearest_start", defArgs s_nearest_start, defBody s_nearest_start, defScope s_nearest_start, [], []⟩
def d_web : He.DefD := ⟨("web", none), "web", "web", defArgs s_web, defBody s_web, defScope s_web, [], []⟩
def d_steps_to : He.DefD := ⟨("steps_to", none), "steps_to", "steps_to", defArgs s_steps_to, defBody s_steps_to, defScope s_steps_to, [], []⟩
def d_ladder : He.DefD := ⟨("ladder", none), "ladder", "ladder", defArgs s_ladder, defBody s_ladder, defScope s_ladder, [], []⟩
def d_to_closed : He.DefD := ⟨("to_closed", none), "to_closed", "to_closed", defArgs s_to_closed, defBody s_to_closed, defScope s_to_closed, [], []⟩
def d_ladders_closed : He.DefD := ⟨("ladders_closed", none), "ladders_closed", "ladders_closed", defArgs s_ladders_closed, defBody s_ladders_closed, defScope s_ladders_closed, [], []⟩
def d_safe : He.DefD := ⟨("safe", none), "safe", "safe", defArgs s_safe, defBody s_safe, defScope s_safe, [], []⟩
def d_heard_as : He.DefD := ⟨("heard_as", none), "heard_as", "heard_as", defArgs s_heard_as, defBody s_heard_as, defScope s_heard_as, [], []⟩
def d_is_slip : He.DefD := ⟨("is_slip", none), "is_slip", "is_slip", defArgs s_is_slip, defBody s_is_slip, defScope s_is_slip, [], []⟩
def d_slipped : He.DefD := ⟨("slipped", none), "slipped", "slipped", defArgs s_slipped, defBody s_slipped, defScope s_slipped, [], []⟩
def d_told_on : He.DefD := ⟨("told_on", none), "told_on", "told_on", defArgs s_told_on, defBody s_told_on, defScope s_told_on, [], []⟩
def d_rounds : He.DefD := ⟨("rounds", none), "rounds", "rounds", defArgs s_rounds, defBody s_rounds, defScope s_rounds, [], []⟩
def d_backwards : He.DefD := ⟨("backwards", none), "backwards", "backwards", defArgs s_backwards, defBody s_backwards, defScope s_backwards, [], []⟩
def d_shared : He.DefD := ⟨("shared", none), "shared", "shared", defArgs s_shared, defBody s_shared, defScope s_shared, [], []⟩
def d__law_cell : He.DefD := ⟨("_law_cell", none), "_law_cell", "_law_cell", defArgs s__law_cell, defBody s__law_cell, defScope s__law_cell, [], []⟩
def d__law_numbers : He.DefD := ⟨("_law_numbers", none), "_law_numbers", "_law_numbers", defArgs s__law_numbers, defBody s__law_numbers, defScope s__law_numbers, [], []⟩
def d__law_listed : He.DefD := ⟨("_law_listed", none), "_law_listed", "_law_listed", defArgs s__law_listed, defBody s__law_listed, defScope s__law_listed, [], []⟩
def d__law_same : He.DefD := ⟨("_law_same", none), "_law_same", "_law_same", defArgs s__law_same, defBody s__law_same, defScope s__law_same, [], []⟩
def d__law_subsets : He.DefD := ⟨("_law_subsets", none), "_law_subsets", "_law_subsets", defArgs s__law_subsets, defBody s__law_subsets, defScope s__law_subsets, [], []⟩
def d__law_word : He.DefD := ⟨("_law_word", none), "_law_word", "_law_word", defArgs s__law_word, defBody s__law_word, defScope s__law_word, [], []⟩
def d__law_gap : He.DefD := ⟨("_law_gap", none), "_law_gap", "_law_gap", defArgs s__law_gap, defBody s__law_gap, defScope s__law_gap, [], []⟩
def d__law_words : He.DefD := ⟨("_law_words", none), "_law_words", "_law_words", defArgs s__law_words, defBody s__law_words, defScope s__law_words, [], []⟩
def d__law_ladder : He.DefD := ⟨("_law_ladder", none), "_law_ladder", "_law_ladder", defArgs s__law_ladder, defBody s__law_ladder, defScope s__law_ladder, [], []⟩
def d__law_rounds : He.DefD := ⟨("_law_rounds", none), "_law_rounds", "_law_rounds", defArgs s__law_rounds, defBody s__law_rounds, defScope s__law_rounds, [], []⟩
def d__law_made : He.DefD := ⟨("_law_made", none), "_law_made", "_law_made", defArgs s__law_made, defBody s__law_made, defScope s__law_made, [], []⟩
def d__law_shared : He.DefD := ⟨("_law_shared", none), "_law_shared", "_law_shared", defArgs s__law_shared, defBody s__law_shared, defScope s__law_shared, [], []⟩
def d_law : He.DefD := ⟨("law", none), "law", "law", defArgs s_law, defBody s_law, defScope s_law, [], []⟩
def fn_0 : List He.DefD := [d_need, d_is_int, d_is_seq, d_is_within, d_need_within, d_is_name, d_rank_key, d_is_rising, d_is_told, d_to_row, d_to_names, d_to_rising_names, d_to_member, d_to_word, d_to_words, d_to_heard, d_gap_of, d_floor_of, d_started, d_nearest_start]
def fn_1 : List He.DefD := [d_web, d_steps_to, d_ladder, d_to_closed, d_ladders_closed, d_safe, d_heard_as, d_is_slip, d_slipped, d_told_on, d_rounds, d_backwards, d_shared, d__law_cell, d__law_numbers, d__law_listed, d__law_same, d__law_subsets, d__law_word, d__law_gap]
def fn_2 : List He.DefD := [d__law_words, d__law_ladder, d__law_rounds, d__law_made, d__law_shared, d_law]
def fn : List He.DefD := fn_0 ++ fn_1 ++ fn_2
def fa_0 : List He.Fa := [.glo "need", .glo "is_int", .glo "is_seq", .glo "is_within", .glo "need_within", .glo "is_name", .glo "rank_key", .glo "is_rising", .glo "is_told", .glo "to_row", .glo "to_names", .glo "to_rising_names", .glo "to_member", .glo "to_word", .glo "to_words", .glo "to_heard", .glo "gap_of", .glo "floor_of", .glo "started", .glo "nearest_start"]
def fa_1 : List He.Fa := [.glo "web", .glo "steps_to", .glo "ladder", .glo "to_closed", .glo "ladders_closed", .glo "safe", .glo "heard_as", .glo "is_slip", .glo "slipped", .glo "told_on", .glo "rounds", .glo "backwards", .glo "shared", .glo "_law_cell", .glo "_law_numbers", .glo "_law_listed", .glo "_law_same", .glo "_law_subsets", .glo "_law_word", .glo "_law_gap"]
def fa_2 : List He.Fa := [.glo "_law_words", .glo "_law_ladder", .glo "_law_rounds", .glo "_law_made", .glo "_law_shared", .glo "law", .free "Exception", .free "isinstance", .free "all", .free "bool", .free "int", .free "str", .free "enumerate", .free "tuple", .free "list", .free "min", .free "range", .free "len", .free "sorted", .free "any"]
def fa_3 : List He.Fa := [.free "sum", .free "max", .str "LETTERS" "abcdefghijklmnopqrstuvwxyz", .int "LONGEST" 8]
def fa : List He.Fa := fa_0 ++ fa_1 ++ fa_2 ++ fa_3
abbrev R : PySem.W.OpenRow := PySem.W.OpenLaw.row PySem.Challenge.rw_playground_k36_words_near_and_ladders
def ck : List Q.Ck := [.dat "SORTS" (.tuple [.str "out", .str "in", .str "change"])]
abbrev hk : PySem.W.Hook := Q.hookQ 7 fa fn ck
def ob (s : PySem.W.SharedT) : He.AlD × Bool := Q.obsQ 7 fa fn ck (HandSHeadRun.getT s)
theorem ob_eq (s : PySem.W.SharedT) : ob s = hk.obs s.abs := Q.obsQ_eq (HandSHeadRun.getT_eq s)
def loose_0 : List PySem.Str := ["PlayError", "BadValue", "LETTERS", "need", "is_int", "is_seq", "is_within", "need_within", "is_name", "rank_key", "is_rising", "is_told", "to_row", "to_names", "to_rising_names", "to_member", "SORTS", "LONGEST", "to_word", "to_words"]
def loose_1 : List PySem.Str := ["to_heard", "gap_of", "floor_of", "started", "nearest_start", "web", "steps_to", "ladder", "to_closed", "ladders_closed", "safe", "heard_as", "is_slip", "slipped", "told_on", "rounds", "backwards", "shared", "_law_cell", "_law_numbers"]
def loose_2 : List PySem.Str := ["_law_listed", "_law_same", "_law_subsets", "_law_word", "_law_gap", "_law_words", "_law_ladder", "_law_rounds", "_law_made", "_law_shared"]
def loose : List PySem.Str := loose_0 ++ loose_1 ++ loose_2
theorem run (w : World) : HandSHeadRun.RunEq R (PySem.W.view R.prog [54]) hk ob 4000 loose w := by
  intro os
  kernel_rfl
end Hd
end

/-! part: DenK36 -/
section
set_option Elab.async false
set_option linter.all false
set_option maxRecDepth 100000
set_option maxHeartbeats 0
namespace Hd
open PySem PySem.Spec PySem.Calls PyProof.Rows L2 Q
/-- what the head tells -/
structure Fx (K : PySem.W.Frag) (mg : Str → Option Value) : Prop where
  f__law_word : ∃ fd, FunD K "_law_word" "_law_word" (defArgs s__law_word) (defBody s__law_word) (defScope s__law_word) [] [] (He.ga K "_law_word") fd
  f__law_words : ∃ fd, FunD K "_law_words" "_law_words" (defArgs s__law_words) (defBody s__law_words) (defScope s__law_words) [] [] (He.ga K "_law_words") fd
  f__law_subsets : ∃ fd, FunD K "_law_subsets" "_law_subsets" (defArgs s__law_subsets) (defBody s__law_subsets) (defScope s__law_subsets) [] [] (He.ga K "_law_subsets") fd
  f__law_made : ∃ fd, FunD K "_law_made" "_law_made" (defArgs s__law_made) (defBody s__law_made) (defScope s__law_made) [] [] (He.ga K "_law_made") fd
  f__law_cell : ∃ fd, FunD K "_law_cell" "_law_cell" (defArgs s__law_cell) (defBody s__law_cell) (defScope s__law_cell) [] [] (He.ga K "_law_cell") fd
  f__law_numbers : ∃ fd, FunD K "_law_numbers" "_law_numbers" (defArgs s__law_numbers) (defBody s__law_numbers) (defScope s__law_numbers) [] [] (He.ga K "_law_numbers") fd
  f__law_same : ∃ fd, FunD K "_law_same" "_law_same" (defArgs s__law_same) (defBody s__law_same) (defScope s__law_same) [] [] (He.ga K "_law_same") fd
  f_need : ∃ fd, FunD K "need" "need" (defArgs s_need) (defBody s_need) (defScope s_need) [] [] (He.ga K "need") fd
  f_is_seq : ∃ fd, FunD K "is_seq" "is_seq" (defArgs s_is_seq) (defBody s_is_seq) (defScope s_is_seq) [] [] (He.ga K "is_seq") fd
  f_to_row : ∃ fd, FunD K "to_row" "to_row" (defArgs s_to_row) (defBody s_to_row) (defScope s_to_row) [] [] (He.ga K "to_row") fd
  f_is_name : ∃ fd, FunD K "is_name" "is_name" (defArgs s_is_name) (defBody s_is_name) (defScope s_is_name) [] [] (He.ga K "is_name") fd
  f_to_names : ∃ fd, FunD K "to_names" "to_names" (defArgs s_to_names) (defBody s_to_names) (defScope s_to_names) [] [] (He.ga K "to_names") fd
  f_rank_key : ∃ fd, FunD K "rank_key" "rank_key" (defArgs s_rank_key) (defBody s_rank_key) (defScope s_rank_key) [] [] (He.ga K "rank_key") fd
  f_is_rising : ∃ fd, FunD K "is_rising" "is_rising" (defArgs s_is_rising) (defBody s_is_rising) (defScope s_is_rising) [] [] (He.ga K "is_rising") fd
  f_to_rising_names : ∃ fd, FunD K "to_rising_names" "to_rising_names" (defArgs s_to_rising_names) (defBody s_to_rising_names) (defScope s_to_rising_names) [] [] (He.ga K "to_rising_names") fd
  f_to_words : ∃ fd, FunD K "to_words" "to_words" (defArgs s_to_words) (defBody s_to_words) (defScope s_to_words) [] [] (He.ga K "to_words") fd
  f_gap_of : ∃ fd, FunD K "gap_of" "gap_of" (defArgs s_gap_of) (defBody s_gap_of) (defScope s_gap_of) [] [] (He.ga K "gap_of") fd
  f_to_closed : ∃ fd, FunD K "to_closed" "to_closed" (defArgs s_to_closed) (defBody s_to_closed) (defScope s_to_closed) [] [] (He.ga K "to_closed") fd
  f_ladders_closed : ∃ fd, FunD K "ladders_closed" "ladders_closed" (defArgs s_ladders_closed) (defBody s_ladders_closed) (defScope s_ladders_closed) [] [] (He.ga K "ladders_closed") fd
  f_safe : ∃ fd, FunD K "safe" "safe" (defArgs s_safe) (defBody s_safe) (defScope s_safe) [] [] (He.ga K "safe") fd
  f__law_gap : ∃ fd, FunD K "_law_gap" "_law_gap" (defArgs s__law_gap) (defBody s__law_gap) (defScope s__law_gap) [] [] (He.ga K "_law_gap") fd
  f_to_word : ∃ fd, FunD K "to_word" "to_word" (defArgs s_to_word) (defBody s_to_word) (defScope s_to_word) [] [] (He.ga K "to_word") fd
  f_heard_as : ∃ fd, FunD K "heard_as" "heard_as" (defArgs s_heard_as) (defBody s_heard_as) (defScope s_heard_as) [] [] (He.ga K "heard_as") fd
  f_slipped : ∃ fd, FunD K "slipped" "slipped" (defArgs s_slipped) (defBody s_slipped) (defScope s_slipped) [] [] (He.ga K "slipped") fd
  f_is_int : ∃ fd, FunD K "is_int" "is_int" (defArgs s_is_int) (defBody s_is_int) (defScope s_is_int) [] [] (He.ga K "is_int") fd
  f_is_told : ∃ fd, FunD K "is_told" "is_told" (defArgs s_is_told) (defBody s_is_told) (defScope s_is_told) [] [] (He.ga K "is_told") fd
  f_to_member : ∃ fd, FunD K "to_member" "to_member" (defArgs s_to_member) (defBody s_to_member) (defScope s_to_member) [] [] (He.ga K "to_member") fd
  f_is_within : ∃ fd, FunD K "is_within" "is_within" (defArgs s_is_within) (defBody s_is_within) (defScope s_is_within) [] [] (He.ga K "is_within") fd
  f_is_slip : ∃ fd, FunD K "is_slip" "is_slip" (defArgs s_is_slip) (defBody s_is_slip) (defScope s_is_slip) [] [] (He.ga K "is_slip") fd
  f_told_on : ∃ fd, FunD K "told_on" "told_on" (defArgs s_told_on) (defBody s_told_on) (defScope s_told_on) [] [] (He.ga K "told_on") fd
  f_rounds : ∃ fd, FunD K "rounds" "rounds" (defArgs s_rounds) (defBody s_rounds) (defScope s_rounds) [] [] (He.ga K "rounds") fd
  f__law_rounds : ∃ fd, FunD K "_law_rounds" "_law_rounds" (defArgs s__law_rounds) (defBody s__law_rounds) (defScope s__law_rounds) [] [] (He.ga K "_law_rounds") fd
  f_backwards : ∃ fd, FunD K "backwards" "backwards" (defArgs s_backwards) (defBody s_backwards) (defScope s_backwards) [] [] (He.ga K "backwards") fd
  f_shared : ∃ fd, FunD K "shared" "shared" (defArgs s_shared) (defBody s_shared) (defScope s_shared) [] [] (He.ga K "shared") fd
  f__law_shared : ∃ fd, FunD K "_law_shared" "_law_shared" (defArgs s__law_shared) (defBody s__law_shared) (defScope s__law_shared) [] [] (He.ga K "_law_shared") fd
  f_need_within : ∃ fd, FunD K "need_within" "need_within" (defArgs s_need_within) (defBody s_need_within) (defScope s_need_within) [] [] (He.ga K "need_within") fd
  f_web : ∃ fd, FunD K "web" "web" (defArgs s_web) (defBody s_web) (defScope s_web) [] [] (He.ga K "web") fd
  f_to_heard : ∃ fd, FunD K "to_heard" "to_heard" (defArgs s_to_heard) (defBody s_to_heard) (defScope s_to_heard) [] [] (He.ga K "to_heard") fd
  f_floor_of : ∃ fd, FunD K "floor_of" "floor_of" (defArgs s_floor_of) (defBody s_floor_of) (defScope s_floor_of) [] [] (He.ga K "floor_of") fd
  f_nearest_start : ∃ fd, FunD K "nearest_start" "nearest_start" (defArgs s_nearest_start) (defBody s_nearest_start) (defScope s_nearest_start) [] [] (He.ga K "nearest_start") fd
  f_started : ∃ fd, FunD K "started" "started" (defArgs s_started) (defBody s_started) (defScope s_started) [] [] (He.ga K "started") fd
  f__law_listed : ∃ fd, FunD K "_law_listed" "_law_listed" (defArgs s__law_listed) (defBody s__law_listed) (defScope s__law_listed) [] [] (He.ga K "_law_listed") fd
  f_steps_to : ∃ fd, FunD K "steps_to" "steps_to" (defArgs s_steps_to) (defBody s_steps_to) (defScope s_steps_to) [] [] (He.ga K "steps_to") fd
  f_ladder : ∃ fd, FunD K "ladder" "ladder" (defArgs s_ladder) (defBody s_ladder) (defScope s_ladder) [] [] (He.ga K "ladder") fd
  f__law_ladder : ∃ fd, FunD K "_law_ladder" "_law_ladder" (defArgs s__law_ladder) (defBody s__law_ladder) (defScope s__law_ladder) [] [] (He.ga K "_law_ladder") fd
  f_law : ∃ fd, FunD K "law" "law" (defArgs s_law) (defBody s_law) (defScope s_law) [] [] (He.ga K "law") fd
  g__law_word : mg "_law_word" = some (.ref (He.ga K "_law_word"))
  g__law_words : mg "_law_words" = some (.ref (He.ga K "_law_words"))
  g__law_subsets : mg "_law_subsets" = some (.ref (He.ga K "_law_subsets"))
  g__law_made : mg "_law_made" = some (.ref (He.ga K "_law_made"))
  g__law_cell : mg "_law_cell" = some (.ref (He.ga K "_law_cell"))
  g__law_numbers : mg "_law_numbers" = some (.ref (He.ga K "_law_numbers"))
  g__law_same : mg "_law_same" = some (.ref (He.ga K "_law_same"))
  g_need : mg "need" = some (.ref (He.ga K "need"))
  g_is_seq : mg "is_seq" = some (.ref (He.ga K "is_seq"))
  g_to_row : mg "to_row" = some (.ref (He.ga K "to_row"))
  g_is_name : mg "is_name" = some (.ref (He.ga K "is_name"))
  g_to_names : mg "to_names" = some (.ref (He.ga K "to_names"))
  g_rank_key : mg "rank_key" = some (.ref (He.ga K "rank_key"))
  g_is_rising : mg "is_rising" = some (.ref (He.ga K "is_rising"))
  g_to_rising_names : mg "to_rising_names" = some (.ref (He.ga K "to_rising_names"))
  g_to_words : mg "to_words" = some (.ref (He.ga K "to_words"))
  g_gap_of : mg "gap_of" = some (.ref (He.ga K "gap_of"))
  g_to_closed : mg "to_closed" = some (.ref (He.ga K "to_closed"))
  g_ladders_closed : mg "ladders_closed" = some (.ref (He.ga K "ladders_closed"))
  g_safe : mg "safe" = some (.ref (He.ga K "safe"))
  g__law_gap : mg "_law_gap" = some (.ref (He.ga K "_law_gap"))
  g_to_word : mg "to_word" = some (.ref (He.ga K "to_word"))
  g_heard_as : mg "heard_as" = some (.ref (He.ga K "heard_as"))
  g_slipped : mg "slipped" = some (.ref (He.ga K "slipped"))
  g_is_int : mg "is_int" = some (.ref (He.ga K "is_int"))
  g_is_told : mg "is_told" = some (.ref (He.ga K "is_told"))
  g_to_member : mg "to_member" = some (.ref (He.ga K "to_member"))
  g_is_within : mg "is_within" = some (.ref (He.ga K "is_within"))
  g_is_slip : mg "is_slip" = some (.ref (He.ga K "is_slip"))
  g_told_on : mg "told_on" = some (.ref (He.ga K "told_on"))
  g_rounds : mg "rounds" = some (.ref (He.ga K "rounds"))
  g__law_rounds : mg "_law_rounds" = some (.ref (He.ga K "_law_rounds"))
  g_backwards : mg "backwards" = some (.ref (He.ga K "backwards"))
  g_shared : mg "shared" = some (.ref (He.ga K "shared"))
  g__law_shared : mg "_law_shared" = some (.ref (He.ga K "_law_shared"))
  g_need_within : mg "need_within" = some (.ref (He.ga K "need_within"))
  g_web : mg "web" = some (.ref (He.ga K "web"))
  g_to_heard : mg "to_heard" = some (.ref (He.ga K "to_heard"))
  g_floor_of : mg "floor_of" = some (.ref (He.ga K "floor_of"))
  g_nearest_start : mg "nearest_start" = some (.ref (He.ga K "nearest_start"))
  g_started : mg "started" = some (.ref (He.ga K "started"))
  g__law_listed : mg "_law_listed" = some (.ref (He.ga K "_law_listed"))
  g_steps_to : mg "steps_to" = some (.ref (He.ga K "steps_to"))
  g_ladder : mg "ladder" = some (.ref (He.ga K "ladder"))
  g__law_ladder : mg "_law_ladder" = some (.ref (He.ga K "_law_ladder"))
  g_law : mg "law" = some (.ref (He.ga K "law"))
  n_Exception : mg "Exception" = none
  n_isinstance : mg "isinstance" = none
  n_all : mg "all" = none
  n_bool : mg "bool" = none
  n_int : mg "int" = none
  n_str : mg "str" = none
  n_enumerate : mg "enumerate" = none
  n_tuple : mg "tuple" = none
  n_list : mg "list" = none
  n_min : mg "min" = none
  n_range : mg "range" = none
  n_len : mg "len" = none
  n_sorted : mg "sorted" = none
  n_any : mg "any" = none
  n_sum : mg "sum" = none
  n_max : mg "max" = none
  c_LETTERS : ∃ t, mg "LETTERS" = some (.str "abcdefghijklmnopqrstuvwxyz" t)
  c_LONGEST : ∃ t, mg "LONGEST" = some (.int 8 t)
  k_SORTS : ∃ u v, mg "SORTS" = some u ∧ RelV v u ∧ ∀ F, Rep K F v (.tuple [.str "out", .str "in", .str "change"])
theorem fx_ok {K : PySem.W.Frag} {h : Heap} {mg : Str → Option Value} (X : K.In h) (G : h.Ns mainGlobals mg) (c : He.SaysD fa fn K) (c2 : (ck.all fun c => c.ok K) = true) : Fx K mg where
  f__law_word := c.def_ 38 (d := d__law_word) rfl
  f__law_words := c.def_ 40 (d := d__law_words) rfl
  f__law_subsets := c.def_ 37 (d := d__law_subsets) rfl
  f__law_made := c.def_ 43 (d := d__law_made) rfl
  f__law_cell := c.def_ 33 (d := d__law_cell) rfl
  f__law_numbers := c.def_ 34 (d := d__law_numbers) rfl
  f__law_same := c.def_ 36 (d := d__law_same) rfl
  f_need := c.def_ 0 (d := d_need) rfl
  f_is_seq := c.def_ 2 (d := d_is_seq) rfl
  f_to_row := c.def_ 9 (d := d_to_row) rfl
  f_is_name := c.def_ 5 (d := d_is_name) rfl
  f_to_names := c.def_ 10 (d := d_to_names) rfl
  f_rank_key := c.def_ 6 (d := d_rank_key) rfl
  f_is_rising := c.def_ 7 (d := d_is_rising) rfl
  f_to_rising_names := c.def_ 11 (d := d_to_rising_names) rfl
  f_to_words := c.def_ 14 (d := d_to_words) rfl
  f_gap_of := c.def_ 16 (d := d_gap_of) rfl
  f_to_closed := c.def_ 23 (d := d_to_closed) rfl
  f_ladders_closed := c.def_ 24 (d := d_ladders_closed) rfl
  f_safe := c.def_ 25 (d := d_safe) rfl
  f__law_gap := c.def_ 39 (d := d__law_gap) rfl
  f_to_word := c.def_ 13 (d := d_to_word) rfl
  f_heard_as := c.def_ 26 (d := d_heard_as) rfl
  f_slipped := c.def_ 28 (d := d_slipped) rfl
  f_is_int := c.def_ 1 (d := d_is_int) rfl
  f_is_told := c.def_ 8 (d := d_is_told) rfl
  f_to_member := c.def_ 12 (d := d_to_member) rfl
  f_is_within := c.def_ 3 (d := d_is_within) rfl
  f_is_slip := c.def_ 27 (d := d_is_slip) rfl
  f_told_on := c.def_ 29 (d := d_told_on) rfl
  f_rounds := c.def_ 30 (d := d_rounds) rfl
  f__law_rounds := c.def_ 42 (d := d__law_rounds) rfl
  f_backwards := c.def_ 31 (d := d_backwards) rfl
  f_shared := c.def_ 32 (d := d_shared) rfl
  f__law_shared := c.def_ 44 (d := d__law_shared) rfl
  f_need_within := c.def_ 4 (d := d_need_within) rfl
  f_web := c.def_ 20 (d := d_web) rfl
  f_to_heard := c.def_ 15 (d := d_to_heard) rfl
  f_floor_of := c.def_ 17 (d := d_floor_of) rfl
  f_nearest_start := c.def_ 19 (d := d_nearest_start) rfl
  f_started := c.def_ 18 (d := d_started) rfl
  f__law_listed := c.def_ 35 (d := d__law_listed) rfl
  f_steps_to := c.def_ 21 (d := d_steps_to) rfl
  f_ladder := c.def_ 22 (d := d_ladder) rfl
  f__law_ladder := c.def_ 41 (d := d__law_ladder) rfl
  f_law := c.def_ 45 (d := d_law) rfl
  g__law_word := He.glo_ok X G (c.fact 38 (f := .glo "_law_word") rfl)
  g__law_words := He.glo_ok X G (c.fact 40 (f := .glo "_law_words") rfl)
  g__law_subsets := He.glo_ok X G (c.fact 37 (f := .glo "_law_subsets") rfl)
  g__law_made := He.glo_ok X G (c.fact 43 (f := .glo "_law_made") rfl)
  g__law_cell := He.glo_ok X G (c.fact 33 (f := .glo "_law_cell") rfl)
  g__law_numbers := He.glo_ok X G (c.fact 34 (f := .glo "_law_numbers") rfl)
  g__law_same := He.glo_ok X G (c.fact 36 (f := .glo "_law_same") rfl)
  g_need := He.glo_ok X G (c.fact 0 (f := .glo "need") rfl)
  g_is_seq := He.glo_ok X G (c.fact 2 (f := .glo "is_seq") rfl)
  g_to_row := He.glo_ok X G (c.fact 9 (f := .glo "to_row") rfl)
  g_is_name := He.glo_ok X G (c.fact 5 (f := .glo "is_name") rfl)
  g_to_names := He.glo_ok X G (c.fact 10 (f := .glo "to_names") rfl)
  g_rank_key := He.glo_ok X G (c.fact 6 (f := .glo "rank_key") rfl)
  g_is_rising := He.glo_ok X G (c.fact 7 (f := .glo "is_rising") rfl)
  g_to_rising_names := He.glo_ok X G (c.fact 11 (f := .glo "to_rising_names") rfl)
  g_to_words := He.glo_ok X G (c.fact 14 (f := .glo "to_words") rfl)
  g_gap_of := He.glo_ok X G (c.fact 16 (f := .glo "gap_of") rfl)
  g_to_closed := He.glo_ok X G (c.fact 23 (f := .glo "to_closed") rfl)
  g_ladders_closed := He.glo_ok X G (c.fact 24 (f := .glo "ladders_closed") rfl)
  g_safe := He.glo_ok X G (c.fact 25 (f := .glo "safe") rfl)
  g__law_gap := He.glo_ok X G (c.fact 39 (f := .glo "_law_gap") rfl)
  g_to_word := He.glo_ok X G (c.fact 13 (f := .glo "to_word") rfl)
  g_heard_as := He.glo_ok X G (c.fact 26 (f := .glo "heard_as") rfl)
  g_slipped := He.glo_ok X G (c.fact 28 (f := .glo "slipped") rfl)
  g_is_int := He.glo_ok X G (c.fact 1 (f := .glo "is_int") rfl)
  g_is_told := He.glo_ok X G (c.fact 8 (f := .glo "is_told") rfl)
  g_to_member := He.glo_ok X G (c.fact 12 (f := .glo "to_member") rfl)
  g_is_within := He.glo_ok X G (c.fact 3 (f := .glo "is_within") rfl)
  g_is_slip := He.glo_ok X G (c.fact 27 (f := .glo "is_slip") rfl)
  g_told_on := He.glo_ok X G (c.fact 29 (f := .glo "told_on") rfl)
  g_rounds := He.glo_ok X G (c.fact 30 (f := .glo "rounds") rfl)
  g__law_rounds := He.glo_ok X G (c.fact 42 (f := .glo "_law_rounds") rfl)
  g_backwards := He.glo_ok X G (c.fact 31 (f := .glo "backwards") rfl)
  g_shared := He.glo_ok X G (c.fact 32 (f := .glo "shared") rfl)
  g__law_shared := He.glo_ok X G (c.fact 44 (f := .glo "_law_shared") rfl)
  g_need_within := He.glo_ok X G (c.fact 4 (f := .glo "need_within") rfl)
  g_web := He.glo_ok X G (c.fact 20 (f := .glo "web") rfl)
  g_to_heard := He.glo_ok X G (c.fact 15 (f := .glo "to_heard") rfl)
  g_floor_of := He.glo_ok X G (c.fact 17 (f := .glo "floor_of") rfl)
  g_nearest_start := He.glo_ok X G (c.fact 19 (f := .glo "nearest_start") rfl)
  g_started := He.glo_ok X G (c.fact 18 (f := .glo "started") rfl)
  g__law_listed := He.glo_ok X G (c.fact 35 (f := .glo "_law_listed") rfl)
  g_steps_to := He.glo_ok X G (c.fact 21 (f := .glo "steps_to") rfl)
  g_ladder := He.glo_ok X G (c.fact 22 (f := .glo "ladder") rfl)
  g__law_ladder := He.glo_ok X G (c.fact 41 (f := .glo "_law_ladder") rfl)
  g_law := He.glo_ok X G (c.fact 45 (f := .glo "law") rfl)
  n_Exception := He.free_ok X G (c.fact 46 (f := .free "Exception") rfl)
  n_isinstance := He.free_ok X G (c.fact 47 (f := .free "isinstance") rfl)
  n_all := He.free_ok X G (c.fact 48 (f := .free "all") rfl)
  n_bool := He.free_ok X G (c.fact 49 (f := .free "bool") rfl)
  n_int := He.free_ok X G (c.fact 50 (f := .free "int") rfl)
  n_str := He.free_ok X G (c.fact 51 (f := .free "str") rfl)
  n_enumerate := He.free_ok X G (c.fact 52 (f := .free "enumerate") rfl)
  n_tuple := He.free_ok X G (c.fact 53 (f := .free "tuple") rfl)
  n_list := He.free_ok X G (c.fact 54 (f := .free "list") rfl)
  n_min := He.free_ok X G (c.fact 55 (f := .free "min") rfl)
  n_range := He.free_ok X G (c.fact 56 (f := .free "range") rfl)
  n_len := He.free_ok X G (c.fact 57 (f := .free "len") rfl)
  n_sorted := He.free_ok X G (c.fact 58 (f := .free "sorted") rfl)
  n_any := He.free_ok X G (c.fact 59 (f := .free "any") rfl)
  n_sum := He.free_ok X G (c.fact 60 (f := .free "sum") rfl)
  n_max := He.free_ok X G (c.fact 61 (f := .free "max") rfl)
  c_LETTERS := He.str_ok X G (c.fact 62 (f := .str "LETTERS" "abcdefghijklmnopqrstuvwxyz") rfl)
  c_LONGEST := He.int_ok X G (c.fact 63 (f := .int "LONGEST" 8) rfl)
  k_SORTS := ck_dat X G (ck_at c2 0 rfl)
section
variable {P : Program} {w : World} {K : PySem.W.Frag} {mg : Str → Option Value} {base : Heap}
abbrev N__law_word : List Str := ["n", "k"]
theorem sc__law_word : FnScope N__law_word ["n"] (defScope s__law_word) := ⟨rfl, rfl, rfl, by decide +kernel, rfl, by decide +kernel, by decide +kernel⟩
theorem bi__law_word : ∀ (kV doc pm : Value) (an : Option Addr) (cdv ct : Value) (us : List Value), us.length = (["n"] : List Str).length → bindArgs (PySem.W.fnOf "_law_word" "_law_word" (defArgs s__law_word) (defBody s__law_word) (defScope s__law_word) .none kV doc pm an cdv ct) ⟨us, []⟩ = pure ((["n"] : List Str).zip us) :=
  fun _ _ _ _ _ _ us hl => match us, hl with | [_], _ => rfl
def b__law_word : Bd := bRet (f2 joinD (cD (.str "")) (fLc (fIs rg1D (aCons (f2 addD (cD (.int 1)) (f2 modD (vF 0) (cD (.int 4)))) (aNil))) (sN 1) (fYes) (f2 ixD (cD (.str "abt")) (f2 modD (fB intD (aCons (f2 fdivD (vF 0) (f2 addD (cD (.int 1)) (f2 mulD (cD (.int 4)) (vF 1)))) (aNil))) (cD (.int 3)))) [1]))
def Ph__law_word : List D → Option D := fnB (N__law_word).length (["n"] : List Str).length b__law_word
theorem dd__law_word (Z : Fx K mg) (cdv : Value) (A : Around) (outer : List Env) (s : Shared) (H : Hp) (E : XK) (hr : Room (0) (A.deeper (envOfC "_law_word" (defScope s__law_word) s.heap.objs.size (He.ga K "_law_word") cdv))) :
    ∃ W t, DSs (cxOf CX0 P w K mg base N__law_word "_law_word" (defScope s__law_word) (He.ga K "_law_word") cdv A outer s H E).nox .fz W (defBody s__law_word) t (b__law_word) := ⟨_, _,
  dss_one (ds_ret (de_join K (de_str) (de_lc [("k", 1)] sc__law_word.nd (di_rg1 rfl Z.n_range (da_cons (de_op (op_addAK K) ops_addA (de_int) (de_op op_modN ops_mod (de_v 0) (de_int))) (da_nil))) (blk_of (N := N__law_word) (sc := defScope s__law_word) (by decide +kernel)) (fun _ _ _ _ _ => dg_n sc__law_word.nd (i := 1)) (fun _ _ _ _ _ => dts_nil) (fun _ _ _ _ _ => de_ixK K (de_str) (de_op op_modN ops_mod (de_ct call_int1 cs_int rfl Z.n_int bt_int (da_cons (de_op op_fdivN ops_fdiv (de_v 0) (de_op (op_addAK K) ops_addA (de_int) (de_op op_mul ops_mul (de_int) (de_v 1)))) (da_nil))) (de_int))) (by decide))))⟩
theorem ok__law_word (Z : Fx K mg) : Ok P w K mg base 1 "_law_word" ["n"] .fz Ph__law_word := by
  obtain ⟨fd, F⟩ := Z.f__law_word
  exact ok_fz (P := P) (w := w) (mg := mg) (base := base) (b := b__law_word) (k := 0) (N := N__law_word) F sc__law_word bi__law_word Z.g__law_word (dd__law_word Z)
abbrev N__law_words : List Str := ["numbers", "found", "n", "word"]
theorem sc__law_words : FnScope N__law_words ["numbers"] (defScope s__law_words) := ⟨rfl, rfl, rfl, by decide +kernel, rfl, by decide +kernel, by decide +kernel⟩
def L__law_words_1 : Bd := bSeq (bAsg 3 (fB (Ph__law_word) (aCons (fB intD (aCons (vF 2) (aNil))) (aNil)))) (bIf (fT (f2 notInD (vF 3) (vP 1))) (bApp 1 (vF 3)) (bNext))
theorem bi__law_words : ∀ (kV doc pm : Value) (an : Option Addr) (cdv ct : Value) (us : List Value), us.length = (["numbers"] : List Str).length → bindArgs (PySem.W.fnOf "_law_words" "_law_words" (defArgs s__law_words) (defBody s__law_words) (defScope s__law_words) .none kV doc pm an cdv ct) ⟨us, []⟩ = pure ((["numbers"] : List Str).zip us) :=
  fun _ _ _ _ _ _ us hl => match us, hl with | [_], _ => rfl
def b__law_words : Bd := bSeq (bOwn 1 (fLst (aNil))) (bSeq (bFor (fI (vF 0)) (sN 2) (L__law_words_1)) (bRet (fB tupD (aCons (fB sortedD (aCons (vP 1) (aNil))) (aNil)))))
def Ph__law_words : List D → Option D := fnB (N__law_words).length (["numbers"] : List Str).length b__law_words
theorem dd__law_words (Z : Fx K mg) (cdv : Value) (A : Around) (outer : List Env) (s : Shared) (H : Hp) (E : XK) (hr : Room (1) (A.deeper (envOfC "_law_words" (defScope s__law_words) s.heap.objs.size (He.ga K "_law_words") cdv))) :
    ∃ W t, DSs (cxOf CX0 P w K mg base N__law_words "_law_words" (defScope s__law_words) (He.ga K "_law_words") cdv A outer s H E).nox .fz W (defBody s__law_words) t (b__law_words) := ⟨_, _,
  dss_cons (ds_own (i := 1) (de_lst (da_nil)) sc__law_words.nd) (dss_cons (ds_for (di_anyK K (de_v 0)) (dg_n sc__law_words.nd (i := 2)) (dss_cons (ds_asg (i := 3) (de_fnK K (ok__law_word Z) hr (by omega) rfl (da_cons (de_ct call_int1 cs_int rfl Z.n_int bt_int (da_cons (de_v 2) (da_nil))) (da_nil))) sc__law_words.nd) (dss_one (ds_if (dt_cmp (op_notIn_K K hr.u65) ops_notIn rfl (de_v 3) (de_p 1)) (dss_one (ds_app (j := 1) (de_v 3))) (dss_nil))))) (dss_one (ds_ret (de_ct (cr_tupK K) cs_tup rfl Z.n_tuple bt_tuple (da_cons (de_cb (cr_srtK K hr.u70) cs_srt rfl Z.n_sorted bt_sorted (da_cons (de_p 1) (da_nil))) (da_nil))))))⟩
theorem ok__law_words (Z : Fx K mg) : Ok P w K mg base 2 "_law_words" ["numbers"] .fz Ph__law_words := by
  obtain ⟨fd, F⟩ := Z.f__law_words
  exact ok_fz (P := P) (w := w) (mg := mg) (base := base) (b := b__law_words) (k := 1) (N := N__law_words) F sc__law_words bi__law_words Z.g__law_words (dd__law_words Z)
abbrev N__law_subsets : List Str := ["some", "rows", "one", "row"]
theorem sc__law_subsets : FnScope N__law_subsets ["some"] (defScope s__law_subsets) := ⟨rfl, rfl, rfl, by decide +kernel, rfl, by decide +kernel, by decide +kernel⟩
def L__law_subsets_1 : Bd := bAsg 1 (f2 addD (vF 1) (fLc (fI (vF 1)) (sN 3) (fYes) (f2 addD (vF 3) (fTup (aCons (vF 2) (aNil)))) [3]))
theorem bi__law_subsets : ∀ (kV doc pm : Value) (an : Option Addr) (cdv ct : Value) (us : List Value), us.length = (["some"] : List Str).length → bindArgs (PySem.W.fnOf "_law_subsets" "_law_subsets" (defArgs s__law_subsets) (defBody s__law_subsets) (defScope s__law_subsets) .none kV doc pm an cdv ct) ⟨us, []⟩ = pure ((["some"] : List Str).zip us) :=
  fun _ _ _ _ _ _ us hl => match us, hl with | [_], _ => rfl
def b__law_subsets : Bd := bSeq (bAsg 1 (fLst (aCons (fTup (aNil)) (aNil)))) (bSeq (bFor (fI (vF 0)) (sN 2) (L__law_subsets_1)) (bRet (fLc (fI (fB sortedD (aCons (fLc (fI (vF 1)) (sN 3) (fYes) (fTup (aCons (fB lenD (aCons (vF 3) (aNil))) (aCons (vF 3) (aNil)))) [3]) (aNil)))) (sN 3) (fYes) (f2 ixD (vF 3) (cD (.int 1))) [3])))
def Ph__law_subsets : List D → Option D := fnR (N__law_subsets).length (["some"] : List Str).length b__law_subsets
theorem dd__law_subsets (Z : Fx K mg) (cdv : Value) (A : Around) (outer : List Env) (s : Shared) (H : Hp) (E : XK) (hr : Room (0) (A.deeper (envOfC "_law_subsets" (defScope s__law_subsets) s.heap.objs.size (He.ga K "_law_subsets") cdv))) :
    ∃ W t, DSs (cxOf CX0 P w K mg base N__law_subsets "_law_subsets" (defScope s__law_subsets) (He.ga K "_law_subsets") cdv A outer s H E).nox .fr W (defBody s__law_subsets) t (b__law_subsets) := ⟨_, _,
  dss_cons (ds_asg (i := 1) (DE.frz (de_lst (da_cons (de_tup (da_nil)) (da_nil)))) sc__law_subsets.nd) (dss_cons (ds_for (di_anyK K (de_v 0)) (dg_n sc__law_subsets.nd (i := 2)) (dss_one (ds_asg (i := 1) (de_op (op_addAK K) ops_addA (de_v 1) (de_lc [("row", 3)] sc__law_subsets.nd (di_anyK K (de_v 1)) (blk_of (N := N__law_subsets) (sc := defScope s__law_subsets) (by decide +kernel)) (fun _ _ _ _ _ => dg_n sc__law_subsets.nd (i := 3)) (fun _ _ _ _ _ => dts_nil) (fun _ _ _ _ _ => de_op (op_addAK K) ops_addA (de_v 3) (de_tup (da_cons (de_v 2) (da_nil)))) (by decide))) sc__law_subsets.nd))) (dss_one (ds_ret (de_lc [("row", 3)] sc__law_subsets.nd (di_anyK K (DE.frz (de_cb (cr_srtK K hr.u70) cs_srt rfl Z.n_sorted bt_sorted (da_cons (de_lc [("row", 3)] sc__law_subsets.nd (di_anyK K (de_v 1)) (blk_of (N := N__law_subsets) (sc := defScope s__law_subsets) (by decide +kernel)) (fun _ _ _ _ _ => dg_n sc__law_subsets.nd (i := 3)) (fun _ _ _ _ _ => dts_nil) (fun _ _ _ _ _ => de_tup (da_cons (de_cb (call_lenK K) cs_len rfl Z.n_len bt_len (da_cons (de_v 3) (da_nil))) (da_cons (de_v 3) (da_nil)))) (by decide)) (da_nil))))) (blk_of (N := N__law_subsets) (sc := defScope s__law_subsets) (by decide +kernel)) (fun _ _ _ _ _ => dg_n sc__law_subsets.nd (i := 3)) (fun _ _ _ _ _ => dts_nil) (fun _ _ _ _ _ => de_ixK K (de_v 3) (de_int)) (by decide)))))⟩
theorem ok__law_subsets (Z : Fx K mg) : Ok P w K mg base 1 "_law_subsets" ["some"] .fr Ph__law_subsets := by
  obtain ⟨fd, F⟩ := Z.f__law_subsets
  exact ok_fr (P := P) (w := w) (mg := mg) (base := base) (b := b__law_subsets) (k := 0) (N := N__law_subsets) F sc__law_subsets bi__law_subsets Z.g__law_subsets (dd__law_subsets Z)
abbrev N__law_made : List Str := ["word", "numbers", "slips", "size", "n", "sort"]
theorem sc__law_made : FnScope N__law_made ["word", "numbers"] (defScope s__law_made) := ⟨rfl, rfl, rfl, by decide +kernel, rfl, by decide +kernel, by decide +kernel⟩
def L__law_made_1 : Bd := bSeq (bAsg 5 (fIf (fT (f2 gtD (vF 3) (cD (.int 0)))) (f2 ixD (fLst (aCons (cD (.str "out")) (aCons (cD (.str "in")) (aCons (cD (.str "change")) (aNil))))) (f2 modD (fB intD (aCons (vF 4) (aNil))) (cD (.int 3)))) (cD (.str "in")))) (bSeq (bApp 2 (fTup (aCons (vF 5) (aCons (f2 modD (fB intD (aCons (f2 fdivD (vF 4) (cD (.int 3))) (aNil))) (fIf (fT (f2 eqD (vF 5) (cD (.str "in")))) (f2 addD (vF 3) (cD (.int 1))) (vF 3))) (aCons (fIf (fT (f2 eqD (vF 5) (cD (.str "out")))) (cD .none) (f2 ixD (cD (.str "xyz")) (f2 modD (fB intD (aCons (f2 fdivD (vF 4) (cD (.int 12))) (aNil))) (cD (.int 3))))) (aNil)))))) (bAsg 3 (f2 addD (vF 3) (fIf (fT (f2 eqD (vF 5) (cD (.str "in")))) (cD (.int 1)) (fIf (fT (f2 eqD (vF 5) (cD (.str "out")))) (f1 negD (cD (.int 1))) (cD (.int 0)))))))
theorem bi__law_made : ∀ (kV doc pm : Value) (an : Option Addr) (cdv ct : Value) (us : List Value), us.length = (["word", "numbers"] : List Str).length → bindArgs (PySem.W.fnOf "_law_made" "_law_made" (defArgs s__law_made) (defBody s__law_made) (defScope s__law_made) .none kV doc pm an cdv ct) ⟨us, []⟩ = pure ((["word", "numbers"] : List Str).zip us) :=
  fun _ _ _ _ _ _ us hl => match us, hl with | [_, _], _ => rfl
def b__law_made : Bd := bSeq (bOwn 2 (fLst (aNil))) (bSeq (bAsg 3 (fB lenD (aCons (vF 0) (aNil)))) (bSeq (bFor (fI (vF 1)) (sN 4) (L__law_made_1)) (bRet (vO 2))))
def Ph__law_made : List D → Option D := fnR (N__law_made).length (["word", "numbers"] : List Str).length b__law_made
theorem dd__law_made (Z : Fx K mg) (cdv : Value) (A : Around) (outer : List Env) (s : Shared) (H : Hp) (E : XK) (hr : Room (0) (A.deeper (envOfC "_law_made" (defScope s__law_made) s.heap.objs.size (He.ga K "_law_made") cdv))) :
    ∃ W t, DSs (cxOf CX0 P w K mg base N__law_made "_law_made" (defScope s__law_made) (He.ga K "_law_made") cdv A outer s H E).nox .fr W (defBody s__law_made) t (b__law_made) := ⟨_, _,
  dss_cons (ds_own (i := 2) (de_lst (da_nil)) sc__law_made.nd) (dss_cons (ds_asg (i := 3) (de_cb (call_lenK K) cs_len rfl Z.n_len bt_len (da_cons (de_v 0) (da_nil))) sc__law_made.nd) (dss_cons (ds_for (di_anyK K (de_v 1)) (dg_n sc__law_made.nd (i := 4)) (dss_cons (ds_asg (i := 5) (de_if (dt_cmp (op_gt_K K hr.u64) ops_gt rfl (de_v 3) (de_int)) (de_ixK K (de_lst (da_cons (de_str) (da_cons (de_str) (da_cons (de_str) (da_nil))))) (de_op op_modN ops_mod (de_ct call_int1 cs_int rfl Z.n_int bt_int (da_cons (de_v 4) (da_nil))) (de_int))) (de_str)) sc__law_made.nd) (dss_cons (ds_app (j := 2) (de_tup (da_cons (de_v 5) (da_cons (de_op op_modN ops_mod (de_ct call_int1 cs_int rfl Z.n_int bt_int (da_cons (de_op op_fdivN ops_fdiv (de_v 4) (de_int)) (da_nil))) (de_if (dt_cmp (op_eqDK K hr.u64) ops_eq rfl (de_v 5) (de_str)) (de_op (op_addAK K) ops_addA (de_v 3) (de_int)) (de_v 3))) (da_cons (de_if (dt_cmp (op_eqDK K hr.u64) ops_eq rfl (de_v 5) (de_str)) (de_non) (de_ixK K (de_str) (de_op op_modN ops_mod (de_ct call_int1 cs_int rfl Z.n_int bt_int (da_cons (de_op op_fdivN ops_fdiv (de_v 4) (de_int)) (da_nil))) (de_int)))) (da_nil)))))) (dss_one (ds_asg (i := 3) (de_op (op_addAK K) ops_addA (de_v 3) (de_if (dt_cmp (op_eqDK K hr.u64) ops_eq rfl (de_v 5) (de_str)) (de_int) (de_if (dt_cmp (op_eqDK K hr.u64) ops_eq rfl (de_v 5) (de_str)) (de_neg (de_int)) (de_int)))) sc__law_made.nd))))) (dss_one (ds_retOwn (i := 2)))))⟩
theorem ok__law_made (Z : Fx K mg) : Ok P w K mg base 1 "_law_made" ["word", "numbers"] .fr Ph__law_made := by
  obtain ⟨fd, F⟩ := Z.f__law_made
  exact ok_fr (P := P) (w := w) (mg := mg) (base := base) (b := b__law_made) (k := 0) (N := N__law_made) F sc__law_made bi__law_made Z.g__law_made (dd__law_made Z)
abbrev N__law_cell : List Str := ["script", "spot"]
theorem sc__law_cell : FnScope N__law_cell ["script", "spot"] (defScope s__law_cell) := ⟨rfl, rfl, rfl, by decide +kernel, rfl, by decide +kernel, by decide +kernel⟩
theorem bi__law_cell : ∀ (kV doc pm : Value) (an : Option Addr) (cdv ct : Value) (us : List Value), us.length = (["script", "spot"] : List Str).length → bindArgs (PySem.W.fnOf "_law_cell" "_law_cell" (defArgs s__law_cell) (defBody s__law_cell) (defScope s__law_cell) .none kV doc pm an cdv ct) ⟨us, []⟩ = pure ((["script", "spot"] : List Str).zip us) :=
  fun _ _ _ _ _ _ us hl => match us, hl with | [_, _], _ => rfl
def b__law_cell : Bd := bSeq (bIf (fT (f2 ltD (vF 1) (fB lenD (aCons (vF 0) (aNil))))) (bRet (fB intD (aCons (f2 ixD (vF 0) (vF 1)) (aNil)))) (bNext)) (bRet (cD (.int 0)))
def Ph__law_cell : List D → Option D := fnB (N__law_cell).length (["script", "spot"] : List Str).length b__law_cell
theorem dd__law_cell (Z : Fx K mg) (cdv : Value) (A : Around) (outer : List Env) (s : Shared) (H : Hp) (E : XK) (hr : Room (0) (A.deeper (envOfC "_law_cell" (defScope s__law_cell) s.heap.objs.size (He.ga K "_law_cell") cdv))) :
    ∃ W t, DSs (cxOf CX0 P w K mg base N__law_cell "_law_cell" (defScope s__law_cell) (He.ga K "_law_cell") cdv A outer s H E).nox .fz W (defBody s__law_cell) t (b__law_cell) := ⟨_, _,
  dss_cons (ds_if (dt_cmp (op_lt_K K hr.u64) ops_lt rfl (de_v 1) (de_cb (call_lenK K) cs_len rfl Z.n_len bt_len (da_cons (de_v 0) (da_nil)))) (dss_one (ds_ret (de_ct call_int1 cs_int rfl Z.n_int bt_int (da_cons (de_ixK K (de_v 0) (de_v 1)) (da_nil))))) (dss_nil)) (dss_one (ds_ret (de_int)))⟩
theorem ok__law_cell (Z : Fx K mg) : Ok P w K mg base 1 "_law_cell" ["script", "spot"] .fz Ph__law_cell := by
  obtain ⟨fd, F⟩ := Z.f__law_cell
  exact ok_fz (P := P) (w := w) (mg := mg) (base := base) (b := b__law_cell) (k := 0) (N := N__law_cell) F sc__law_cell bi__law_cell Z.g__law_cell (dd__law_cell Z)
abbrev N__law_numbers : List Str := ["script", "spot", "size", "cell", "numbers", "remains", "k", "spun"]
theorem sc__law_numbers : FnScope N__law_numbers ["script", "spot", "size"] (defScope s__law_numbers) := ⟨rfl, rfl, rfl, by decide +kernel, rfl, by decide +kernel, by decide +kernel⟩
def L__law_numbers_1 : Bd := bIf (fT (f2 geD (vF 3) (f2 powD (cD (.int 10)) (cD (.int 18))))) (bSeq (bApp 4 (f2 modD (fB intD (aCons (vF 5) (aNil))) (f2 powD (cD (.int 10)) (cD (.int 9))))) (bAsg 5 (f2 fdivD (vF 5) (f2 powD (cD (.int 10)) (cD (.int 9)))))) (bSeq (bAsg 7 (f2 modD (fB intD (aCons (f2 addD (f2 addD (f2 mulD (vF 3) (cD (.int 48271))) (f2 mulD (f2 addD (vF 6) (cD (.int 1))) (cD (.int 69621)))) (vF 1)) (aNil))) (cD (.int 2147483647)))) (bApp 4 (f2 modD (f2 modD (fB intD (aCons (f2 addD (f2 mulD (vF 7) (cD (.int 16807))) (f2 mulD (f2 addD (vF 6) (cD (.int 3))) (cD (.int 40692)))) (aNil))) (cD (.int 2147483399))) (f2 powD (cD (.int 10)) (cD (.int 9))))))
theorem bi__law_numbers : ∀ (kV doc pm : Value) (an : Option Addr) (cdv ct : Value) (us : List Value), us.length = (["script", "spot", "size"] : List Str).length → bindArgs (PySem.W.fnOf "_law_numbers" "_law_numbers" (defArgs s__law_numbers) (defBody s__law_numbers) (defScope s__law_numbers) .none kV doc pm an cdv ct) ⟨us, []⟩ = pure ((["script", "spot", "size"] : List Str).zip us) :=
  fun _ _ _ _ _ _ us hl => match us, hl with | [_, _, _], _ => rfl
def b__law_numbers : Bd := bSeq (bAsg 3 (fB (Ph__law_cell) (aCons (vF 0) (aCons (vF 1) (aNil))))) (bSeq (bOwn 4 (fLst (aNil))) (bSeq (bAsg 5 (vF 3)) (bSeq (bFor (fIs rg1D (aCons (vF 2) (aNil))) (sN 6) (L__law_numbers_1)) (bRet (vO 4)))))
def Ph__law_numbers : List D → Option D := fnR (N__law_numbers).length (["script", "spot", "size"] : List Str).length b__law_numbers
theorem dd__law_numbers (Z : Fx K mg) (cdv : Value) (A : Around) (outer : List Env) (s : Shared) (H : Hp) (E : XK) (hr : Room (1) (A.deeper (envOfC "_law_numbers" (defScope s__law_numbers) s.heap.objs.size (He.ga K "_law_numbers") cdv))) :
    ∃ W t, DSs (cxOf CX0 P w K mg base N__law_numbers "_law_numbers" (defScope s__law_numbers) (He.ga K "_law_numbers") cdv A outer s H E).nox .fr W (defBody s__law_numbers) t (b__law_numbers) := ⟨_, _,
  dss_cons (ds_asg (i := 3) (de_fnK K (ok__law_cell Z) hr (by omega) rfl (da_cons (de_v 0) (da_cons (de_v 1) (da_nil)))) sc__law_numbers.nd) (dss_cons (ds_own (i := 4) (de_lst (da_nil)) sc__law_numbers.nd) (dss_cons (ds_asg (i := 5) (de_v 3) sc__law_numbers.nd) (dss_cons (ds_for (di_rg1 rfl Z.n_range (da_cons (de_v 2) (da_nil))) (dg_n sc__law_numbers.nd (i := 6)) (dss_one (ds_if (dt_cmp (op_ge_K K hr.u64) ops_ge rfl (de_v 3) (de_op op_pow ops_pow (de_int) (de_int))) (dss_cons (ds_app (j := 4) (de_op op_modN ops_mod (de_ct call_int1 cs_int rfl Z.n_int bt_int (da_cons (de_v 5) (da_nil))) (de_op op_pow ops_pow (de_int) (de_int)))) (dss_one (ds_asg (i := 5) (de_op op_fdivN ops_fdiv (de_v 5) (de_op op_pow ops_pow (de_int) (de_int))) sc__law_numbers.nd))) (dss_cons (ds_asg (i := 7) (de_op op_modN ops_mod (de_ct call_int1 cs_int rfl Z.n_int bt_int (da_cons (de_op (op_addAK K) ops_addA (de_op (op_addAK K) ops_addA (de_op op_mul ops_mul (de_v 3) (de_int)) (de_op op_mul ops_mul (de_op (op_addAK K) ops_addA (de_v 6) (de_int)) (de_int))) (de_v 1)) (da_nil))) (de_int)) sc__law_numbers.nd) (dss_one (ds_app (j := 4) (de_op op_modN ops_mod (de_op op_modN ops_mod (de_ct call_int1 cs_int rfl Z.n_int bt_int (da_cons (de_op (op_addAK K) ops_addA (de_op op_mul ops_mul (de_v 7) (de_int)) (de_op op_mul ops_mul (de_op (op_addAK K) ops_addA (de_v 6) (de_int)) (de_int))) (da_nil))) (de_int)) (de_op op_pow ops_pow (de_int) (de_int))))))))) (dss_one (ds_retOwn (i := 4))))))⟩
theorem ok__law_numbers (Z : Fx K mg) : Ok P w K mg base 2 "_law_numbers" ["script", "spot", "size"] .fr Ph__law_numbers := by
  obtain ⟨fd, F⟩ := Z.f__law_numbers
  exact ok_fr (P := P) (w := w) (mg := mg) (base := base) (b := b__law_numbers) (k := 1) (N := N__law_numbers) F sc__law_numbers bi__law_numbers Z.g__law_numbers (dd__law_numbers Z)
abbrev N__law_same : List Str := ["one", "other", "k"]
theorem sc__law_same : FnScope N__law_same ["one", "other"] (defScope s__law_same) := ⟨rfl, rfl, rfl, by decide +kernel, rfl, by decide +kernel, by decide +kernel⟩
theorem bi__law_same : ∀ (kV doc pm : Value) (an : Option Addr) (cdv ct : Value) (us : List Value), us.length = (["one", "other"] : List Str).length → bindArgs (PySem.W.fnOf "_law_same" "_law_same" (defArgs s__law_same) (defBody s__law_same) (defScope s__law_same) .none kV doc pm an cdv ct) ⟨us, []⟩ = pure ((["one", "other"] : List Str).zip us) :=
  fun _ _ _ _ _ _ us hl => match us, hl with | [_, _], _ => rfl
def b__law_same (φ : List D → Option D) : Bd := bSeq (bIf (fAndT (fTr (fIsi "tuple" (vF 0))) (fTr (fIsi "tuple" (vF 1)))) (bRet (fAnd (f2 eqD (fB lenD (aCons (vF 0) (aNil))) (fB lenD (aCons (vF 1) (aNil)))) (f2 eqD (fLc (fIs rg1D (aCons (fB lenD (aCons (vF 0) (aNil))) (aNil))) (sN 2) (fNotT (fTr (fB φ (aCons (f2 ixD (vF 0) (vF 2)) (aCons (f2 ixD (vF 1) (vF 2)) (aNil)))))) (vF 2) [2]) (fLst (aNil))))) (bNext)) (bSeq (bIf (fOrT (fT (f2 isND (vF 0) (cD .none))) (fT (f2 isND (vF 1) (cD .none)))) (bRet (fAnd (f2 isND (vF 0) (cD .none)) (f2 isND (vF 1) (cD .none)))) (bNext)) (bSeq (bIf (fOrT (fTr (fIsi "bool" (vF 0))) (fTr (fIsi "bool" (vF 1)))) (bRet (fAnd (fIsi "bool" (vF 0)) (fAnd (fIsi "bool" (vF 1)) (f2 eqD (vF 0) (vF 1))))) (bNext)) (bRet (fAnd (fIsi2 "int" "str" (vF 0)) (fAnd (f2 eqD (fIsi "int" (vF 0)) (fIsi "int" (vF 1))) (f2 eqD (vF 0) (vF 1)))))))
def Ph__law_same : Nat → List D → Option D
  | 0 => fun _ => none
  | n + 1 => fnB (N__law_same).length (["one", "other"] : List Str).length (b__law_same (Ph__law_same n))
theorem dd__law_same (Z : Fx K mg) {φ : List D → Option D} (n : Nat) (ih : Ok P w K mg base (n + 0) "_law_same" ["one", "other"] .fz φ) (cdv : Value) (A : Around) (outer : List Env) (s : Shared) (H : Hp) (E : XK) (hr : Room (n + 0) (A.deeper (envOfC "_law_same" (defScope s__law_same) s.heap.objs.size (He.ga K "_law_same") cdv))) :
    ∃ W t, DSs (cxOf CX0 P w K mg base N__law_same "_law_same" (defScope s__law_same) (He.ga K "_law_same") cdv A outer s H E).nox .fz W (defBody s__law_same) t (b__law_same φ) := ⟨_, _,
  dss_cons (ds_if (dt_w (dw_and (dt_truK K (de_isiK K rfl rfl Z.n_isinstance bt_isinstance rfl Z.n_tuple bt_tuple (de_v 0))) (dw_and1 (dt_truK K (de_isiK K rfl rfl Z.n_isinstance bt_isinstance rfl Z.n_tuple bt_tuple (de_v 1)))))) (dss_one (ds_ret (de_andK K (de_cmp (op_eqDK K hr.u64) ops_eq rfl (de_cb (call_lenK K) cs_len rfl Z.n_len bt_len (da_cons (de_v 0) (da_nil))) (de_cb (call_lenK K) cs_len rfl Z.n_len bt_len (da_cons (de_v 1) (da_nil)))) (de_one (de_cmp (op_eqDK K hr.u64) ops_eq rfl (de_lc [("k", 2)] sc__law_same.nd (di_rg1 rfl Z.n_range (da_cons (de_cb (call_lenK K) cs_len rfl Z.n_len bt_len (da_cons (de_v 0) (da_nil))) (da_nil))) (blk_of (N := N__law_same) (sc := defScope s__law_same) (by decide +kernel)) (fun _ _ _ _ _ => dg_n sc__law_same.nd (i := 2)) (fun _ _ _ _ _ => dts_one (dt_not (dt_truK K (de_fnK K ih hr (by omega) rfl (da_cons (de_ixK K (de_v 0) (de_v 2)) (da_cons (de_ixK K (de_v 1) (de_v 2)) (da_nil))))))) (fun _ _ _ _ _ => de_v 2) (by decide)) (de_lst (da_nil))))))) (dss_nil)) (dss_cons (ds_if (dt_w (dw_or (dt_cmp L2.op_isN ops_isN rfl (de_v 0) (de_non)) (dw_or1 (dt_cmp L2.op_isN ops_isN rfl (de_v 1) (de_non))))) (dss_one (ds_ret (de_andK K (de_cmp L2.op_isN ops_isN rfl (de_v 0) (de_non)) (de_one (de_cmp L2.op_isN ops_isN rfl (de_v 1) (de_non)))))) (dss_nil)) (dss_cons (ds_if (dt_w (dw_or (dt_truK K (de_isiK K rfl rfl Z.n_isinstance bt_isinstance rfl Z.n_bool bt_bool (de_v 0))) (dw_or1 (dt_truK K (de_isiK K rfl rfl Z.n_isinstance bt_isinstance rfl Z.n_bool bt_bool (de_v 1)))))) (dss_one (ds_ret (de_andK K (de_isiK K rfl rfl Z.n_isinstance bt_isinstance rfl Z.n_bool bt_bool (de_v 0)) (de_andK K (de_isiK K rfl rfl Z.n_isinstance bt_isinstance rfl Z.n_bool bt_bool (de_v 1)) (de_one (de_cmp (op_eqDK K hr.u64) ops_eq rfl (de_v 0) (de_v 1))))))) (dss_nil)) (dss_one (ds_ret (de_andK K (de_isi2K K rfl rfl Z.n_isinstance bt_isinstance rfl Z.n_int bt_int rfl Z.n_str bt_str (de_v 0)) (de_andK K (de_cmp (op_eqDK K hr.u64) ops_eq rfl (de_isiK K rfl rfl Z.n_isinstance bt_isinstance rfl Z.n_int bt_int (de_v 0)) (de_isiK K rfl rfl Z.n_isinstance bt_isinstance rfl Z.n_int bt_int (de_v 1))) (de_one (de_cmp (op_eqDK K hr.u64) ops_eq rfl (de_v 0) (de_v 1)))))))))⟩
theorem ok__law_same (Z : Fx K mg) : ∀ n : Nat, Ok P w K mg base (n + 0) "_law_same" ["one", "other"] .fz (Ph__law_same n)
  | 0 => by obtain ⟨fd, F⟩ := Z.f__law_same; exact ok_zero F bi__law_same Z.g__law_same
  | n + 1 => by
    obtain ⟨fd, F⟩ := Z.f__law_same
    have e : n + 1 + 0 = n + 0 + 1 := by omega
    rw [e]
    exact ok_fz (P := P) (w := w) (mg := mg) (base := base) (b := b__law_same (Ph__law_same n)) (k := n + 0) (N := N__law_same) F sc__law_same bi__law_same Z.g__law_same (dd__law_same Z n (ok__law_same Z n))
abbrev N_need : List Str := ["at", "value"]
theorem sc_need : FnScope N_need ["at", "value"] (defScope s_need) := ⟨rfl, rfl, rfl, by decide +kernel, rfl, by decide +kernel, by decide +kernel⟩
theorem bi_need : ∀ (kV doc pm : Value) (an : Option Addr) (cdv ct : Value) (us : List Value), us.length = (["at", "value"] : List Str).length → bindArgs (PySem.W.fnOf "need" "need" (defArgs s_need) (defBody s_need) (defScope s_need) .none kV doc pm an cdv ct) ⟨us, []⟩ = pure ((["at", "value"] : List Str).zip us) :=
  fun _ _ _ _ _ _ us hl => match us, hl with | [_, _], _ => rfl
def b_need : Bd := bSeq (bIf (fT (f2 isND (vF 1) (cD .none))) (bNever) (bNext)) (bRet (vF 1))
def Ph_need : List D → Option D := fnB (N_need).length (["at", "value"] : List Str).length b_need
theorem dd_need (Z : Fx K mg) (cdv : Value) (A : Around) (outer : List Env) (s : Shared) (H : Hp) (E : XK) (hr : Room (0) (A.deeper (envOfC "need" (defScope s_need) s.heap.objs.size (He.ga K "need") cdv))) :
    ∃ W t, DSs (cxOf CX0 P w K mg base N_need "need" (defScope s_need) (He.ga K "need") cdv A outer s H E).nox .fz W (defBody s_need) t (b_need) := ⟨_, _,
  dss_cons (ds_if (dt_cmp L2.op_isN ops_isN rfl (de_v 1) (de_non)) (dss_one (ds_never)) (dss_nil)) (dss_one (ds_ret (de_v 1)))⟩
theorem ok_need (Z : Fx K mg) : Ok P w K mg base 1 "need" ["at", "value"] .fz Ph_need := by
  obtain ⟨fd, F⟩ := Z.f_need
  exact ok_fz (P := P) (w := w) (mg := mg) (base := base) (b := b_need) (k := 0) (N := N_need) F sc_need bi_need Z.g_need (dd_need Z)
abbrev N_is_seq : List Str := ["value"]
theorem sc_is_seq : FnScope N_is_seq ["value"] (defScope s_is_seq) := ⟨rfl, rfl, rfl, by decide +kernel, rfl, by decide +kernel, by decide +kernel⟩
theorem bi_is_seq : ∀ (kV doc pm : Value) (an : Option Addr) (cdv ct : Value) (us : List Value), us.length = (["value"] : List Str).length → bindArgs (PySem.W.fnOf "is_seq" "is_seq" (defArgs s_is_seq) (defBody s_is_seq) (defScope s_is_seq) .none kV doc pm an cdv ct) ⟨us, []⟩ = pure ((["value"] : List Str).zip us) :=
  fun _ _ _ _ _ _ us hl => match us, hl with | [_], _ => rfl
def b_is_seq : Bd := bRet (fIsi2 "list" "tuple" (vF 0))
def Ph_is_seq : List D → Option D := fnB (N_is_seq).length (["value"] : List Str).length b_is_seq
theorem dd_is_seq (Z : Fx K mg) (cdv : Value) (A : Around) (outer : List Env) (s : Shared) (H : Hp) (E : XK) (hr : Room (0) (A.deeper (envOfC "is_seq" (defScope s_is_seq) s.heap.objs.size (He.ga K "is_seq") cdv))) :
    ∃ W t, DSs (cxOf CX0 P w K mg base N_is_seq "is_seq" (defScope s_is_seq) (He.ga K "is_seq") cdv A outer s H E).nox .fz W (defBody s_is_seq) t (b_is_seq) := ⟨_, _,
  dss_one (ds_ret (de_isi2K K rfl rfl Z.n_isinstance bt_isinstance rfl Z.n_list bt_list rfl Z.n_tuple bt_tuple (de_v 0)))⟩
theorem ok_is_seq (Z : Fx K mg) : Ok P w K mg base 1 "is_seq" ["value"] .fz Ph_is_seq := by
  obtain ⟨fd, F⟩ := Z.f_is_seq
  exact ok_fz (P := P) (w := w) (mg := mg) (base := base) (b := b_is_seq) (k := 0) (N := N_is_seq) F sc_is_seq bi_is_seq Z.g_is_seq (dd_is_seq Z)
abbrev N_to_row : List Str := ["value", "least", "most"]
theorem sc_to_row : FnScope N_to_row ["value", "least", "most"] (defScope s_to_row) := ⟨rfl, rfl, rfl, by decide +kernel, rfl, by decide +kernel, by decide +kernel⟩
theorem bi_to_row : ∀ (kV doc pm : Value) (an : Option Addr) (cdv ct : Value) (us : List Value), us.length = (["value", "least", "most"] : List Str).length → bindArgs (PySem.W.fnOf "to_row" "to_row" (defArgs s_to_row) (defBody s_to_row) (defScope s_to_row) .none kV doc pm an cdv ct) ⟨us, []⟩ = pure ((["value", "least", "most"] : List Str).zip us) :=
  fun _ _ _ _ _ _ us hl => match us, hl with | [_, _, _], _ => rfl
def b_to_row : Bd := bSeq (bIf (fOrT (fNotT (fTr (fB (Ph_is_seq) (aCons (vF 0) (aNil))))) (fNotT (fT (f3 leD leD (vF 1) (fB lenD (aCons (vF 0) (aNil))) (vF 2))))) (bRet (cD .none)) (bNext)) (bRet (fB tupD (aCons (vF 0) (aNil))))
def Ph_to_row : List D → Option D := fnB (N_to_row).length (["value", "least", "most"] : List Str).length b_to_row
theorem dd_to_row (Z : Fx K mg) (cdv : Value) (A : Around) (outer : List Env) (s : Shared) (H : Hp) (E : XK) (hr : Room (1) (A.deeper (envOfC "to_row" (defScope s_to_row) s.heap.objs.size (He.ga K "to_row") cdv))) :
    ∃ W t, DSs (cxOf CX0 P w K mg base N_to_row "to_row" (defScope s_to_row) (He.ga K "to_row") cdv A outer s H E).nox .fz W (defBody s_to_row) t (b_to_row) := ⟨_, _,
  dss_cons (ds_if (dt_w (dw_or (dt_not (dt_truK K (de_fnK K (ok_is_seq Z) hr (by omega) rfl (da_cons (de_v 0) (da_nil))))) (dw_or1 (dt_not (dt_chain (op_le_K K hr.u64) (op_le_K K hr.u64) ops_le ops_le (de_v 1) (de_cb (call_lenK K) cs_len rfl Z.n_len bt_len (da_cons (de_v 0) (da_nil))) (de_v 2)))))) (dss_one (ds_ret (de_non))) (dss_nil)) (dss_one (ds_ret (de_ct (cr_tupK K) cs_tup rfl Z.n_tuple bt_tuple (da_cons (de_v 0) (da_nil)))))⟩
theorem ok_to_row (Z : Fx K mg) : Ok P w K mg base 2 "to_row" ["value", "least", "most"] .fz Ph_to_row := by
  obtain ⟨fd, F⟩ := Z.f_to_row
  exact ok_fz (P := P) (w := w) (mg := mg) (base := base) (b := b_to_row) (k := 1) (N := N_to_row) F sc_to_row bi_to_row Z.g_to_row (dd_to_row Z)
abbrev N_is_name : List Str := ["value", "letter"]
theorem sc_is_name : FnScope N_is_name ["value"] (defScope s_is_name) := ⟨rfl, rfl, rfl, by decide +kernel, rfl, by decide +kernel, by decide +kernel⟩
theorem bi_is_name : ∀ (kV doc pm : Value) (an : Option Addr) (cdv ct : Value) (us : List Value), us.length = (["value"] : List Str).length → bindArgs (PySem.W.fnOf "is_name" "is_name" (defArgs s_is_name) (defBody s_is_name) (defScope s_is_name) .none kV doc pm an cdv ct) ⟨us, []⟩ = pure ((["value"] : List Str).zip us) :=
  fun _ _ _ _ _ _ us hl => match us, hl with | [_], _ => rfl
def b_is_name : Bd := bSeq (bIf (fOrT (fNotT (fTr (fIsi "str" (vF 0)))) (fNotT (fT (f3 leD leD (cD (.int 1)) (fB lenD (aCons (vF 0) (aNil))) (cD (.int 8)))))) (bRet (cD (.bool false))) (bNext)) (bRet (fB allD (aCons (fLc (fI (vF 0)) (sN 1) (fYes) (f2 (sgnD id) (vF 1) (cD (.str "abcdefghijklmnopqrstuvwxyz"))) [1]) (aNil))))
def Ph_is_name : List D → Option D := fnB (N_is_name).length (["value"] : List Str).length b_is_name
theorem dd_is_name (Z : Fx K mg) (cdv : Value) (A : Around) (outer : List Env) (s : Shared) (H : Hp) (E : XK) (hr : Room (0) (A.deeper (envOfC "is_name" (defScope s_is_name) s.heap.objs.size (He.ga K "is_name") cdv))) :
    ∃ W t, DSs (cxOf CX0 P w K mg base N_is_name "is_name" (defScope s_is_name) (He.ga K "is_name") cdv A outer s H E).nox .fz W (defBody s_is_name) t (b_is_name) := ⟨_, _,
  dss_cons (ds_if (dt_w (dw_or (dt_not (dt_truK K (de_isiK K rfl rfl Z.n_isinstance bt_isinstance rfl Z.n_str bt_str (de_v 0)))) (dw_or1 (dt_not (dt_chain (op_le_K K hr.u64) (op_le_K K hr.u64) ops_le ops_le (de_int) (de_cb (call_lenK K) cs_len rfl Z.n_len bt_len (da_cons (de_v 0) (da_nil))) (de_int)))))) (dss_one (ds_ret (de_bl))) (dss_nil)) (dss_one (ds_ret (de_cb (cr_allK K rfl) cs_all rfl Z.n_all bt_all (da_cons (de_lc [("letter", 1)] sc_is_name.nd (di_anyK K (de_v 0)) (blk_of (N := N_is_name) (sc := defScope s_is_name) (by decide +kernel)) (fun _ _ _ _ _ => dg_n sc_is_name.nd (i := 1)) (fun _ _ _ _ _ => dts_nil) (fun _ _ _ _ _ => de_cmp op_sgn ops_sgn rfl (de_v 1) (de_globS rfl Z.c_LETTERS)) (by decide)) (da_nil)))))⟩
theorem ok_is_name (Z : Fx K mg) : Ok P w K mg base 1 "is_name" ["value"] .fz Ph_is_name := by
  obtain ⟨fd, F⟩ := Z.f_is_name
  exact ok_fz (P := P) (w := w) (mg := mg) (base := base) (b := b_is_name) (k := 0) (N := N_is_name) F sc_is_name bi_is_name Z.g_is_name (dd_is_name Z)
abbrev N_to_names : List Str := ["value", "least", "most", "row", "member"]
theorem sc_to_names : FnScope N_to_names ["value", "least", "most"] (defScope s_to_names) := ⟨rfl, rfl, rfl, by decide +kernel, rfl, by decide +kernel, by decide +kernel⟩
theorem bi_to_names : ∀ (kV doc pm : Value) (an : Option Addr) (cdv ct : Value) (us : List Value), us.length = (["value", "least", "most"] : List Str).length → bindArgs (PySem.W.fnOf "to_names" "to_names" (defArgs s_to_names) (defBody s_to_names) (defScope s_to_names) .none kV doc pm an cdv ct) ⟨us, []⟩ = pure ((["value", "least", "most"] : List Str).zip us) :=
  fun _ _ _ _ _ _ us hl => match us, hl with | [_, _, _], _ => rfl
def b_to_names : Bd := bSeq (bAsg 3 (fB (Ph_to_row) (aCons (vF 0) (aCons (vF 1) (aCons (vF 2) (aNil)))))) (bSeq (bIf (fOrT (fT (f2 isND (vF 3) (cD .none))) (fNotT (fTr (fB allD (aCons (fLc (fI (vF 3)) (sN 4) (fYes) (fB (Ph_is_name) (aCons (vF 4) (aNil))) [4]) (aNil)))))) (bRet (cD .none)) (bNext)) (bRet (vF 3)))
def Ph_to_names : List D → Option D := fnB (N_to_names).length (["value", "least", "most"] : List Str).length b_to_names
theorem dd_to_names (Z : Fx K mg) (cdv : Value) (A : Around) (outer : List Env) (s : Shared) (H : Hp) (E : XK) (hr : Room (2) (A.deeper (envOfC "to_names" (defScope s_to_names) s.heap.objs.size (He.ga K "to_names") cdv))) :
    ∃ W t, DSs (cxOf CX0 P w K mg base N_to_names "to_names" (defScope s_to_names) (He.ga K "to_names") cdv A outer s H E).nox .fz W (defBody s_to_names) t (b_to_names) := ⟨_, _,
  dss_cons (ds_asg (i := 3) (de_fnK K (ok_to_row Z) hr (by omega) rfl (da_cons (de_v 0) (da_cons (de_v 1) (da_cons (de_v 2) (da_nil))))) sc_to_names.nd) (dss_cons (ds_if (dt_w (dw_or (dt_cmp L2.op_isN ops_isN rfl (de_v 3) (de_non)) (dw_or1 (dt_not (dt_truK K (de_cb (cr_allK K rfl) cs_all rfl Z.n_all bt_all (da_cons (de_lc [("member", 4)] sc_to_names.nd (di_anyK K (de_v 3)) (blk_of (N := N_to_names) (sc := defScope s_to_names) (by decide +kernel)) (fun _ _ _ _ _ => dg_n sc_to_names.nd (i := 4)) (fun _ _ _ _ _ => dts_nil) (fun _ _ _ _ _ => de_fnK K (ok_is_name Z) hr (by omega) rfl (da_cons (de_v 4) (da_nil))) (by decide)) (da_nil)))))))) (dss_one (ds_ret (de_non))) (dss_nil)) (dss_one (ds_ret (de_v 3))))⟩
theorem ok_to_names (Z : Fx K mg) : Ok P w K mg base 3 "to_names" ["value", "least", "most"] .fz Ph_to_names := by
  obtain ⟨fd, F⟩ := Z.f_to_names
  exact ok_fz (P := P) (w := w) (mg := mg) (base := base) (b := b_to_names) (k := 2) (N := N_to_names) F sc_to_names bi_to_names Z.g_to_names (dd_to_names Z)
abbrev N_rank_key : List Str := ["value", "member"]
theorem sc_rank_key : FnScope N_rank_key ["value"] (defScope s_rank_key) := ⟨rfl, rfl, rfl, by decide +kernel, rfl, by decide +kernel, by decide +kernel⟩
theorem bi_rank_key : ∀ (kV doc pm : Value) (an : Option Addr) (cdv ct : Value) (us : List Value), us.length = (["value"] : List Str).length → bindArgs (PySem.W.fnOf "rank_key" "rank_key" (defArgs s_rank_key) (defBody s_rank_key) (defScope s_rank_key) .none kV doc pm an cdv ct) ⟨us, []⟩ = pure ((["value"] : List Str).zip us) :=
  fun _ _ _ _ _ _ us hl => match us, hl with | [_], _ => rfl
def b_rank_key (φ : List D → Option D) : Bd := bSeq (bIf (fT (f2 isND (vF 0) (cD .none))) (bRet (fTup (aCons (cD (.int 0)) (aNil)))) (bNext)) (bSeq (bIf (fTr (fIsi "bool" (vF 0))) (bRet (fTup (aCons (cD (.int 1)) (aCons (fB intD (aCons (vF 0) (aNil))) (aNil))))) (bNext)) (bSeq (bIf (fTr (fIsi "int" (vF 0))) (bRet (fTup (aCons (cD (.int 2)) (aCons (vF 0) (aNil))))) (bNext)) (bSeq (bIf (fTr (fIsi "str" (vF 0))) (bRet (fTup (aCons (cD (.int 3)) (aCons (vF 0) (aNil))))) (bNext)) (bRet (fTupS (aCons (cD (.int 4)) (aStar (fLc (fI (vF 0)) (sN 1) (fYes) (fB φ (aCons (vF 1) (aNil))) [1]) (aNil))))))))
def Ph_rank_key : Nat → List D → Option D
  | 0 => fun _ => none
  | n + 1 => fnB (N_rank_key).length (["value"] : List Str).length (b_rank_key (Ph_rank_key n))
theorem dd_rank_key (Z : Fx K mg) {φ : List D → Option D} (n : Nat) (ih : Ok P w K mg base (n + 0) "rank_key" ["value"] .fz φ) (cdv : Value) (A : Around) (outer : List Env) (s : Shared) (H : Hp) (E : XK) (hr : Room (n + 0) (A.deeper (envOfC "rank_key" (defScope s_rank_key) s.heap.objs.size (He.ga K "rank_key") cdv))) :
    ∃ W t, DSs (cxOf CX0 P w K mg base N_rank_key "rank_key" (defScope s_rank_key) (He.ga K "rank_key") cdv A outer s H E).nox .fz W (defBody s_rank_key) t (b_rank_key φ) := ⟨_, _,
  dss_cons (ds_if (dt_cmp L2.op_isN ops_isN rfl (de_v 0) (de_non)) (dss_one (ds_ret (de_tup (da_cons (de_int) (da_nil))))) (dss_nil)) (dss_cons (ds_if (dt_truK K (de_isiK K rfl rfl Z.n_isinstance bt_isinstance rfl Z.n_bool bt_bool (de_v 0))) (dss_one (ds_ret (de_tup (da_cons (de_int) (da_cons (de_ct call_int1 cs_int rfl Z.n_int bt_int (da_cons (de_v 0) (da_nil))) (da_nil)))))) (dss_nil)) (dss_cons (ds_if (dt_truK K (de_isiK K rfl rfl Z.n_isinstance bt_isinstance rfl Z.n_int bt_int (de_v 0))) (dss_one (ds_ret (de_tup (da_cons (de_int) (da_cons (de_v 0) (da_nil)))))) (dss_nil)) (dss_cons (ds_if (dt_truK K (de_isiK K rfl rfl Z.n_isinstance bt_isinstance rfl Z.n_str bt_str (de_v 0))) (dss_one (ds_ret (de_tup (da_cons (de_int) (da_cons (de_v 0) (da_nil)))))) (dss_nil)) (dss_one (ds_ret (de_tupS (das_cons (de_int) (das_starK K (de_lc [("member", 1)] sc_rank_key.nd (di_anyK K (de_v 0)) (blk_of (N := N_rank_key) (sc := defScope s_rank_key) (by decide +kernel)) (fun _ _ _ _ _ => dg_n sc_rank_key.nd (i := 1)) (fun _ _ _ _ _ => dts_nil) (fun _ _ _ _ _ => de_fnK K ih hr (by omega) rfl (da_cons (de_v 1) (da_nil))) (by decide)) (das_nil)))))))))⟩
theorem ok_rank_key (Z : Fx K mg) : ∀ n : Nat, Ok P w K mg base (n + 0) "rank_key" ["value"] .fz (Ph_rank_key n)
  | 0 => by obtain ⟨fd, F⟩ := Z.f_rank_key; exact ok_zero F bi_rank_key Z.g_rank_key
  | n + 1 => by
    obtain ⟨fd, F⟩ := Z.f_rank_key
    have e : n + 1 + 0 = n + 0 + 1 := by omega
    rw [e]
    exact ok_fz (P := P) (w := w) (mg := mg) (base := base) (b := b_rank_key (Ph_rank_key n)) (k := n + 0) (N := N_rank_key) F sc_rank_key bi_rank_key Z.g_rank_key (dd_rank_key Z n (ok_rank_key Z n))
abbrev N_is_rising : List Str := ["values", "keys", "value", "at"]
theorem sc_is_rising : FnScope N_is_rising ["values"] (defScope s_is_rising) := ⟨rfl, rfl, rfl, by decide +kernel, rfl, by decide +kernel, by decide +kernel⟩
theorem bi_is_rising : ∀ (kV doc pm : Value) (an : Option Addr) (cdv ct : Value) (us : List Value), us.length = (["values"] : List Str).length → bindArgs (PySem.W.fnOf "is_rising" "is_rising" (defArgs s_is_rising) (defBody s_is_rising) (defScope s_is_rising) .none kV doc pm an cdv ct) ⟨us, []⟩ = pure ((["values"] : List Str).zip us) :=
  fun _ _ _ _ _ _ us hl => match us, hl with | [_], _ => rfl
def b_is_rising : Bd := bSeq (bAsg 1 (fLc (fI (vF 0)) (sN 2) (fYes) (fB (Ph_rank_key 4) (aCons (vF 2) (aNil))) [2])) (bRet (fB allD (aCons (fLc (fIs rg1D (aCons (f2 subD (fB lenD (aCons (vF 1) (aNil))) (cD (.int 1))) (aNil))) (sN 3) (fYes) (f2 ltD (f2 ixD (vF 1) (vF 3)) (f2 ixD (vF 1) (f2 addD (vF 3) (cD (.int 1))))) [3]) (aNil))))
def Ph_is_rising : List D → Option D := fnB (N_is_rising).length (["values"] : List Str).length b_is_rising
theorem dd_is_rising (Z : Fx K mg) (cdv : Value) (A : Around) (outer : List Env) (s : Shared) (H : Hp) (E : XK) (hr : Room (4) (A.deeper (envOfC "is_rising" (defScope s_is_rising) s.heap.objs.size (He.ga K "is_rising") cdv))) :
    ∃ W t, DSs (cxOf CX0 P w K mg base N_is_rising "is_rising" (defScope s_is_rising) (He.ga K "is_rising") cdv A outer s H E).nox .fz W (defBody s_is_rising) t (b_is_rising) := ⟨_, _,
  dss_cons (ds_asg (i := 1) (DE.frz (de_lc [("value", 2)] sc_is_rising.nd (di_anyK K (de_v 0)) (blk_of (N := N_is_rising) (sc := defScope s_is_rising) (by decide +kernel)) (fun _ _ _ _ _ => dg_n sc_is_rising.nd (i := 2)) (fun _ _ _ _ _ => dts_nil) (fun _ _ _ _ _ => de_fnK K (ok_rank_key Z 4) hr (by omega) rfl (da_cons (de_v 2) (da_nil))) (by decide))) sc_is_rising.nd) (dss_one (ds_ret (de_cb (cr_allK K rfl) cs_all rfl Z.n_all bt_all (da_cons (de_lc [("at", 3)] sc_is_rising.nd (di_rg1 rfl Z.n_range (da_cons (de_op op_sub ops_sub (de_cb (call_lenK K) cs_len rfl Z.n_len bt_len (da_cons (de_v 1) (da_nil))) (de_int)) (da_nil))) (blk_of (N := N_is_rising) (sc := defScope s_is_rising) (by decide +kernel)) (fun _ _ _ _ _ => dg_n sc_is_rising.nd (i := 3)) (fun _ _ _ _ _ => dts_nil) (fun _ _ _ _ _ => de_cmp (op_lt_K K hr.u64) ops_lt rfl (de_ixK K (de_v 1) (de_v 3)) (de_ixK K (de_v 1) (de_op (op_addAK K) ops_addA (de_v 3) (de_int)))) (by decide)) (da_nil)))))⟩
theorem ok_is_rising (Z : Fx K mg) : Ok P w K mg base 5 "is_rising" ["values"] .fz Ph_is_rising := by
  obtain ⟨fd, F⟩ := Z.f_is_rising
  exact ok_fz (P := P) (w := w) (mg := mg) (base := base) (b := b_is_rising) (k := 4) (N := N_is_rising) F sc_is_rising bi_is_rising Z.g_is_rising (dd_is_rising Z)
abbrev N_to_rising_names : List Str := ["value", "least", "most", "row"]
theorem sc_to_rising_names : FnScope N_to_rising_names ["value", "least", "most"] (defScope s_to_rising_names) := ⟨rfl, rfl, rfl, by decide +kernel, rfl, by decide +kernel, by decide +kernel⟩
theorem bi_to_rising_names : ∀ (kV doc pm : Value) (an : Option Addr) (cdv ct : Value) (us : List Value), us.length = (["value", "least", "most"] : List Str).length → bindArgs (PySem.W.fnOf "to_rising_names" "to_rising_names" (defArgs s_to_rising_names) (defBody s_to_rising_names) (defScope s_to_rising_names) .none kV doc pm an cdv ct) ⟨us, []⟩ = pure ((["value", "least", "most"] : List Str).zip us) :=
  fun _ _ _ _ _ _ us hl => match us, hl with | [_, _, _], _ => rfl
def b_to_rising_names : Bd := bSeq (bAsg 3 (fB (Ph_to_names) (aCons (vF 0) (aCons (vF 1) (aCons (vF 2) (aNil)))))) (bSeq (bIf (fOrT (fT (f2 isND (vF 3) (cD .none))) (fNotT (fTr (fB (Ph_is_rising) (aCons (vF 3) (aNil)))))) (bRet (cD .none)) (bNext)) (bRet (vF 3)))
def Ph_to_rising_names : List D → Option D := fnB (N_to_rising_names).length (["value", "least", "most"] : List Str).length b_to_rising_names
theorem dd_to_rising_names (Z : Fx K mg) (cdv : Value) (A : Around) (outer : List Env) (s : Shared) (H : Hp) (E : XK) (hr : Room (5) (A.deeper (envOfC "to_rising_names" (defScope s_to_rising_names) s.heap.objs.size (He.ga K "to_rising_names") cdv))) :
    ∃ W t, DSs (cxOf CX0 P w K mg base N_to_rising_names "to_rising_names" (defScope s_to_rising_names) (He.ga K "to_rising_names") cdv A outer s H E).nox .fz W (defBody s_to_rising_names) t (b_to_rising_names) := ⟨_, _,
  dss_cons (ds_asg (i := 3) (de_fnK K (ok_to_names Z) hr (by omega) rfl (da_cons (de_v 0) (da_cons (de_v 1) (da_cons (de_v 2) (da_nil))))) sc_to_rising_names.nd) (dss_cons (ds_if (dt_w (dw_or (dt_cmp L2.op_isN ops_isN rfl (de_v 3) (de_non)) (dw_or1 (dt_not (dt_truK K (de_fnK K (ok_is_rising Z) hr (by omega) rfl (da_cons (de_v 3) (da_nil)))))))) (dss_one (ds_ret (de_non))) (dss_nil)) (dss_one (ds_ret (de_v 3))))⟩
theorem ok_to_rising_names (Z : Fx K mg) : Ok P w K mg base 6 "to_rising_names" ["value", "least", "most"] .fz Ph_to_rising_names := by
  obtain ⟨fd, F⟩ := Z.f_to_rising_names
  exact ok_fz (P := P) (w := w) (mg := mg) (base := base) (b := b_to_rising_names) (k := 5) (N := N_to_rising_names) F sc_to_rising_names bi_to_rising_names Z.g_to_rising_names (dd_to_rising_names Z)
abbrev N_to_words : List Str := ["value"]
theorem sc_to_words : FnScope N_to_words ["value"] (defScope s_to_words) := ⟨rfl, rfl, rfl, by decide +kernel, rfl, by decide +kernel, by decide +kernel⟩
theorem bi_to_words : ∀ (kV doc pm : Value) (an : Option Addr) (cdv ct : Value) (us : List Value), us.length = (["value"] : List Str).length → bindArgs (PySem.W.fnOf "to_words" "to_words" (defArgs s_to_words) (defBody s_to_words) (defScope s_to_words) .none kV doc pm an cdv ct) ⟨us, []⟩ = pure ((["value"] : List Str).zip us) :=
  fun _ _ _ _ _ _ us hl => match us, hl with | [_], _ => rfl
def b_to_words : Bd := bRet (fB (Ph_to_rising_names) (aCons (vF 0) (aCons (cD (.int 1)) (aCons (cD (.int 40)) (aNil)))))
def Ph_to_words : List D → Option D := fnB (N_to_words).length (["value"] : List Str).length b_to_words
theorem dd_to_words (Z : Fx K mg) (cdv : Value) (A : Around) (outer : List Env) (s : Shared) (H : Hp) (E : XK) (hr : Room (6) (A.deeper (envOfC "to_words" (defScope s_to_words) s.heap.objs.size (He.ga K "to_words") cdv))) :
    ∃ W t, DSs (cxOf CX0 P w K mg base N_to_words "to_words" (defScope s_to_words) (He.ga K "to_words") cdv A outer s H E).nox .fz W (defBody s_to_words) t (b_to_words) := ⟨_, _,
  dss_one (ds_ret (de_fnK K (ok_to_rising_names Z) hr (by omega) rfl (da_cons (de_v 0) (da_cons (de_int) (da_cons (de_int) (da_nil))))))⟩
theorem ok_to_words (Z : Fx K mg) : Ok P w K mg base 7 "to_words" ["value"] .fz Ph_to_words := by
  obtain ⟨fd, F⟩ := Z.f_to_words
  exact ok_fz (P := P) (w := w) (mg := mg) (base := base) (b := b_to_words) (k := 6) (N := N_to_words) F sc_to_words bi_to_words Z.g_to_words (dd_to_words Z)
abbrev N_gap_of : List Str := ["word", "other", "row", "at", "letter", "below", "place", "sign", "changed"]
theorem sc_gap_of : FnScope N_gap_of ["word", "other"] (defScope s_gap_of) := ⟨rfl, rfl, rfl, by decide +kernel, rfl, by decide +kernel, by decide +kernel⟩
def L_gap_of_1 : Bd := bSeq (bAsg 8 (fIf (fT (f2 eqD (vF 4) (vF 7))) (f2 ixD (vF 2) (vF 6)) (f2 addD (f2 ixD (vF 2) (vF 6)) (cD (.int 1))))) (bApp 5 (fB min3D (aCons (vF 8) (aCons (f2 addD (f2 ixD (vF 2) (f2 addD (vF 6) (cD (.int 1)))) (cD (.int 1))) (aCons (f2 addD (f2 ixD (vP 5) (vF 6)) (cD (.int 1))) (aNil))))))
def L_gap_of_2 : Bd := bSeq (bOwn 5 (fLst (aCons (f2 addD (vF 3) (cD (.int 1))) (aNil)))) (bSeq (bFor (fEnumS (vF 1)) (sT 2 (sCons (sN 6) (sCons (sN 7) (sNil)))) (L_gap_of_1)) (bMove 2 5))
theorem bi_gap_of : ∀ (kV doc pm : Value) (an : Option Addr) (cdv ct : Value) (us : List Value), us.length = (["word", "other"] : List Str).length → bindArgs (PySem.W.fnOf "gap_of" "gap_of" (defArgs s_gap_of) (defBody s_gap_of) (defScope s_gap_of) .none kV doc pm an cdv ct) ⟨us, []⟩ = pure ((["word", "other"] : List Str).zip us) :=
  fun _ _ _ _ _ _ us hl => match us, hl with | [_, _], _ => rfl
def b_gap_of : Bd := bSeq (bAsg 2 (fLr1 (f2 addD (fB lenD (aCons (vF 1) (aNil))) (cD (.int 1))))) (bSeq (bFor (fEnumS (vF 0)) (sT 2 (sCons (sN 3) (sCons (sN 4) (sNil)))) (L_gap_of_2)) (bRet (f2 ixD (vF 2) (f1 negD (cD (.int 1))))))
def Ph_gap_of : List D → Option D := fnB (N_gap_of).length (["word", "other"] : List Str).length b_gap_of
theorem dd_gap_of (Z : Fx K mg) (cdv : Value) (A : Around) (outer : List Env) (s : Shared) (H : Hp) (E : XK) (hr : Room (0) (A.deeper (envOfC "gap_of" (defScope s_gap_of) s.heap.objs.size (He.ga K "gap_of") cdv))) :
    ∃ W t, DSs (cxOf CX0 P w K mg base N_gap_of "gap_of" (defScope s_gap_of) (He.ga K "gap_of") cdv A outer s H E).nox .fz W (defBody s_gap_of) t (b_gap_of) := ⟨_, _,
  dss_cons (ds_asg (i := 2) (DE.frz (de_lr1 rfl Z.n_list rfl Z.n_range (de_op (op_addAK K) ops_addA (de_cb (call_lenK K) cs_len rfl Z.n_len bt_len (da_cons (de_v 1) (da_nil))) (de_int)))) sc_gap_of.nd) (dss_cons (ds_for (di_enumS rfl Z.n_enumerate (de_v 0)) (dg_tK K (n := 2) (dgs_cons (dg_n sc_gap_of.nd (i := 3)) (dgs_cons (dg_n sc_gap_of.nd (i := 4)) (dgs_nil)))) (dss_cons (ds_own (i := 5) (de_lst (da_cons (de_op (op_addAK K) ops_addA (de_v 3) (de_int)) (da_nil))) sc_gap_of.nd) (dss_cons (ds_for (di_enumS rfl Z.n_enumerate (de_v 1)) (dg_tK K (n := 2) (dgs_cons (dg_n sc_gap_of.nd (i := 6)) (dgs_cons (dg_n sc_gap_of.nd (i := 7)) (dgs_nil)))) (dss_cons (ds_asg (i := 8) (de_if (dt_cmp (op_eqDK K hr.u64) ops_eq rfl (de_v 4) (de_v 7)) (de_ixK K (de_v 2) (de_v 6)) (de_op (op_addAK K) ops_addA (de_ixK K (de_v 2) (de_v 6)) (de_int))) sc_gap_of.nd) (dss_one (ds_app (j := 5) (de_cb (cr_min3 rfl) cs_min3 rfl Z.n_min bt_min (da_cons (de_v 8) (da_cons (de_op (op_addAK K) ops_addA (de_ixK K (de_v 2) (de_op (op_addAK K) ops_addA (de_v 6) (de_int))) (de_int)) (da_cons (de_op (op_addAK K) ops_addA (de_ixK K (de_p 5) (de_v 6)) (de_int)) (da_nil))))))))) (dss_one (ds_move sc_gap_of.nd (i := 2) (j := 5)))))) (dss_one (ds_ret (de_ixK K (de_v 2) (de_neg (de_int))))))⟩
theorem ok_gap_of (Z : Fx K mg) : Ok P w K mg base 1 "gap_of" ["word", "other"] .fz Ph_gap_of := by
  obtain ⟨fd, F⟩ := Z.f_gap_of
  exact ok_fz (P := P) (w := w) (mg := mg) (base := base) (b := b_gap_of) (k := 0) (N := N_gap_of) F sc_gap_of bi_gap_of Z.g_gap_of (dd_gap_of Z)
abbrev N_to_closed : List Str := ["words", "value", "row", "other", "told"]
theorem sc_to_closed : FnScope N_to_closed ["words", "value"] (defScope s_to_closed) := ⟨rfl, rfl, rfl, by decide +kernel, rfl, by decide +kernel, by decide +kernel⟩
def L_to_closed_1 : Bd := bIf (fAndT (fT (f2 notInD (vF 3) (vF 2))) (fTr (fB anyD (aCons (fLc (fI (vF 2)) (sN 4) (fYes) (f2 eqD (fB (Ph_gap_of) (aCons (vF 4) (aCons (vF 3) (aNil)))) (cD (.int 1))) [4]) (aNil))))) (bRet (cD .none)) (bNext)
theorem bi_to_closed : ∀ (kV doc pm : Value) (an : Option Addr) (cdv ct : Value) (us : List Value), us.length = (["words", "value"] : List Str).length → bindArgs (PySem.W.fnOf "to_closed" "to_closed" (defArgs s_to_closed) (defBody s_to_closed) (defScope s_to_closed) .none kV doc pm an cdv ct) ⟨us, []⟩ = pure ((["words", "value"] : List Str).zip us) :=
  fun _ _ _ _ _ _ us hl => match us, hl with | [_, _], _ => rfl
def b_to_closed : Bd := bSeq (bAsg 2 (fB (Ph_to_rising_names) (aCons (vF 1) (aCons (cD (.int 0)) (aCons (fB lenD (aCons (vF 0) (aNil))) (aNil)))))) (bSeq (bIf (fOrT (fT (f2 isND (vF 2) (cD .none))) (fNotT (fTr (fB allD (aCons (fLc (fI (vF 2)) (sN 4) (fYes) (f2 inD (vF 4) (vF 0)) [4]) (aNil)))))) (bRet (cD .none)) (bNext)) (bSeq (bFor (fI (vF 0)) (sN 3) (L_to_closed_1)) (bRet (vF 2))))
def Ph_to_closed : List D → Option D := fnB (N_to_closed).length (["words", "value"] : List Str).length b_to_closed
theorem dd_to_closed (Z : Fx K mg) (cdv : Value) (A : Around) (outer : List Env) (s : Shared) (H : Hp) (E : XK) (hr : Room (6) (A.deeper (envOfC "to_closed" (defScope s_to_closed) s.heap.objs.size (He.ga K "to_closed") cdv))) :
    ∃ W t, DSs (cxOf CX0 P w K mg base N_to_closed "to_closed" (defScope s_to_closed) (He.ga K "to_closed") cdv A outer s H E).nox .fz W (defBody s_to_closed) t (b_to_closed) := ⟨_, _,
  dss_cons (ds_asg (i := 2) (de_fnK K (ok_to_rising_names Z) hr (by omega) rfl (da_cons (de_v 1) (da_cons (de_int) (da_cons (de_cb (call_lenK K) cs_len rfl Z.n_len bt_len (da_cons (de_v 0) (da_nil))) (da_nil))))) sc_to_closed.nd) (dss_cons (ds_if (dt_w (dw_or (dt_cmp L2.op_isN ops_isN rfl (de_v 2) (de_non)) (dw_or1 (dt_not (dt_truK K (de_cb (cr_allK K rfl) cs_all rfl Z.n_all bt_all (da_cons (de_lc [("told", 4)] sc_to_closed.nd (di_anyK K (de_v 2)) (blk_of (N := N_to_closed) (sc := defScope s_to_closed) (by decide +kernel)) (fun _ _ _ _ _ => dg_n sc_to_closed.nd (i := 4)) (fun _ _ _ _ _ => dts_nil) (fun _ _ _ _ _ => de_cmp (op_in_K K hr.u65) ops_in rfl (de_v 4) (de_v 0)) (by decide)) (da_nil)))))))) (dss_one (ds_ret (de_non))) (dss_nil)) (dss_cons (ds_for (di_anyK K (de_v 0)) (dg_n sc_to_closed.nd (i := 3)) (dss_one (ds_if (dt_w (dw_and (dt_cmp (op_notIn_K K hr.u65) ops_notIn rfl (de_v 3) (de_v 2)) (dw_and1 (dt_truK K (de_cb (cr_anyK K rfl) cs_any rfl Z.n_any bt_any (da_cons (de_lc [("told", 4)] sc_to_closed.nd (di_anyK K (de_v 2)) (blk_of (N := N_to_closed) (sc := defScope s_to_closed) (by decide +kernel)) (fun _ _ _ _ _ => dg_n sc_to_closed.nd (i := 4)) (fun _ _ _ _ _ => dts_nil) (fun _ _ _ _ _ => de_cmp (op_eqDK K hr.u64) ops_eq rfl (de_fnK K (ok_gap_of Z) hr (by omega) rfl (da_cons (de_v 4) (da_cons (de_v 3) (da_nil)))) (de_int)) (by decide)) (da_nil))))))) (dss_one (ds_ret (de_non))) (dss_nil)))) (dss_one (ds_ret (de_v 2)))))⟩
theorem ok_to_closed (Z : Fx K mg) : Ok P w K mg base 7 "to_closed" ["words", "value"] .fz Ph_to_closed := by
  obtain ⟨fd, F⟩ := Z.f_to_closed
  exact ok_fz (P := P) (w := w) (mg := mg) (base := base) (b := b_to_closed) (k := 6) (N := N_to_closed) F sc_to_closed bi_to_closed Z.g_to_closed (dd_to_closed Z)
abbrev N_ladders_closed : List Str := ["words", "value"]
theorem sc_ladders_closed : FnScope N_ladders_closed ["words", "value"] (defScope s_ladders_closed) := ⟨rfl, rfl, rfl, by decide +kernel, rfl, by decide +kernel, by decide +kernel⟩
theorem bi_ladders_closed : ∀ (kV doc pm : Value) (an : Option Addr) (cdv ct : Value) (us : List Value), us.length = (["words", "value"] : List Str).length → bindArgs (PySem.W.fnOf "ladders_closed" "ladders_closed" (defArgs s_ladders_closed) (defBody s_ladders_closed) (defScope s_ladders_closed) .none kV doc pm an cdv ct) ⟨us, []⟩ = pure ((["words", "value"] : List Str).zip us) :=
  fun _ _ _ _ _ _ us hl => match us, hl with | [_, _], _ => rfl
def b_ladders_closed : Bd := bSeq (bAsg 0 (fB (Ph_need) (aCons (cD (.int 1)) (aCons (fB (Ph_to_words) (aCons (vF 0) (aNil))) (aNil))))) (bRet (f2 notND (fB (Ph_to_closed) (aCons (vF 0) (aCons (vF 1) (aNil)))) (cD .none)))
def Ph_ladders_closed : List D → Option D := fnB (N_ladders_closed).length (["words", "value"] : List Str).length b_ladders_closed
theorem dd_ladders_closed (Z : Fx K mg) (cdv : Value) (A : Around) (outer : List Env) (s : Shared) (H : Hp) (E : XK) (hr : Room (7) (A.deeper (envOfC "ladders_closed" (defScope s_ladders_closed) s.heap.objs.size (He.ga K "ladders_closed") cdv))) :
    ∃ W t, DSs (cxOf CX0 P w K mg base N_ladders_closed "ladders_closed" (defScope s_ladders_closed) (He.ga K "ladders_closed") cdv A outer s H E).nox .fz W (defBody s_ladders_closed) t (b_ladders_closed) := ⟨_, _,
  dss_cons (ds_asg (i := 0) (de_fnK K (ok_need Z) hr (by omega) rfl (da_cons (de_int) (da_cons (de_fnK K (ok_to_words Z) hr (by omega) rfl (da_cons (de_v 0) (da_nil))) (da_nil)))) sc_ladders_closed.nd) (dss_one (ds_ret (de_cmp L2.op_notN ops_notN rfl (de_fnK K (ok_to_closed Z) hr (by omega) rfl (da_cons (de_v 0) (da_cons (de_v 1) (da_nil)))) (de_non))))⟩
theorem ok_ladders_closed (Z : Fx K mg) : Ok P w K mg base 8 "ladders_closed" ["words", "value"] .fz Ph_ladders_closed := by
  obtain ⟨fd, F⟩ := Z.f_ladders_closed
  exact ok_fz (P := P) (w := w) (mg := mg) (base := base) (b := b_ladders_closed) (k := 7) (N := N_ladders_closed) F sc_ladders_closed bi_ladders_closed Z.g_ladders_closed (dd_ladders_closed Z)
abbrev N_safe : List Str := ["words", "one", "other"]
theorem sc_safe : FnScope N_safe ["words"] (defScope s_safe) := ⟨rfl, rfl, rfl, by decide +kernel, rfl, by decide +kernel, by decide +kernel⟩
theorem bi_safe : ∀ (kV doc pm : Value) (an : Option Addr) (cdv ct : Value) (us : List Value), us.length = (["words"] : List Str).length → bindArgs (PySem.W.fnOf "safe" "safe" (defArgs s_safe) (defBody s_safe) (defScope s_safe) .none kV doc pm an cdv ct) ⟨us, []⟩ = pure ((["words"] : List Str).zip us) :=
  fun _ _ _ _ _ _ us hl => match us, hl with | [_], _ => rfl
def b_safe : Bd := bSeq (bAsg 0 (fB (Ph_need) (aCons (cD (.int 1)) (aCons (fB (Ph_to_words) (aCons (vF 0) (aNil))) (aNil))))) (bSeq (bIf (fT (f2 eqD (fB lenD (aCons (vF 0) (aNil))) (cD (.int 1)))) (bRet (cD (.int 8))) (bNext)) (bRet (f2 fdivD (f2 subD (fB minA (aCons (fLc2 (fI (vF 0)) (sN 1) (fYes) (fI (vF 0)) (sN 2) (fT (f2 neD (vF 1) (vF 2))) (fB (Ph_gap_of) (aCons (vF 1) (aCons (vF 2) (aNil)))) [1, 2] [2]) (aNil))) (cD (.int 1))) (cD (.int 2)))))
def Ph_safe : List D → Option D := fnB (N_safe).length (["words"] : List Str).length b_safe
theorem dd_safe (Z : Fx K mg) (cdv : Value) (A : Around) (outer : List Env) (s : Shared) (H : Hp) (E : XK) (hr : Room (7) (A.deeper (envOfC "safe" (defScope s_safe) s.heap.objs.size (He.ga K "safe") cdv))) :
    ∃ W t, DSs (cxOf CX0 P w K mg base N_safe "safe" (defScope s_safe) (He.ga K "safe") cdv A outer s H E).nox .fz W (defBody s_safe) t (b_safe) := ⟨_, _,
  dss_cons (ds_asg (i := 0) (de_fnK K (ok_need Z) hr (by omega) rfl (da_cons (de_int) (da_cons (de_fnK K (ok_to_words Z) hr (by omega) rfl (da_cons (de_v 0) (da_nil))) (da_nil)))) sc_safe.nd) (dss_cons (ds_if (dt_cmp (op_eqDK K hr.u64) ops_eq rfl (de_cb (call_lenK K) cs_len rfl Z.n_len bt_len (da_cons (de_v 0) (da_nil))) (de_int)) (dss_one (ds_ret (de_int))) (dss_nil)) (dss_one (ds_ret (de_op op_fdivN ops_fdiv (de_op op_sub ops_sub (de_cb (cr_minAK K rfl hr.u70) cs_minA rfl Z.n_min bt_min (da_cons (de_lc2 [("one", 1), ("other", 2)] [2] sc_safe.nd (di_anyK K (de_v 0)) (blk_of (N := N_safe) (sc := defScope s_safe) (by decide +kernel)) (fun _ _ _ _ _ => dg_n sc_safe.nd (i := 1)) (fun _ _ _ _ _ => dts_nil) (fun _ _ _ _ _ => di_anyK K (de_v 0)) (fun _ _ _ _ _ => dg_n sc_safe.nd (i := 2)) (fun _ _ _ _ _ => dts_one (dt_cmp (op_neDK K hr.u64) ops_ne rfl (de_v 1) (de_v 2))) (fun _ _ _ _ _ => de_fnK K (ok_gap_of Z) hr (by omega) rfl (da_cons (de_v 1) (da_cons (de_v 2) (da_nil)))) (by decide) (by decide) (ow_n 1) (by decide)) (da_nil))) (de_int)) (de_int)))))⟩
theorem ok_safe (Z : Fx K mg) : Ok P w K mg base 8 "safe" ["words"] .fz Ph_safe := by
  obtain ⟨fd, F⟩ := Z.f_safe
  exact ok_fz (P := P) (w := w) (mg := mg) (base := base) (b := b_safe) (k := 7) (N := N_safe) F sc_safe bi_safe Z.g_safe (dd_safe Z)
abbrev N__law_gap : List Str := ["one", "other", "rows", "i", "row", "j"]
theorem sc__law_gap : FnScope N__law_gap ["one", "other"] (defScope s__law_gap) := ⟨rfl, rfl, rfl, by decide +kernel, rfl, by decide +kernel, by decide +kernel⟩
def L__law_gap_1 : Bd := bApp 4 (fB min3D (aCons (f2 addD (f2 ixD (f2 ixD (vP 2) (f1 negD (cD (.int 1)))) (f2 addD (vF 5) (cD (.int 1)))) (cD (.int 1))) (aCons (f2 addD (f2 ixD (vP 4) (vF 5)) (cD (.int 1))) (aCons (f2 addD (f2 ixD (f2 ixD (vP 2) (f1 negD (cD (.int 1)))) (vF 5)) (fIf (fT (f2 eqD (f2 ixD (vF 0) (vF 3)) (f2 ixD (vF 1) (vF 5)))) (cD (.int 0)) (cD (.int 1)))) (aNil)))))
def L__law_gap_2 : Bd := bSeq (bOwn 4 (fLst (aCons (f2 addD (vF 3) (cD (.int 1))) (aNil)))) (bSeq (bFor (fIs rg1D (aCons (fB lenD (aCons (vF 1) (aNil))) (aNil))) (sN 5) (L__law_gap_1)) (bAppMv 2 4))
theorem bi__law_gap : ∀ (kV doc pm : Value) (an : Option Addr) (cdv ct : Value) (us : List Value), us.length = (["one", "other"] : List Str).length → bindArgs (PySem.W.fnOf "_law_gap" "_law_gap" (defArgs s__law_gap) (defBody s__law_gap) (defScope s__law_gap) .none kV doc pm an cdv ct) ⟨us, []⟩ = pure ((["one", "other"] : List Str).zip us) :=
  fun _ _ _ _ _ _ us hl => match us, hl with | [_, _], _ => rfl
def b__law_gap : Bd := bSeq (bOwn 2 (fLst (aCons (fLr1 (f2 addD (fB lenD (aCons (vF 1) (aNil))) (cD (.int 1)))) (aNil)))) (bSeq (bFor (fIs rg1D (aCons (fB lenD (aCons (vF 0) (aNil))) (aNil))) (sN 3) (L__law_gap_2)) (bRet (f2 ixD (f2 ixD (vP 2) (f1 negD (cD (.int 1)))) (f1 negD (cD (.int 1))))))
def Ph__law_gap : List D → Option D := fnB (N__law_gap).length (["one", "other"] : List Str).length b__law_gap
theorem dd__law_gap (Z : Fx K mg) (cdv : Value) (A : Around) (outer : List Env) (s : Shared) (H : Hp) (E : XK) (hr : Room (0) (A.deeper (envOfC "_law_gap" (defScope s__law_gap) s.heap.objs.size (He.ga K "_law_gap") cdv))) :
    ∃ W t, DSs (cxOf CX0 P w K mg base N__law_gap "_law_gap" (defScope s__law_gap) (He.ga K "_law_gap") cdv A outer s H E).nox .fz W (defBody s__law_gap) t (b__law_gap) := ⟨_, _,
  dss_cons (ds_own (i := 2) (de_lst (da_cons (DE.frz (de_lr1 rfl Z.n_list rfl Z.n_range (de_op (op_addAK K) ops_addA (de_cb (call_lenK K) cs_len rfl Z.n_len bt_len (da_cons (de_v 1) (da_nil))) (de_int)))) (da_nil))) sc__law_gap.nd) (dss_cons (ds_for (di_rg1 rfl Z.n_range (da_cons (de_cb (call_lenK K) cs_len rfl Z.n_len bt_len (da_cons (de_v 0) (da_nil))) (da_nil))) (dg_n sc__law_gap.nd (i := 3)) (dss_cons (ds_own (i := 4) (de_lst (da_cons (de_op (op_addAK K) ops_addA (de_v 3) (de_int)) (da_nil))) sc__law_gap.nd) (dss_cons (ds_for (di_rg1 rfl Z.n_range (da_cons (de_cb (call_lenK K) cs_len rfl Z.n_len bt_len (da_cons (de_v 1) (da_nil))) (da_nil))) (dg_n sc__law_gap.nd (i := 5)) (dss_one (ds_app (j := 4) (de_cb (cr_min3 rfl) cs_min3 rfl Z.n_min bt_min (da_cons (de_op (op_addAK K) ops_addA (de_ixK K (de_ixK K (de_p 2) (de_neg (de_int))) (de_op (op_addAK K) ops_addA (de_v 5) (de_int))) (de_int)) (da_cons (de_op (op_addAK K) ops_addA (de_ixK K (de_p 4) (de_v 5)) (de_int)) (da_cons (de_op (op_addAK K) ops_addA (de_ixK K (de_ixK K (de_p 2) (de_neg (de_int))) (de_v 5)) (de_if (dt_cmp (op_eqDK K hr.u64) ops_eq rfl (de_ixK K (de_v 0) (de_v 3)) (de_ixK K (de_v 1) (de_v 5))) (de_int) (de_int))) (da_nil)))))))) (dss_one (ds_appMv (j := 2) (i := 4)))))) (dss_one (ds_ret (de_ixK K (de_ixK K (de_p 2) (de_neg (de_int))) (de_neg (de_int))))))⟩
theorem ok__law_gap (Z : Fx K mg) : Ok P w K mg base 1 "_law_gap" ["one", "other"] .fz Ph__law_gap := by
  obtain ⟨fd, F⟩ := Z.f__law_gap
  exact ok_fz (P := P) (w := w) (mg := mg) (base := base) (b := b__law_gap) (k := 0) (N := N__law_gap) F sc__law_gap bi__law_gap Z.g__law_gap (dd__law_gap Z)
abbrev N_to_word : List Str := ["value"]
theorem sc_to_word : FnScope N_to_word ["value"] (defScope s_to_word) := ⟨rfl, rfl, rfl, by decide +kernel, rfl, by decide +kernel, by decide +kernel⟩
theorem bi_to_word : ∀ (kV doc pm : Value) (an : Option Addr) (cdv ct : Value) (us : List Value), us.length = (["value"] : List Str).length → bindArgs (PySem.W.fnOf "to_word" "to_word" (defArgs s_to_word) (defBody s_to_word) (defScope s_to_word) .none kV doc pm an cdv ct) ⟨us, []⟩ = pure ((["value"] : List Str).zip us) :=
  fun _ _ _ _ _ _ us hl => match us, hl with | [_], _ => rfl
def b_to_word : Bd := bRet (fIf (fTr (fB (Ph_is_name) (aCons (vF 0) (aNil)))) (vF 0) (cD .none))
def Ph_to_word : List D → Option D := fnB (N_to_word).length (["value"] : List Str).length b_to_word
theorem dd_to_word (Z : Fx K mg) (cdv : Value) (A : Around) (outer : List Env) (s : Shared) (H : Hp) (E : XK) (hr : Room (1) (A.deeper (envOfC "to_word" (defScope s_to_word) s.heap.objs.size (He.ga K "to_word") cdv))) :
    ∃ W t, DSs (cxOf CX0 P w K mg base N_to_word "to_word" (defScope s_to_word) (He.ga K "to_word") cdv A outer s H E).nox .fz W (defBody s_to_word) t (b_to_word) := ⟨_, _,
  dss_one (ds_ret (de_if (dt_truK K (de_fnK K (ok_is_name Z) hr (by omega) rfl (da_cons (de_v 0) (da_nil)))) (de_v 0) (de_non)))⟩
theorem ok_to_word (Z : Fx K mg) : Ok P w K mg base 2 "to_word" ["value"] .fz Ph_to_word := by
  obtain ⟨fd, F⟩ := Z.f_to_word
  exact ok_fz (P := P) (w := w) (mg := mg) (base := base) (b := b_to_word) (k := 1) (N := N_to_word) F sc_to_word bi_to_word Z.g_to_word (dd_to_word Z)
abbrev N_heard_as : List Str := ["words", "word", "nearest", "other"]
theorem sc_heard_as : FnScope N_heard_as ["words", "word"] (defScope s_heard_as) := ⟨rfl, rfl, rfl, by decide +kernel, rfl, by decide +kernel, by decide +kernel⟩
theorem bi_heard_as : ∀ (kV doc pm : Value) (an : Option Addr) (cdv ct : Value) (us : List Value), us.length = (["words", "word"] : List Str).length → bindArgs (PySem.W.fnOf "heard_as" "heard_as" (defArgs s_heard_as) (defBody s_heard_as) (defScope s_heard_as) .none kV doc pm an cdv ct) ⟨us, []⟩ = pure ((["words", "word"] : List Str).zip us) :=
  fun _ _ _ _ _ _ us hl => match us, hl with | [_, _], _ => rfl
def b_heard_as : Bd := bSeq (bAsg 0 (fB (Ph_need) (aCons (cD (.int 1)) (aCons (fB (Ph_to_words) (aCons (vF 0) (aNil))) (aNil))))) (bSeq (bAsg 1 (fB (Ph_need) (aCons (cD (.int 2)) (aCons (fB (Ph_to_word) (aCons (vF 1) (aNil))) (aNil))))) (bSeq (bAsg 2 (fB minA (aCons (fLc (fI (vF 0)) (sN 3) (fYes) (fB (Ph_gap_of) (aCons (vF 3) (aCons (vF 1) (aNil)))) [3]) (aNil)))) (bRet (fTup (aCons (vF 2) (aCons (fB tupD (aCons (fLc (fI (vF 0)) (sN 3) (fT (f2 eqD (fB (Ph_gap_of) (aCons (vF 3) (aCons (vF 1) (aNil)))) (vF 2))) (vF 3) [3]) (aNil))) (aNil)))))))
def Ph_heard_as : List D → Option D := fnB (N_heard_as).length (["words", "word"] : List Str).length b_heard_as
theorem dd_heard_as (Z : Fx K mg) (cdv : Value) (A : Around) (outer : List Env) (s : Shared) (H : Hp) (E : XK) (hr : Room (7) (A.deeper (envOfC "heard_as" (defScope s_heard_as) s.heap.objs.size (He.ga K "heard_as") cdv))) :
    ∃ W t, DSs (cxOf CX0 P w K mg base N_heard_as "heard_as" (defScope s_heard_as) (He.ga K "heard_as") cdv A outer s H E).nox .fz W (defBody s_heard_as) t (b_heard_as) := ⟨_, _,
  dss_cons (ds_asg (i := 0) (de_fnK K (ok_need Z) hr (by omega) rfl (da_cons (de_int) (da_cons (de_fnK K (ok_to_words Z) hr (by omega) rfl (da_cons (de_v 0) (da_nil))) (da_nil)))) sc_heard_as.nd) (dss_cons (ds_asg (i := 1) (de_fnK K (ok_need Z) hr (by omega) rfl (da_cons (de_int) (da_cons (de_fnK K (ok_to_word Z) hr (by omega) rfl (da_cons (de_v 1) (da_nil))) (da_nil)))) sc_heard_as.nd) (dss_cons (ds_asg (i := 2) (de_cb (cr_minAK K rfl hr.u70) cs_minA rfl Z.n_min bt_min (da_cons (de_lc [("other", 3)] sc_heard_as.nd (di_anyK K (de_v 0)) (blk_of (N := N_heard_as) (sc := defScope s_heard_as) (by decide +kernel)) (fun _ _ _ _ _ => dg_n sc_heard_as.nd (i := 3)) (fun _ _ _ _ _ => dts_nil) (fun _ _ _ _ _ => de_fnK K (ok_gap_of Z) hr (by omega) rfl (da_cons (de_v 3) (da_cons (de_v 1) (da_nil)))) (by decide)) (da_nil))) sc_heard_as.nd) (dss_one (ds_ret (de_tup (da_cons (de_v 2) (da_cons (de_ct (cr_tupK K) cs_tup rfl Z.n_tuple bt_tuple (da_cons (de_lc [("other", 3)] sc_heard_as.nd (di_anyK K (de_v 0)) (blk_of (N := N_heard_as) (sc := defScope s_heard_as) (by decide +kernel)) (fun _ _ _ _ _ => dg_n sc_heard_as.nd (i := 3)) (fun _ _ _ _ _ => dts_one (dt_cmp (op_eqDK K hr.u64) ops_eq rfl (de_fnK K (ok_gap_of Z) hr (by omega) rfl (da_cons (de_v 3) (da_cons (de_v 1) (da_nil)))) (de_v 2))) (fun _ _ _ _ _ => de_v 3) (by decide)) (da_nil))) (da_nil))))))))⟩
theorem ok_heard_as (Z : Fx K mg) : Ok P w K mg base 8 "heard_as" ["words", "word"] .fz Ph_heard_as := by
  obtain ⟨fd, F⟩ := Z.f_heard_as
  exact ok_fz (P := P) (w := w) (mg := mg) (base := base) (b := b_heard_as) (k := 7) (N := N_heard_as) F sc_heard_as bi_heard_as Z.g_heard_as (dd_heard_as Z)
abbrev N_slipped : List Str := ["now", "slip", "sort", "place", "letter"]
theorem sc_slipped : FnScope N_slipped ["now", "slip"] (defScope s_slipped) := ⟨rfl, rfl, rfl, by decide +kernel, rfl, by decide +kernel, by decide +kernel⟩
theorem bi_slipped : ∀ (kV doc pm : Value) (an : Option Addr) (cdv ct : Value) (us : List Value), us.length = (["now", "slip"] : List Str).length → bindArgs (PySem.W.fnOf "slipped" "slipped" (defArgs s_slipped) (defBody s_slipped) (defScope s_slipped) .none kV doc pm an cdv ct) ⟨us, []⟩ = pure ((["now", "slip"] : List Str).zip us) :=
  fun _ _ _ _ _ _ us hl => match us, hl with | [_, _], _ => rfl
def b_slipped : Bd := bSeq (bAsgG (vF 1) (sT 3 (sCons (sN 2) (sCons (sN 3) (sCons (sN 4) (sNil)))))) (bSeq (bIf (fT (f2 eqD (vF 2) (cD (.str "out")))) (bRet (f2 addD (fSl (vF 0) (oNo) (oIs (vF 3))) (fSl (vF 0) (oIs (f2 addD (vF 3) (cD (.int 1)))) (oNo)))) (bNext)) (bRet (f2 addD (f2 addD (fSl (vF 0) (oNo) (oIs (vF 3))) (vF 4)) (fSl (vF 0) (oIs (f2 addD (vF 3) (fIf (fT (f2 eqD (vF 2) (cD (.str "change")))) (cD (.int 1)) (cD (.int 0))))) (oNo)))))
def Ph_slipped : List D → Option D := fnB (N_slipped).length (["now", "slip"] : List Str).length b_slipped
theorem dd_slipped (Z : Fx K mg) (cdv : Value) (A : Around) (outer : List Env) (s : Shared) (H : Hp) (E : XK) (hr : Room (0) (A.deeper (envOfC "slipped" (defScope s_slipped) s.heap.objs.size (He.ga K "slipped") cdv))) :
    ∃ W t, DSs (cxOf CX0 P w K mg base N_slipped "slipped" (defScope s_slipped) (He.ga K "slipped") cdv A outer s H E).nox .fz W (defBody s_slipped) t (b_slipped) := ⟨_, _,
  dss_cons (ds_asgG (de_v 1) (dg_tK K (n := 3) (dgs_cons (dg_n sc_slipped.nd (i := 2)) (dgs_cons (dg_n sc_slipped.nd (i := 3)) (dgs_cons (dg_n sc_slipped.nd (i := 4)) (dgs_nil)))))) (dss_cons (ds_if (dt_cmp (op_eqDK K hr.u64) ops_eq rfl (de_v 2) (de_str)) (dss_one (ds_ret (de_op (op_addAK K) ops_addA (de_slK K (de_v 0) (do_no) (do_is (de_v 3))) (de_slK K (de_v 0) (do_is (de_op (op_addAK K) ops_addA (de_v 3) (de_int))) (do_no))))) (dss_nil)) (dss_one (ds_ret (de_op (op_addAK K) ops_addA (de_op (op_addAK K) ops_addA (de_slK K (de_v 0) (do_no) (do_is (de_v 3))) (de_v 4)) (de_slK K (de_v 0) (do_is (de_op (op_addAK K) ops_addA (de_v 3) (de_if (dt_cmp (op_eqDK K hr.u64) ops_eq rfl (de_v 2) (de_str)) (de_int) (de_int)))) (do_no))))))⟩
theorem ok_slipped (Z : Fx K mg) : Ok P w K mg base 1 "slipped" ["now", "slip"] .fz Ph_slipped := by
  obtain ⟨fd, F⟩ := Z.f_slipped
  exact ok_fz (P := P) (w := w) (mg := mg) (base := base) (b := b_slipped) (k := 0) (N := N_slipped) F sc_slipped bi_slipped Z.g_slipped (dd_slipped Z)
abbrev N_is_int : List Str := ["value"]
theorem sc_is_int : FnScope N_is_int ["value"] (defScope s_is_int) := ⟨rfl, rfl, rfl, by decide +kernel, rfl, by decide +kernel, by decide +kernel⟩
theorem bi_is_int : ∀ (kV doc pm : Value) (an : Option Addr) (cdv ct : Value) (us : List Value), us.length = (["value"] : List Str).length → bindArgs (PySem.W.fnOf "is_int" "is_int" (defArgs s_is_int) (defBody s_is_int) (defScope s_is_int) .none kV doc pm an cdv ct) ⟨us, []⟩ = pure ((["value"] : List Str).zip us) :=
  fun _ _ _ _ _ _ us hl => match us, hl with | [_], _ => rfl
def b_is_int : Bd := bRet (fAnd (fIsi "int" (vF 0)) (fNot (fIsi "bool" (vF 0))))
def Ph_is_int : List D → Option D := fnB (N_is_int).length (["value"] : List Str).length b_is_int
theorem dd_is_int (Z : Fx K mg) (cdv : Value) (A : Around) (outer : List Env) (s : Shared) (H : Hp) (E : XK) (hr : Room (0) (A.deeper (envOfC "is_int" (defScope s_is_int) s.heap.objs.size (He.ga K "is_int") cdv))) :
    ∃ W t, DSs (cxOf CX0 P w K mg base N_is_int "is_int" (defScope s_is_int) (He.ga K "is_int") cdv A outer s H E).nox .fz W (defBody s_is_int) t (b_is_int) := ⟨_, _,
  dss_one (ds_ret (de_andK K (de_isiK K rfl rfl Z.n_isinstance bt_isinstance rfl Z.n_int bt_int (de_v 0)) (de_one (de_notK K (de_isiK K rfl rfl Z.n_isinstance bt_isinstance rfl Z.n_bool bt_bool (de_v 0))))))⟩
theorem ok_is_int (Z : Fx K mg) : Ok P w K mg base 1 "is_int" ["value"] .fz Ph_is_int := by
  obtain ⟨fd, F⟩ := Z.f_is_int
  exact ok_fz (P := P) (w := w) (mg := mg) (base := base) (b := b_is_int) (k := 0) (N := N_is_int) F sc_is_int bi_is_int Z.g_is_int (dd_is_int Z)
abbrev N_is_told : List Str := ["value", "told", "at", "member"]
theorem sc_is_told : FnScope N_is_told ["value", "told"] (defScope s_is_told) := ⟨rfl, rfl, rfl, by decide +kernel, rfl, by decide +kernel, by decide +kernel⟩
def L_is_told_1 (φ : List D → Option D) : Bd := bIf (fNotT (fTr (fB φ (aCons (f2 ixD (vF 0) (vF 2)) (aCons (vF 3) (aNil)))))) (bRet (cD (.bool false))) (bNext)
theorem bi_is_told : ∀ (kV doc pm : Value) (an : Option Addr) (cdv ct : Value) (us : List Value), us.length = (["value", "told"] : List Str).length → bindArgs (PySem.W.fnOf "is_told" "is_told" (defArgs s_is_told) (defBody s_is_told) (defScope s_is_told) .none kV doc pm an cdv ct) ⟨us, []⟩ = pure ((["value", "told"] : List Str).zip us) :=
  fun _ _ _ _ _ _ us hl => match us, hl with | [_, _], _ => rfl
def b_is_told (φ : List D → Option D) : Bd := bSeq (bIf (fT (f2 isND (vF 1) (cD .none))) (bRet (f2 isND (vF 0) (cD .none))) (bNext)) (bSeq (bIf (fTr (fIsi "bool" (vF 1))) (bRet (fAnd (fIsi "bool" (vF 0)) (f2 eqD (vF 0) (vF 1)))) (bNext)) (bSeq (bIf (fTr (fIsi "int" (vF 1))) (bRet (fAnd (fB (Ph_is_int) (aCons (vF 0) (aNil))) (f2 eqD (vF 0) (vF 1)))) (bNext)) (bSeq (bIf (fTr (fIsi "str" (vF 1))) (bRet (fAnd (fIsi "str" (vF 0)) (f2 eqD (vF 0) (vF 1)))) (bNext)) (bSeq (bIf (fOrT (fNotT (fTr (fB (Ph_is_seq) (aCons (vF 0) (aNil))))) (fT (f2 neD (fB lenD (aCons (vF 0) (aNil))) (fB lenD (aCons (vF 1) (aNil)))))) (bRet (cD (.bool false))) (bNext)) (bSeq (bFor (fEnum (vF 1)) (sT 2 (sCons (sN 2) (sCons (sN 3) (sNil)))) ((L_is_told_1 φ))) (bRet (cD (.bool true))))))))
def Ph_is_told : Nat → List D → Option D
  | 0 => fun _ => none
  | n + 1 => fnB (N_is_told).length (["value", "told"] : List Str).length (b_is_told (Ph_is_told n))
theorem dd_is_told (Z : Fx K mg) {φ : List D → Option D} (n : Nat) (ih : Ok P w K mg base (n + 1) "is_told" ["value", "told"] .fz φ) (cdv : Value) (A : Around) (outer : List Env) (s : Shared) (H : Hp) (E : XK) (hr : Room (n + 1) (A.deeper (envOfC "is_told" (defScope s_is_told) s.heap.objs.size (He.ga K "is_told") cdv))) :
    ∃ W t, DSs (cxOf CX0 P w K mg base N_is_told "is_told" (defScope s_is_told) (He.ga K "is_told") cdv A outer s H E).nox .fz W (defBody s_is_told) t (b_is_told φ) := ⟨_, _,
  dss_cons (ds_if (dt_cmp L2.op_isN ops_isN rfl (de_v 1) (de_non)) (dss_one (ds_ret (de_cmp L2.op_isN ops_isN rfl (de_v 0) (de_non)))) (dss_nil)) (dss_cons (ds_if (dt_truK K (de_isiK K rfl rfl Z.n_isinstance bt_isinstance rfl Z.n_bool bt_bool (de_v 1))) (dss_one (ds_ret (de_andK K (de_isiK K rfl rfl Z.n_isinstance bt_isinstance rfl Z.n_bool bt_bool (de_v 0)) (de_one (de_cmp (op_eqDK K hr.u64) ops_eq rfl (de_v 0) (de_v 1)))))) (dss_nil)) (dss_cons (ds_if (dt_truK K (de_isiK K rfl rfl Z.n_isinstance bt_isinstance rfl Z.n_int bt_int (de_v 1))) (dss_one (ds_ret (de_andK K (de_fnK K (ok_is_int Z) hr (by omega) rfl (da_cons (de_v 0) (da_nil))) (de_one (de_cmp (op_eqDK K hr.u64) ops_eq rfl (de_v 0) (de_v 1)))))) (dss_nil)) (dss_cons (ds_if (dt_truK K (de_isiK K rfl rfl Z.n_isinstance bt_isinstance rfl Z.n_str bt_str (de_v 1))) (dss_one (ds_ret (de_andK K (de_isiK K rfl rfl Z.n_isinstance bt_isinstance rfl Z.n_str bt_str (de_v 0)) (de_one (de_cmp (op_eqDK K hr.u64) ops_eq rfl (de_v 0) (de_v 1)))))) (dss_nil)) (dss_cons (ds_if (dt_w (dw_or (dt_not (dt_truK K (de_fnK K (ok_is_seq Z) hr (by omega) rfl (da_cons (de_v 0) (da_nil))))) (dw_or1 (dt_cmp (op_neDK K hr.u64) ops_ne rfl (de_cb (call_lenK K) cs_len rfl Z.n_len bt_len (da_cons (de_v 0) (da_nil))) (de_cb (call_lenK K) cs_len rfl Z.n_len bt_len (da_cons (de_v 1) (da_nil))))))) (dss_one (ds_ret (de_bl))) (dss_nil)) (dss_cons (ds_for (di_enumK K rfl Z.n_enumerate (de_v 1)) (dg_tK K (n := 2) (dgs_cons (dg_n sc_is_told.nd (i := 2)) (dgs_cons (dg_n sc_is_told.nd (i := 3)) (dgs_nil)))) (dss_one (ds_if (dt_not (dt_truK K (de_fnK K ih hr (by omega) rfl (da_cons (de_ixK K (de_v 0) (de_v 2)) (da_cons (de_v 3) (da_nil)))))) (dss_one (ds_ret (de_bl))) (dss_nil)))) (dss_one (ds_ret (de_bl))))))))⟩
theorem ok_is_told (Z : Fx K mg) : ∀ n : Nat, Ok P w K mg base (n + 1) "is_told" ["value", "told"] .fz (Ph_is_told n)
  | 0 => by obtain ⟨fd, F⟩ := Z.f_is_told; exact ok_zero F bi_is_told Z.g_is_told
  | n + 1 => by
    obtain ⟨fd, F⟩ := Z.f_is_told
    have e : n + 1 + 1 = n + 1 + 1 := by omega
    rw [e]
    exact ok_fz (P := P) (w := w) (mg := mg) (base := base) (b := b_is_told (Ph_is_told n)) (k := n + 1) (N := N_is_told) F sc_is_told bi_is_told Z.g_is_told (dd_is_told Z n (ok_is_told Z n))
abbrev N_to_member : List Str := ["value", "members", "member"]
theorem sc_to_member : FnScope N_to_member ["value", "members"] (defScope s_to_member) := ⟨rfl, rfl, rfl, by decide +kernel, rfl, by decide +kernel, by decide +kernel⟩
def L_to_member_1 : Bd := bIf (fTr (fB (Ph_is_told 4) (aCons (vF 0) (aCons (vF 2) (aNil))))) (bRet (vF 2)) (bNext)
theorem bi_to_member : ∀ (kV doc pm : Value) (an : Option Addr) (cdv ct : Value) (us : List Value), us.length = (["value", "members"] : List Str).length → bindArgs (PySem.W.fnOf "to_member" "to_member" (defArgs s_to_member) (defBody s_to_member) (defScope s_to_member) .none kV doc pm an cdv ct) ⟨us, []⟩ = pure ((["value", "members"] : List Str).zip us) :=
  fun _ _ _ _ _ _ us hl => match us, hl with | [_, _], _ => rfl
def b_to_member : Bd := bSeq (bFor (fI (vF 1)) (sN 2) (L_to_member_1)) (bRet (cD .none))
def Ph_to_member : List D → Option D := fnB (N_to_member).length (["value", "members"] : List Str).length b_to_member
theorem dd_to_member (Z : Fx K mg) (cdv : Value) (A : Around) (outer : List Env) (s : Shared) (H : Hp) (E : XK) (hr : Room (5) (A.deeper (envOfC "to_member" (defScope s_to_member) s.heap.objs.size (He.ga K "to_member") cdv))) :
    ∃ W t, DSs (cxOf CX0 P w K mg base N_to_member "to_member" (defScope s_to_member) (He.ga K "to_member") cdv A outer s H E).nox .fz W (defBody s_to_member) t (b_to_member) := ⟨_, _,
  dss_cons (ds_for (di_anyK K (de_v 1)) (dg_n sc_to_member.nd (i := 2)) (dss_one (ds_if (dt_truK K (de_fnK K (ok_is_told Z 4) hr (by omega) rfl (da_cons (de_v 0) (da_cons (de_v 2) (da_nil))))) (dss_one (ds_ret (de_v 2))) (dss_nil)))) (dss_one (ds_ret (de_non)))⟩
theorem ok_to_member (Z : Fx K mg) : Ok P w K mg base 6 "to_member" ["value", "members"] .fz Ph_to_member := by
  obtain ⟨fd, F⟩ := Z.f_to_member
  exact ok_fz (P := P) (w := w) (mg := mg) (base := base) (b := b_to_member) (k := 5) (N := N_to_member) F sc_to_member bi_to_member Z.g_to_member (dd_to_member Z)
abbrev N_is_within : List Str := ["value", "low", "high"]
theorem sc_is_within : FnScope N_is_within ["value", "low", "high"] (defScope s_is_within) := ⟨rfl, rfl, rfl, by decide +kernel, rfl, by decide +kernel, by decide +kernel⟩
theorem bi_is_within : ∀ (kV doc pm : Value) (an : Option Addr) (cdv ct : Value) (us : List Value), us.length = (["value", "low", "high"] : List Str).length → bindArgs (PySem.W.fnOf "is_within" "is_within" (defArgs s_is_within) (defBody s_is_within) (defScope s_is_within) .none kV doc pm an cdv ct) ⟨us, []⟩ = pure ((["value", "low", "high"] : List Str).zip us) :=
  fun _ _ _ _ _ _ us hl => match us, hl with | [_, _, _], _ => rfl
def b_is_within : Bd := bRet (fAnd (fB (Ph_is_int) (aCons (vF 0) (aNil))) (f3 leD leD (vF 1) (vF 0) (vF 2)))
def Ph_is_within : List D → Option D := fnB (N_is_within).length (["value", "low", "high"] : List Str).length b_is_within
theorem dd_is_within (Z : Fx K mg) (cdv : Value) (A : Around) (outer : List Env) (s : Shared) (H : Hp) (E : XK) (hr : Room (1) (A.deeper (envOfC "is_within" (defScope s_is_within) s.heap.objs.size (He.ga K "is_within") cdv))) :
    ∃ W t, DSs (cxOf CX0 P w K mg base N_is_within "is_within" (defScope s_is_within) (He.ga K "is_within") cdv A outer s H E).nox .fz W (defBody s_is_within) t (b_is_within) := ⟨_, _,
  dss_one (ds_ret (de_andK K (de_fnK K (ok_is_int Z) hr (by omega) rfl (da_cons (de_v 0) (da_nil))) (de_one (de_chain (op_le_K K hr.u64) (op_le_K K hr.u64) ops_le ops_le (de_v 1) (de_v 0) (de_v 2)))))⟩
theorem ok_is_within (Z : Fx K mg) : Ok P w K mg base 2 "is_within" ["value", "low", "high"] .fz Ph_is_within := by
  obtain ⟨fd, F⟩ := Z.f_is_within
  exact ok_fz (P := P) (w := w) (mg := mg) (base := base) (b := b_is_within) (k := 1) (N := N_is_within) F sc_is_within bi_is_within Z.g_is_within (dd_is_within Z)
abbrev N_is_slip : List Str := ["now", "slip", "sort"]
theorem sc_is_slip : FnScope N_is_slip ["now", "slip"] (defScope s_is_slip) := ⟨rfl, rfl, rfl, by decide +kernel, rfl, by decide +kernel, by decide +kernel⟩
theorem bi_is_slip : ∀ (kV doc pm : Value) (an : Option Addr) (cdv ct : Value) (us : List Value), us.length = (["now", "slip"] : List Str).length → bindArgs (PySem.W.fnOf "is_slip" "is_slip" (defArgs s_is_slip) (defBody s_is_slip) (defScope s_is_slip) .none kV doc pm an cdv ct) ⟨us, []⟩ = pure ((["now", "slip"] : List Str).zip us) :=
  fun _ _ _ _ _ _ us hl => match us, hl with | [_, _], _ => rfl
def b_is_slip : Bd := bSeq (bAsg 2 (fB (Ph_to_member) (aCons (f2 ixD (vF 1) (cD (.int 0))) (aCons (cD (.tuple [.str "out", .str "in", .str "change"])) (aNil))))) (bSeq (bIf (fOrT (fT (f2 isND (vF 2) (cD .none))) (fNotT (fTr (fB (Ph_is_within) (aCons (f2 ixD (vF 1) (cD (.int 1))) (aCons (cD (.int 0)) (aCons (fIf (fT (f2 eqD (vF 2) (cD (.str "in")))) (fB lenD (aCons (vF 0) (aNil))) (f2 subD (fB lenD (aCons (vF 0) (aNil))) (cD (.int 1)))) (aNil)))))))) (bRet (cD (.bool false))) (bNext)) (bSeq (bIf (fT (f2 eqD (vF 2) (cD (.str "out")))) (bRet (f2 isND (f2 ixD (vF 1) (cD (.int 2))) (cD .none))) (bNext)) (bRet (fAnd (fB (Ph_is_name) (aCons (f2 ixD (vF 1) (cD (.int 2))) (aNil))) (f2 eqD (fB lenD (aCons (f2 ixD (vF 1) (cD (.int 2))) (aNil))) (cD (.int 1)))))))
def Ph_is_slip : List D → Option D := fnB (N_is_slip).length (["now", "slip"] : List Str).length b_is_slip
theorem dd_is_slip (Z : Fx K mg) (cdv : Value) (A : Around) (outer : List Env) (s : Shared) (H : Hp) (E : XK) (hr : Room (6) (A.deeper (envOfC "is_slip" (defScope s_is_slip) s.heap.objs.size (He.ga K "is_slip") cdv))) :
    ∃ W t, DSs (cxOf CX0 P w K mg base N_is_slip "is_slip" (defScope s_is_slip) (He.ga K "is_slip") cdv A outer s H E).nox .fz W (defBody s_is_slip) t (b_is_slip) := ⟨_, _,
  dss_cons (ds_asg (i := 2) (de_fnK K (ok_to_member Z) hr (by omega) rfl (da_cons (de_ixK K (de_v 1) (de_int)) (da_cons ((de_globD K rfl Z.k_SORTS.choose_spec.choose_spec.1 Z.k_SORTS.choose_spec.choose_spec.2.1 Z.k_SORTS.choose_spec.choose_spec.2.2)) (da_nil)))) sc_is_slip.nd) (dss_cons (ds_if (dt_w (dw_or (dt_cmp L2.op_isN ops_isN rfl (de_v 2) (de_non)) (dw_or1 (dt_not (dt_truK K (de_fnK K (ok_is_within Z) hr (by omega) rfl (da_cons (de_ixK K (de_v 1) (de_int)) (da_cons (de_int) (da_cons (de_if (dt_cmp (op_eqDK K hr.u64) ops_eq rfl (de_v 2) (de_str)) (de_cb (call_lenK K) cs_len rfl Z.n_len bt_len (da_cons (de_v 0) (da_nil))) (de_op op_sub ops_sub (de_cb (call_lenK K) cs_len rfl Z.n_len bt_len (da_cons (de_v 0) (da_nil))) (de_int))) (da_nil)))))))))) (dss_one (ds_ret (de_bl))) (dss_nil)) (dss_cons (ds_if (dt_cmp (op_eqDK K hr.u64) ops_eq rfl (de_v 2) (de_str)) (dss_one (ds_ret (de_cmp L2.op_isN ops_isN rfl (de_ixK K (de_v 1) (de_int)) (de_non)))) (dss_nil)) (dss_one (ds_ret (de_andK K (de_fnK K (ok_is_name Z) hr (by omega) rfl (da_cons (de_ixK K (de_v 1) (de_int)) (da_nil))) (de_one (de_cmp (op_eqDK K hr.u64) ops_eq rfl (de_cb (call_lenK K) cs_len rfl Z.n_len bt_len (da_cons (de_ixK K (de_v 1) (de_int)) (da_nil))) (de_int))))))))⟩
theorem ok_is_slip (Z : Fx K mg) : Ok P w K mg base 7 "is_slip" ["now", "slip"] .fz Ph_is_slip := by
  obtain ⟨fd, F⟩ := Z.f_is_slip
  exact ok_fz (P := P) (w := w) (mg := mg) (base := base) (b := b_is_slip) (k := 6) (N := N_is_slip) F sc_is_slip bi_is_slip Z.g_is_slip (dd_is_slip Z)
abbrev N_told_on : List Str := ["word", "value", "row", "told", "member", "slip"]
theorem sc_told_on : FnScope N_told_on ["word", "value"] (defScope s_told_on) := ⟨rfl, rfl, rfl, by decide +kernel, rfl, by decide +kernel, by decide +kernel⟩
def L_told_on_1 : Bd := bSeq (bAsg 5 (fB (Ph_to_row) (aCons (vF 4) (aCons (cD (.int 3)) (aCons (cD (.int 3)) (aNil)))))) (bSeq (bIf (fOrT (fT (f2 isND (vF 5) (cD .none))) (fNotT (fTr (fB (Ph_is_slip) (aCons (f2 ixD (vP 3) (f1 negD (cD (.int 1)))) (aCons (vF 5) (aNil))))))) (bRet (cD .none)) (bNext)) (bApp 3 (fB (Ph_slipped) (aCons (f2 ixD (vP 3) (f1 negD (cD (.int 1)))) (aCons (vF 5) (aNil))))))
theorem bi_told_on : ∀ (kV doc pm : Value) (an : Option Addr) (cdv ct : Value) (us : List Value), us.length = (["word", "value"] : List Str).length → bindArgs (PySem.W.fnOf "told_on" "told_on" (defArgs s_told_on) (defBody s_told_on) (defScope s_told_on) .none kV doc pm an cdv ct) ⟨us, []⟩ = pure ((["word", "value"] : List Str).zip us) :=
  fun _ _ _ _ _ _ us hl => match us, hl with | [_, _], _ => rfl
def b_told_on : Bd := bSeq (bAsg 2 (fB (Ph_to_row) (aCons (vF 1) (aCons (cD (.int 0)) (aCons (cD (.int 20)) (aNil)))))) (bSeq (bIf (fT (f2 isND (vF 2) (cD .none))) (bRet (cD .none)) (bNext)) (bSeq (bOwn 3 (fLst (aCons (vF 0) (aNil)))) (bSeq (bFor (fI (vF 2)) (sN 4) (L_told_on_1)) (bRet (vP 3)))))
def Ph_told_on : List D → Option D := fnB (N_told_on).length (["word", "value"] : List Str).length b_told_on
theorem dd_told_on (Z : Fx K mg) (cdv : Value) (A : Around) (outer : List Env) (s : Shared) (H : Hp) (E : XK) (hr : Room (7) (A.deeper (envOfC "told_on" (defScope s_told_on) s.heap.objs.size (He.ga K "told_on") cdv))) :
    ∃ W t, DSs (cxOf CX0 P w K mg base N_told_on "told_on" (defScope s_told_on) (He.ga K "told_on") cdv A outer s H E).nox .fz W (defBody s_told_on) t (b_told_on) := ⟨_, _,
  dss_cons (ds_asg (i := 2) (de_fnK K (ok_to_row Z) hr (by omega) rfl (da_cons (de_v 1) (da_cons (de_int) (da_cons (de_int) (da_nil))))) sc_told_on.nd) (dss_cons (ds_if (dt_cmp L2.op_isN ops_isN rfl (de_v 2) (de_non)) (dss_one (ds_ret (de_non))) (dss_nil)) (dss_cons (ds_own (i := 3) (de_lst (da_cons (de_v 0) (da_nil))) sc_told_on.nd) (dss_cons (ds_for (di_anyK K (de_v 2)) (dg_n sc_told_on.nd (i := 4)) (dss_cons (ds_asg (i := 5) (de_fnK K (ok_to_row Z) hr (by omega) rfl (da_cons (de_v 4) (da_cons (de_int) (da_cons (de_int) (da_nil))))) sc_told_on.nd) (dss_cons (ds_if (dt_w (dw_or (dt_cmp L2.op_isN ops_isN rfl (de_v 5) (de_non)) (dw_or1 (dt_not (dt_truK K (de_fnK K (ok_is_slip Z) hr (by omega) rfl (da_cons (de_ixK K (de_p 3) (de_neg (de_int))) (da_cons (de_v 5) (da_nil))))))))) (dss_one (ds_ret (de_non))) (dss_nil)) (dss_one (ds_app (j := 3) (de_fnK K (ok_slipped Z) hr (by omega) rfl (da_cons (de_ixK K (de_p 3) (de_neg (de_int))) (da_cons (de_v 5) (da_nil))))))))) (dss_one (ds_retP (i := 3))))))⟩
theorem ok_told_on (Z : Fx K mg) : Ok P w K mg base 8 "told_on" ["word", "value"] .fz Ph_told_on := by
  obtain ⟨fd, F⟩ := Z.f_told_on
  exact ok_fz (P := P) (w := w) (mg := mg) (base := base) (b := b_told_on) (k := 7) (N := N_told_on) F sc_told_on bi_told_on Z.g_told_on (dd_told_on Z)
abbrev N_rounds : List Str := ["word", "slips", "told", "now"]
theorem sc_rounds : FnScope N_rounds ["word", "slips"] (defScope s_rounds) := ⟨rfl, rfl, rfl, by decide +kernel, rfl, by decide +kernel, by decide +kernel⟩
theorem bi_rounds : ∀ (kV doc pm : Value) (an : Option Addr) (cdv ct : Value) (us : List Value), us.length = (["word", "slips"] : List Str).length → bindArgs (PySem.W.fnOf "rounds" "rounds" (defArgs s_rounds) (defBody s_rounds) (defScope s_rounds) .none kV doc pm an cdv ct) ⟨us, []⟩ = pure ((["word", "slips"] : List Str).zip us) :=
  fun _ _ _ _ _ _ us hl => match us, hl with | [_, _], _ => rfl
def b_rounds : Bd := bSeq (bAsg 0 (fB (Ph_need) (aCons (cD (.int 1)) (aCons (fB (Ph_to_word) (aCons (vF 0) (aNil))) (aNil))))) (bSeq (bAsg 2 (fB (Ph_need) (aCons (cD (.int 2)) (aCons (fB (Ph_told_on) (aCons (vF 0) (aCons (vF 1) (aNil)))) (aNil))))) (bRet (fIf (fTr (fB allD (aCons (fLc (fI (vF 2)) (sN 3) (fYes) (f3 leD leD (cD (.int 1)) (fB lenD (aCons (vF 3) (aNil))) (cD (.int 8))) [3]) (aNil)))) (f2 ixD (vF 2) (f1 negD (cD (.int 1)))) (cD .none))))
def Ph_rounds : List D → Option D := fnB (N_rounds).length (["word", "slips"] : List Str).length b_rounds
theorem dd_rounds (Z : Fx K mg) (cdv : Value) (A : Around) (outer : List Env) (s : Shared) (H : Hp) (E : XK) (hr : Room (8) (A.deeper (envOfC "rounds" (defScope s_rounds) s.heap.objs.size (He.ga K "rounds") cdv))) :
    ∃ W t, DSs (cxOf CX0 P w K mg base N_rounds "rounds" (defScope s_rounds) (He.ga K "rounds") cdv A outer s H E).nox .fz W (defBody s_rounds) t (b_rounds) := ⟨_, _,
  dss_cons (ds_asg (i := 0) (de_fnK K (ok_need Z) hr (by omega) rfl (da_cons (de_int) (da_cons (de_fnK K (ok_to_word Z) hr (by omega) rfl (da_cons (de_v 0) (da_nil))) (da_nil)))) sc_rounds.nd) (dss_cons (ds_asg (i := 2) (de_fnK K (ok_need Z) hr (by omega) rfl (da_cons (de_int) (da_cons (de_fnK K (ok_told_on Z) hr (by omega) rfl (da_cons (de_v 0) (da_cons (de_v 1) (da_nil)))) (da_nil)))) sc_rounds.nd) (dss_one (ds_ret (de_if (dt_truK K (de_cb (cr_allK K rfl) cs_all rfl Z.n_all bt_all (da_cons (de_lc [("now", 3)] sc_rounds.nd (di_anyK K (de_v 2)) (blk_of (N := N_rounds) (sc := defScope s_rounds) (by decide +kernel)) (fun _ _ _ _ _ => dg_n sc_rounds.nd (i := 3)) (fun _ _ _ _ _ => dts_nil) (fun _ _ _ _ _ => de_chain (op_le_K K hr.u64) (op_le_K K hr.u64) ops_le ops_le (de_int) (de_cb (call_lenK K) cs_len rfl Z.n_len bt_len (da_cons (de_v 3) (da_nil))) (de_globI rfl Z.c_LONGEST)) (by decide)) (da_nil)))) (de_ixK K (de_v 2) (de_neg (de_int))) (de_non)))))⟩
theorem ok_rounds (Z : Fx K mg) : Ok P w K mg base 9 "rounds" ["word", "slips"] .fz Ph_rounds := by
  obtain ⟨fd, F⟩ := Z.f_rounds
  exact ok_fz (P := P) (w := w) (mg := mg) (base := base) (b := b_rounds) (k := 8) (N := N_rounds) F sc_rounds bi_rounds Z.g_rounds (dd_rounds Z)
abbrev N__law_rounds : List Str := ["word", "slips", "good", "sort", "place", "letter"]
theorem sc__law_rounds : FnScope N__law_rounds ["word", "slips"] (defScope s__law_rounds) := ⟨rfl, rfl, rfl, by decide +kernel, rfl, by decide +kernel, by decide +kernel⟩
def L__law_rounds_1 : Bd := bSeq (bIf (fT (f2 eqD (vF 3) (cD (.str "out")))) (bAsg 0 (f2 addD (fSl (vF 0) (oNo) (oIs (vF 4))) (fSl (vF 0) (oIs (f2 addD (vF 4) (cD (.int 1)))) (oNo)))) (bIf (fT (f2 eqD (vF 3) (cD (.str "in")))) (bAsg 0 (f2 addD (f2 addD (fSl (vF 0) (oNo) (oIs (vF 4))) (vF 5)) (fSl (vF 0) (oIs (vF 4)) (oNo)))) (bAsg 0 (f2 addD (f2 addD (fSl (vF 0) (oNo) (oIs (vF 4))) (vF 5)) (fSl (vF 0) (oIs (f2 addD (vF 4) (cD (.int 1)))) (oNo)))))) (bAsg 2 (fAnd (vF 2) (f3 leD leD (cD (.int 1)) (fB lenD (aCons (vF 0) (aNil))) (cD (.int 8)))))
theorem bi__law_rounds : ∀ (kV doc pm : Value) (an : Option Addr) (cdv ct : Value) (us : List Value), us.length = (["word", "slips"] : List Str).length → bindArgs (PySem.W.fnOf "_law_rounds" "_law_rounds" (defArgs s__law_rounds) (defBody s__law_rounds) (defScope s__law_rounds) .none kV doc pm an cdv ct) ⟨us, []⟩ = pure ((["word", "slips"] : List Str).zip us) :=
  fun _ _ _ _ _ _ us hl => match us, hl with | [_, _], _ => rfl
def b__law_rounds : Bd := bSeq (bAsg 2 (cD (.bool true))) (bSeq (bFor (fI (vF 1)) (sT 3 (sCons (sN 3) (sCons (sN 4) (sCons (sN 5) (sNil))))) (L__law_rounds_1)) (bRet (fIf (fTr (vF 2)) (vF 0) (cD .none))))
def Ph__law_rounds : List D → Option D := fnB (N__law_rounds).length (["word", "slips"] : List Str).length b__law_rounds
theorem dd__law_rounds (Z : Fx K mg) (cdv : Value) (A : Around) (outer : List Env) (s : Shared) (H : Hp) (E : XK) (hr : Room (0) (A.deeper (envOfC "_law_rounds" (defScope s__law_rounds) s.heap.objs.size (He.ga K "_law_rounds") cdv))) :
    ∃ W t, DSs (cxOf CX0 P w K mg base N__law_rounds "_law_rounds" (defScope s__law_rounds) (He.ga K "_law_rounds") cdv A outer s H E).nox .fz W (defBody s__law_rounds) t (b__law_rounds) := ⟨_, _,
  dss_cons (ds_asg (i := 2) (de_bl) sc__law_rounds.nd) (dss_cons (ds_for (di_anyK K (de_v 1)) (dg_tK K (n := 3) (dgs_cons (dg_n sc__law_rounds.nd (i := 3)) (dgs_cons (dg_n sc__law_rounds.nd (i := 4)) (dgs_cons (dg_n sc__law_rounds.nd (i := 5)) (dgs_nil))))) (dss_cons (ds_if (dt_cmp (op_eqDK K hr.u64) ops_eq rfl (de_v 3) (de_str)) (dss_one (ds_asg (i := 0) (de_op (op_addAK K) ops_addA (de_slK K (de_v 0) (do_no) (do_is (de_v 4))) (de_slK K (de_v 0) (do_is (de_op (op_addAK K) ops_addA (de_v 4) (de_int))) (do_no))) sc__law_rounds.nd)) (dss_one (ds_if (dt_cmp (op_eqDK K hr.u64) ops_eq rfl (de_v 3) (de_str)) (dss_one (ds_asg (i := 0) (de_op (op_addAK K) ops_addA (de_op (op_addAK K) ops_addA (de_slK K (de_v 0) (do_no) (do_is (de_v 4))) (de_v 5)) (de_slK K (de_v 0) (do_is (de_v 4)) (do_no))) sc__law_rounds.nd)) (dss_one (ds_asg (i := 0) (de_op (op_addAK K) ops_addA (de_op (op_addAK K) ops_addA (de_slK K (de_v 0) (do_no) (do_is (de_v 4))) (de_v 5)) (de_slK K (de_v 0) (do_is (de_op (op_addAK K) ops_addA (de_v 4) (de_int))) (do_no))) sc__law_rounds.nd))))) (dss_one (ds_asg (i := 2) (de_andK K (de_v 2) (de_one (de_chain (op_le_K K hr.u64) (op_le_K K hr.u64) ops_le ops_le (de_int) (de_cb (call_lenK K) cs_len rfl Z.n_len bt_len (da_cons (de_v 0) (da_nil))) (de_int)))) sc__law_rounds.nd)))) (dss_one (ds_ret (de_if (dt_truK K (de_v 2)) (de_v 0) (de_non)))))⟩
theorem ok__law_rounds (Z : Fx K mg) : Ok P w K mg base 1 "_law_rounds" ["word", "slips"] .fz Ph__law_rounds := by
  obtain ⟨fd, F⟩ := Z.f__law_rounds
  exact ok_fz (P := P) (w := w) (mg := mg) (base := base) (b := b__law_rounds) (k := 0) (N := N__law_rounds) F sc__law_rounds bi__law_rounds Z.g__law_rounds (dd__law_rounds Z)
abbrev N_backwards : List Str := ["word"]
theorem sc_backwards : FnScope N_backwards ["word"] (defScope s_backwards) := ⟨rfl, rfl, rfl, by decide +kernel, rfl, by decide +kernel, by decide +kernel⟩
theorem bi_backwards : ∀ (kV doc pm : Value) (an : Option Addr) (cdv ct : Value) (us : List Value), us.length = (["word"] : List Str).length → bindArgs (PySem.W.fnOf "backwards" "backwards" (defArgs s_backwards) (defBody s_backwards) (defScope s_backwards) .none kV doc pm an cdv ct) ⟨us, []⟩ = pure ((["word"] : List Str).zip us) :=
  fun _ _ _ _ _ _ us hl => match us, hl with | [_], _ => rfl
def b_backwards : Bd := bSeq (bAsg 0 (fB (Ph_need) (aCons (cD (.int 1)) (aCons (fB (Ph_to_word) (aCons (vF 0) (aNil))) (aNil))))) (bRet (f2 revTD (vF 0) (f1 negD (cD (.int 1)))))
def Ph_backwards : List D → Option D := fnB (N_backwards).length (["word"] : List Str).length b_backwards
theorem dd_backwards (Z : Fx K mg) (cdv : Value) (A : Around) (outer : List Env) (s : Shared) (H : Hp) (E : XK) (hr : Room (2) (A.deeper (envOfC "backwards" (defScope s_backwards) s.heap.objs.size (He.ga K "backwards") cdv))) :
    ∃ W t, DSs (cxOf CX0 P w K mg base N_backwards "backwards" (defScope s_backwards) (He.ga K "backwards") cdv A outer s H E).nox .fz W (defBody s_backwards) t (b_backwards) := ⟨_, _,
  dss_cons (ds_asg (i := 0) (de_fnK K (ok_need Z) hr (by omega) rfl (da_cons (de_int) (da_cons (de_fnK K (ok_to_word Z) hr (by omega) rfl (da_cons (de_v 0) (da_nil))) (da_nil)))) sc_backwards.nd) (dss_one (ds_ret (de_revT (de_v 0) (de_neg (de_int)))))⟩
theorem ok_backwards (Z : Fx K mg) : Ok P w K mg base 3 "backwards" ["word"] .fz Ph_backwards := by
  obtain ⟨fd, F⟩ := Z.f_backwards
  exact ok_fz (P := P) (w := w) (mg := mg) (base := base) (b := b_backwards) (k := 2) (N := N_backwards) F sc_backwards bi_backwards Z.g_backwards (dd_backwards Z)
abbrev N_shared : List Str := ["word", "other", "row", "letter", "below", "place", "sign"]
theorem sc_shared : FnScope N_shared ["word", "other"] (defScope s_shared) := ⟨rfl, rfl, rfl, by decide +kernel, rfl, by decide +kernel, by decide +kernel⟩
def L_shared_1 : Bd := bApp 4 (fIf (fT (f2 eqD (vF 3) (vF 6))) (f2 addD (f2 ixD (vF 2) (vF 5)) (cD (.int 1))) (fB max2D (aCons (f2 ixD (vF 2) (f2 addD (vF 5) (cD (.int 1)))) (aCons (f2 ixD (vP 4) (vF 5)) (aNil)))))
def L_shared_2 : Bd := bSeq (bOwn 4 (fLst (aCons (cD (.int 0)) (aNil)))) (bSeq (bFor (fEnumS (vF 1)) (sT 2 (sCons (sN 5) (sCons (sN 6) (sNil)))) (L_shared_1)) (bMove 2 4))
theorem bi_shared : ∀ (kV doc pm : Value) (an : Option Addr) (cdv ct : Value) (us : List Value), us.length = (["word", "other"] : List Str).length → bindArgs (PySem.W.fnOf "shared" "shared" (defArgs s_shared) (defBody s_shared) (defScope s_shared) .none kV doc pm an cdv ct) ⟨us, []⟩ = pure ((["word", "other"] : List Str).zip us) :=
  fun _ _ _ _ _ _ us hl => match us, hl with | [_, _], _ => rfl
def b_shared : Bd := bSeq (bAsg 0 (fB (Ph_need) (aCons (cD (.int 1)) (aCons (fB (Ph_to_word) (aCons (vF 0) (aNil))) (aNil))))) (bSeq (bAsg 1 (fB (Ph_need) (aCons (cD (.int 2)) (aCons (fB (Ph_to_word) (aCons (vF 1) (aNil))) (aNil))))) (bSeq (bAsg 2 (f2 repLD (fLst (aCons (cD (.int 0)) (aNil))) (f2 addD (fB lenD (aCons (vF 1) (aNil))) (cD (.int 1))))) (bSeq (bFor (fI (vF 0)) (sN 3) (L_shared_2)) (bRet (f2 ixD (vF 2) (f1 negD (cD (.int 1))))))))
def Ph_shared : List D → Option D := fnB (N_shared).length (["word", "other"] : List Str).length b_shared
theorem dd_shared (Z : Fx K mg) (cdv : Value) (A : Around) (outer : List Env) (s : Shared) (H : Hp) (E : XK) (hr : Room (2) (A.deeper (envOfC "shared" (defScope s_shared) s.heap.objs.size (He.ga K "shared") cdv))) :
    ∃ W t, DSs (cxOf CX0 P w K mg base N_shared "shared" (defScope s_shared) (He.ga K "shared") cdv A outer s H E).nox .fz W (defBody s_shared) t (b_shared) := ⟨_, _,
  dss_cons (ds_asg (i := 0) (de_fnK K (ok_need Z) hr (by omega) rfl (da_cons (de_int) (da_cons (de_fnK K (ok_to_word Z) hr (by omega) rfl (da_cons (de_v 0) (da_nil))) (da_nil)))) sc_shared.nd) (dss_cons (ds_asg (i := 1) (de_fnK K (ok_need Z) hr (by omega) rfl (da_cons (de_int) (da_cons (de_fnK K (ok_to_word Z) hr (by omega) rfl (da_cons (de_v 1) (da_nil))) (da_nil)))) sc_shared.nd) (dss_cons (ds_asg (i := 2) (DE.frz (de_repL (de_lst (da_cons (de_int) (da_nil))) (de_op (op_addAK K) ops_addA (de_cb (call_lenK K) cs_len rfl Z.n_len bt_len (da_cons (de_v 1) (da_nil))) (de_int)))) sc_shared.nd) (dss_cons (ds_for (di_anyK K (de_v 0)) (dg_n sc_shared.nd (i := 3)) (dss_cons (ds_own (i := 4) (de_lst (da_cons (de_int) (da_nil))) sc_shared.nd) (dss_cons (ds_for (di_enumS rfl Z.n_enumerate (de_v 1)) (dg_tK K (n := 2) (dgs_cons (dg_n sc_shared.nd (i := 5)) (dgs_cons (dg_n sc_shared.nd (i := 6)) (dgs_nil)))) (dss_one (ds_app (j := 4) (de_if (dt_cmp (op_eqDK K hr.u64) ops_eq rfl (de_v 3) (de_v 6)) (de_op (op_addAK K) ops_addA (de_ixK K (de_v 2) (de_v 5)) (de_int)) (de_cb (call_max2 rfl) cs_max2 rfl Z.n_max bt_max (da_cons (de_ixK K (de_v 2) (de_op (op_addAK K) ops_addA (de_v 5) (de_int))) (da_cons (de_ixK K (de_p 4) (de_v 5)) (da_nil)))))))) (dss_one (ds_move sc_shared.nd (i := 2) (j := 4)))))) (dss_one (ds_ret (de_ixK K (de_v 2) (de_neg (de_int))))))))⟩
theorem ok_shared (Z : Fx K mg) : Ok P w K mg base 3 "shared" ["word", "other"] .fz Ph_shared := by
  obtain ⟨fd, F⟩ := Z.f_shared
  exact ok_fz (P := P) (w := w) (mg := mg) (base := base) (b := b_shared) (k := 2) (N := N_shared) F sc_shared bi_shared Z.g_shared (dd_shared Z)
abbrev N__law_shared : List Str := ["one", "other", "best", "sign", "row", "j"]
theorem sc__law_shared : FnScope N__law_shared ["one", "other"] (defScope s__law_shared) := ⟨rfl, rfl, rfl, by decide +kernel, rfl, by decide +kernel, by decide +kernel⟩
def L__law_shared_1 : Bd := bApp 4 (fIf (fT (f2 eqD (f2 ixD (vF 1) (vF 5)) (vF 3))) (f2 addD (f2 ixD (vF 2) (vF 5)) (cD (.int 1))) (fB max2D (aCons (f2 ixD (vP 4) (vF 5)) (aCons (f2 ixD (vF 2) (f2 addD (vF 5) (cD (.int 1)))) (aNil)))))
def L__law_shared_2 : Bd := bSeq (bOwn 4 (fLst (aCons (cD (.int 0)) (aNil)))) (bSeq (bFor (fIs rg1D (aCons (fB lenD (aCons (vF 1) (aNil))) (aNil))) (sN 5) (L__law_shared_1)) (bMove 2 4))
theorem bi__law_shared : ∀ (kV doc pm : Value) (an : Option Addr) (cdv ct : Value) (us : List Value), us.length = (["one", "other"] : List Str).length → bindArgs (PySem.W.fnOf "_law_shared" "_law_shared" (defArgs s__law_shared) (defBody s__law_shared) (defScope s__law_shared) .none kV doc pm an cdv ct) ⟨us, []⟩ = pure ((["one", "other"] : List Str).zip us) :=
  fun _ _ _ _ _ _ us hl => match us, hl with | [_, _], _ => rfl
def b__law_shared : Bd := bSeq (bAsg 2 (f2 repLD (fLst (aCons (cD (.int 0)) (aNil))) (f2 addD (fB lenD (aCons (vF 1) (aNil))) (cD (.int 1))))) (bSeq (bFor (fI (vF 0)) (sN 3) (L__law_shared_2)) (bRet (f2 ixD (vF 2) (f1 negD (cD (.int 1))))))
def Ph__law_shared : List D → Option D := fnB (N__law_shared).length (["one", "other"] : List Str).length b__law_shared
theorem dd__law_shared (Z : Fx K mg) (cdv : Value) (A : Around) (outer : List Env) (s : Shared) (H : Hp) (E : XK) (hr : Room (0) (A.deeper (envOfC "_law_shared" (defScope s__law_shared) s.heap.objs.size (He.ga K "_law_shared") cdv))) :
    ∃ W t, DSs (cxOf CX0 P w K mg base N__law_shared "_law_shared" (defScope s__law_shared) (He.ga K "_law_shared") cdv A outer s H E).nox .fz W (defBody s__law_shared) t (b__law_shared) := ⟨_, _,
  dss_cons (ds_asg (i := 2) (DE.frz (de_repL (de_lst (da_cons (de_int) (da_nil))) (de_op (op_addAK K) ops_addA (de_cb (call_lenK K) cs_len rfl Z.n_len bt_len (da_cons (de_v 1) (da_nil))) (de_int)))) sc__law_shared.nd) (dss_cons (ds_for (di_anyK K (de_v 0)) (dg_n sc__law_shared.nd (i := 3)) (dss_cons (ds_own (i := 4) (de_lst (da_cons (de_int) (da_nil))) sc__law_shared.nd) (dss_cons (ds_for (di_rg1 rfl Z.n_range (da_cons (de_cb (call_lenK K) cs_len rfl Z.n_len bt_len (da_cons (de_v 1) (da_nil))) (da_nil))) (dg_n sc__law_shared.nd (i := 5)) (dss_one (ds_app (j := 4) (de_if (dt_cmp (op_eqDK K hr.u64) ops_eq rfl (de_ixK K (de_v 1) (de_v 5)) (de_v 3)) (de_op (op_addAK K) ops_addA (de_ixK K (de_v 2) (de_v 5)) (de_int)) (de_cb (call_max2 rfl) cs_max2 rfl Z.n_max bt_max (da_cons (de_ixK K (de_p 4) (de_v 5)) (da_cons (de_ixK K (de_v 2) (de_op (op_addAK K) ops_addA (de_v 5) (de_int))) (da_nil)))))))) (dss_one (ds_move sc__law_shared.nd (i := 2) (j := 4)))))) (dss_one (ds_ret (de_ixK K (de_v 2) (de_neg (de_int))))))⟩
theorem ok__law_shared (Z : Fx K mg) : Ok P w K mg base 1 "_law_shared" ["one", "other"] .fz Ph__law_shared := by
  obtain ⟨fd, F⟩ := Z.f__law_shared
  exact ok_fz (P := P) (w := w) (mg := mg) (base := base) (b := b__law_shared) (k := 0) (N := N__law_shared) F sc__law_shared bi__law_shared Z.g__law_shared (dd__law_shared Z)
abbrev N_need_within : List Str := ["at", "value", "low", "high"]
theorem sc_need_within : FnScope N_need_within ["at", "value", "low", "high"] (defScope s_need_within) := ⟨rfl, rfl, rfl, by decide +kernel, rfl, by decide +kernel, by decide +kernel⟩
theorem bi_need_within : ∀ (kV doc pm : Value) (an : Option Addr) (cdv ct : Value) (us : List Value), us.length = (["at", "value", "low", "high"] : List Str).length → bindArgs (PySem.W.fnOf "need_within" "need_within" (defArgs s_need_within) (defBody s_need_within) (defScope s_need_within) .none kV doc pm an cdv ct) ⟨us, []⟩ = pure ((["at", "value", "low", "high"] : List Str).zip us) :=
  fun _ _ _ _ _ _ us hl => match us, hl with | [_, _, _, _], _ => rfl
def b_need_within : Bd := bSeq (bIf (fNotT (fTr (fB (Ph_is_within) (aCons (vF 1) (aCons (vF 2) (aCons (vF 3) (aNil))))))) (bNever) (bNext)) (bRet (vF 1))
def Ph_need_within : List D → Option D := fnB (N_need_within).length (["at", "value", "low", "high"] : List Str).length b_need_within
theorem dd_need_within (Z : Fx K mg) (cdv : Value) (A : Around) (outer : List Env) (s : Shared) (H : Hp) (E : XK) (hr : Room (2) (A.deeper (envOfC "need_within" (defScope s_need_within) s.heap.objs.size (He.ga K "need_within") cdv))) :
    ∃ W t, DSs (cxOf CX0 P w K mg base N_need_within "need_within" (defScope s_need_within) (He.ga K "need_within") cdv A outer s H E).nox .fz W (defBody s_need_within) t (b_need_within) := ⟨_, _,
  dss_cons (ds_if (dt_not (dt_truK K (de_fnK K (ok_is_within Z) hr (by omega) rfl (da_cons (de_v 1) (da_cons (de_v 2) (da_cons (de_v 3) (da_nil))))))) (dss_one (ds_never)) (dss_nil)) (dss_one (ds_ret (de_v 1)))⟩
theorem ok_need_within (Z : Fx K mg) : Ok P w K mg base 3 "need_within" ["at", "value", "low", "high"] .fz Ph_need_within := by
  obtain ⟨fd, F⟩ := Z.f_need_within
  exact ok_fz (P := P) (w := w) (mg := mg) (base := base) (b := b_need_within) (k := 2) (N := N_need_within) F sc_need_within bi_need_within Z.g_need_within (dd_need_within Z)
abbrev N_web : List Str := ["words", "most", "told", "at", "one", "other"]
theorem sc_web : FnScope N_web ["words", "most"] (defScope s_web) := ⟨rfl, rfl, rfl, by decide +kernel, rfl, by decide +kernel, by decide +kernel⟩
def L_web_1 : Bd := bExt 2 (fLc (fI (fSl (vF 0) (oIs (f2 addD (vF 3) (cD (.int 1)))) (oNo))) (sN 5) (fT (f2 leD (fB (Ph_gap_of) (aCons (vF 4) (aCons (vF 5) (aNil)))) (vF 1))) (fTup (aCons (vF 4) (aCons (vF 5) (aNil)))) [5])
theorem bi_web : ∀ (kV doc pm : Value) (an : Option Addr) (cdv ct : Value) (us : List Value), us.length = (["words", "most"] : List Str).length → bindArgs (PySem.W.fnOf "web" "web" (defArgs s_web) (defBody s_web) (defScope s_web) .none kV doc pm an cdv ct) ⟨us, []⟩ = pure ((["words", "most"] : List Str).zip us) :=
  fun _ _ _ _ _ _ us hl => match us, hl with | [_, _], _ => rfl
def b_web : Bd := bSeq (bAsg 0 (fB (Ph_need) (aCons (cD (.int 1)) (aCons (fB (Ph_to_words) (aCons (vF 0) (aNil))) (aNil))))) (bSeq (bAsg 1 (fB (Ph_need_within) (aCons (cD (.int 2)) (aCons (vF 1) (aCons (cD (.int 0)) (aCons (cD (.int 8)) (aNil))))))) (bSeq (bOwn 2 (fLst (aNil))) (bSeq (bFor (fEnum (vF 0)) (sT 2 (sCons (sN 3) (sCons (sN 4) (sNil)))) (L_web_1)) (bRet (fB tupD (aCons (vP 2) (aNil)))))))
def Ph_web : List D → Option D := fnB (N_web).length (["words", "most"] : List Str).length b_web
theorem dd_web (Z : Fx K mg) (cdv : Value) (A : Around) (outer : List Env) (s : Shared) (H : Hp) (E : XK) (hr : Room (7) (A.deeper (envOfC "web" (defScope s_web) s.heap.objs.size (He.ga K "web") cdv))) :
    ∃ W t, DSs (cxOf CX0 P w K mg base N_web "web" (defScope s_web) (He.ga K "web") cdv A outer s H E).nox .fz W (defBody s_web) t (b_web) := ⟨_, _,
  dss_cons (ds_asg (i := 0) (de_fnK K (ok_need Z) hr (by omega) rfl (da_cons (de_int) (da_cons (de_fnK K (ok_to_words Z) hr (by omega) rfl (da_cons (de_v 0) (da_nil))) (da_nil)))) sc_web.nd) (dss_cons (ds_asg (i := 1) (de_fnK K (ok_need_within Z) hr (by omega) rfl (da_cons (de_int) (da_cons (de_v 1) (da_cons (de_int) (da_cons (de_int) (da_nil)))))) sc_web.nd) (dss_cons (ds_own (i := 2) (de_lst (da_nil)) sc_web.nd) (dss_cons (ds_for (di_enumK K rfl Z.n_enumerate (de_v 0)) (dg_tK K (n := 2) (dgs_cons (dg_n sc_web.nd (i := 3)) (dgs_cons (dg_n sc_web.nd (i := 4)) (dgs_nil)))) (dss_one (ds_ext (j := 2) (de_lc [("other", 5)] sc_web.nd (di_anyK K (de_slK K (de_v 0) (do_is (de_op (op_addAK K) ops_addA (de_v 3) (de_int))) (do_no))) (blk_of (N := N_web) (sc := defScope s_web) (by decide +kernel)) (fun _ _ _ _ _ => dg_n sc_web.nd (i := 5)) (fun _ _ _ _ _ => dts_one (dt_cmp (op_le_K K hr.u64) ops_le rfl (de_fnK K (ok_gap_of Z) hr (by omega) rfl (da_cons (de_v 4) (da_cons (de_v 5) (da_nil)))) (de_v 1))) (fun _ _ _ _ _ => de_tup (da_cons (de_v 4) (da_cons (de_v 5) (da_nil)))) (by decide))))) (dss_one (ds_ret (de_ct (cr_tupK K) cs_tup rfl Z.n_tuple bt_tuple (da_cons (de_p 2) (da_nil))))))))⟩
theorem ok_web (Z : Fx K mg) : Ok P w K mg base 8 "web" ["words", "most"] .fz Ph_web := by
  obtain ⟨fd, F⟩ := Z.f_web
  exact ok_fz (P := P) (w := w) (mg := mg) (base := base) (b := b_web) (k := 7) (N := N_web) F sc_web bi_web Z.g_web (dd_web Z)
abbrev N_to_heard : List Str := ["value", "row", "known"]
theorem sc_to_heard : FnScope N_to_heard ["value"] (defScope s_to_heard) := ⟨rfl, rfl, rfl, by decide +kernel, rfl, by decide +kernel, by decide +kernel⟩
theorem bi_to_heard : ∀ (kV doc pm : Value) (an : Option Addr) (cdv ct : Value) (us : List Value), us.length = (["value"] : List Str).length → bindArgs (PySem.W.fnOf "to_heard" "to_heard" (defArgs s_to_heard) (defBody s_to_heard) (defScope s_to_heard) .none kV doc pm an cdv ct) ⟨us, []⟩ = pure ((["value"] : List Str).zip us) :=
  fun _ _ _ _ _ _ us hl => match us, hl with | [_], _ => rfl
def b_to_heard : Bd := bSeq (bAsg 1 (fB (Ph_to_row) (aCons (vF 0) (aCons (cD (.int 1)) (aCons (cD (.int 10)) (aNil)))))) (bSeq (bIf (fOrT (fT (f2 isND (vF 1) (cD .none))) (fNotT (fTr (fB allD (aCons (fLc (fI (vF 1)) (sN 2) (fYes) (fOr (f2 isND (vF 2) (cD .none)) (fB (Ph_is_name) (aCons (vF 2) (aNil)))) [2]) (aNil)))))) (bRet (cD .none)) (bNext)) (bRet (vF 1)))
def Ph_to_heard : List D → Option D := fnB (N_to_heard).length (["value"] : List Str).length b_to_heard
theorem dd_to_heard (Z : Fx K mg) (cdv : Value) (A : Around) (outer : List Env) (s : Shared) (H : Hp) (E : XK) (hr : Room (2) (A.deeper (envOfC "to_heard" (defScope s_to_heard) s.heap.objs.size (He.ga K "to_heard") cdv))) :
    ∃ W t, DSs (cxOf CX0 P w K mg base N_to_heard "to_heard" (defScope s_to_heard) (He.ga K "to_heard") cdv A outer s H E).nox .fz W (defBody s_to_heard) t (b_to_heard) := ⟨_, _,
  dss_cons (ds_asg (i := 1) (de_fnK K (ok_to_row Z) hr (by omega) rfl (da_cons (de_v 0) (da_cons (de_int) (da_cons (de_int) (da_nil))))) sc_to_heard.nd) (dss_cons (ds_if (dt_w (dw_or (dt_cmp L2.op_isN ops_isN rfl (de_v 1) (de_non)) (dw_or1 (dt_not (dt_truK K (de_cb (cr_allK K rfl) cs_all rfl Z.n_all bt_all (da_cons (de_lc [("known", 2)] sc_to_heard.nd (di_anyK K (de_v 1)) (blk_of (N := N_to_heard) (sc := defScope s_to_heard) (by decide +kernel)) (fun _ _ _ _ _ => dg_n sc_to_heard.nd (i := 2)) (fun _ _ _ _ _ => dts_nil) (fun _ _ _ _ _ => de_orK K (de_cmp L2.op_isN ops_isN rfl (de_v 2) (de_non)) (de_one (de_fnK K (ok_is_name Z) hr (by omega) rfl (da_cons (de_v 2) (da_nil))))) (by decide)) (da_nil)))))))) (dss_one (ds_ret (de_non))) (dss_nil)) (dss_one (ds_ret (de_v 1))))⟩
theorem ok_to_heard (Z : Fx K mg) : Ok P w K mg base 3 "to_heard" ["value"] .fz Ph_to_heard := by
  obtain ⟨fd, F⟩ := Z.f_to_heard
  exact ok_fz (P := P) (w := w) (mg := mg) (base := base) (b := b_to_heard) (k := 2) (N := N_to_heard) F sc_to_heard bi_to_heard Z.g_to_heard (dd_to_heard Z)
abbrev N_floor_of : List Str := ["word", "heard", "told", "known"]
theorem sc_floor_of : FnScope N_floor_of ["word", "heard"] (defScope s_floor_of) := ⟨rfl, rfl, rfl, by decide +kernel, rfl, by decide +kernel, by decide +kernel⟩
def L_floor_of_1 : Bd := bIf (fT (f2 notND (vF 3) (cD .none))) (bSeq (bApp 2 (fB (Ph_gap_of) (aCons (vF 0) (aCons (vF 3) (aNil))))) (bAsg 0 (vF 3))) (bNext)
theorem bi_floor_of : ∀ (kV doc pm : Value) (an : Option Addr) (cdv ct : Value) (us : List Value), us.length = (["word", "heard"] : List Str).length → bindArgs (PySem.W.fnOf "floor_of" "floor_of" (defArgs s_floor_of) (defBody s_floor_of) (defScope s_floor_of) .none kV doc pm an cdv ct) ⟨us, []⟩ = pure ((["word", "heard"] : List Str).zip us) :=
  fun _ _ _ _ _ _ us hl => match us, hl with | [_, _], _ => rfl
def b_floor_of : Bd := bSeq (bOwn 2 (fLst (aNil))) (bSeq (bFor (fI (vF 1)) (sN 3) (L_floor_of_1)) (bRet (fB tupD (aCons (vP 2) (aNil)))))
def Ph_floor_of : List D → Option D := fnB (N_floor_of).length (["word", "heard"] : List Str).length b_floor_of
theorem dd_floor_of (Z : Fx K mg) (cdv : Value) (A : Around) (outer : List Env) (s : Shared) (H : Hp) (E : XK) (hr : Room (1) (A.deeper (envOfC "floor_of" (defScope s_floor_of) s.heap.objs.size (He.ga K "floor_of") cdv))) :
    ∃ W t, DSs (cxOf CX0 P w K mg base N_floor_of "floor_of" (defScope s_floor_of) (He.ga K "floor_of") cdv A outer s H E).nox .fz W (defBody s_floor_of) t (b_floor_of) := ⟨_, _,
  dss_cons (ds_own (i := 2) (de_lst (da_nil)) sc_floor_of.nd) (dss_cons (ds_for (di_anyK K (de_v 1)) (dg_n sc_floor_of.nd (i := 3)) (dss_one (ds_if (dt_cmp L2.op_notN ops_notN rfl (de_v 3) (de_non)) (dss_cons (ds_app (j := 2) (de_fnK K (ok_gap_of Z) hr (by omega) rfl (da_cons (de_v 0) (da_cons (de_v 3) (da_nil))))) (dss_one (ds_asg (i := 0) (de_v 3) sc_floor_of.nd))) (dss_nil)))) (dss_one (ds_ret (de_ct (cr_tupK K) cs_tup rfl Z.n_tuple bt_tuple (da_cons (de_p 2) (da_nil))))))⟩
theorem ok_floor_of (Z : Fx K mg) : Ok P w K mg base 2 "floor_of" ["word", "heard"] .fz Ph_floor_of := by
  obtain ⟨fd, F⟩ := Z.f_floor_of
  exact ok_fz (P := P) (w := w) (mg := mg) (base := base) (b := b_floor_of) (k := 1) (N := N_floor_of) F sc_floor_of bi_floor_of Z.g_floor_of (dd_floor_of Z)
abbrev N_nearest_start : List Str := ["words", "heard", "word"]
theorem sc_nearest_start : FnScope N_nearest_start ["words", "heard"] (defScope s_nearest_start) := ⟨rfl, rfl, rfl, by decide +kernel, rfl, by decide +kernel, by decide +kernel⟩
theorem bi_nearest_start : ∀ (kV doc pm : Value) (an : Option Addr) (cdv ct : Value) (us : List Value), us.length = (["words", "heard"] : List Str).length → bindArgs (PySem.W.fnOf "nearest_start" "nearest_start" (defArgs s_nearest_start) (defBody s_nearest_start) (defScope s_nearest_start) .none kV doc pm an cdv ct) ⟨us, []⟩ = pure ((["words", "heard"] : List Str).zip us) :=
  fun _ _ _ _ _ _ us hl => match us, hl with | [_, _], _ => rfl
def b_nearest_start : Bd := bSeq (bAsg 0 (fB (Ph_need) (aCons (cD (.int 1)) (aCons (fB (Ph_to_words) (aCons (vF 0) (aNil))) (aNil))))) (bSeq (bAsg 1 (fB (Ph_need) (aCons (cD (.int 2)) (aCons (fB (Ph_to_heard) (aCons (vF 1) (aNil))) (aNil))))) (bRet (fB minA (aCons (fLc (fI (vF 0)) (sN 2) (fYes) (fTup (aCons (fB sumD (aCons (fB (Ph_floor_of) (aCons (vF 2) (aCons (vF 1) (aNil)))) (aNil))) (aCons (vF 2) (aNil)))) [2]) (aNil)))))
def Ph_nearest_start : List D → Option D := fnB (N_nearest_start).length (["words", "heard"] : List Str).length b_nearest_start
theorem dd_nearest_start (Z : Fx K mg) (cdv : Value) (A : Around) (outer : List Env) (s : Shared) (H : Hp) (E : XK) (hr : Room (7) (A.deeper (envOfC "nearest_start" (defScope s_nearest_start) s.heap.objs.size (He.ga K "nearest_start") cdv))) :
    ∃ W t, DSs (cxOf CX0 P w K mg base N_nearest_start "nearest_start" (defScope s_nearest_start) (He.ga K "nearest_start") cdv A outer s H E).nox .fz W (defBody s_nearest_start) t (b_nearest_start) := ⟨_, _,
  dss_cons (ds_asg (i := 0) (de_fnK K (ok_need Z) hr (by omega) rfl (da_cons (de_int) (da_cons (de_fnK K (ok_to_words Z) hr (by omega) rfl (da_cons (de_v 0) (da_nil))) (da_nil)))) sc_nearest_start.nd) (dss_cons (ds_asg (i := 1) (de_fnK K (ok_need Z) hr (by omega) rfl (da_cons (de_int) (da_cons (de_fnK K (ok_to_heard Z) hr (by omega) rfl (da_cons (de_v 1) (da_nil))) (da_nil)))) sc_nearest_start.nd) (dss_one (ds_ret (de_cb (cr_minAK K rfl hr.u70) cs_minA rfl Z.n_min bt_min (da_cons (de_lc [("word", 2)] sc_nearest_start.nd (di_anyK K (de_v 0)) (blk_of (N := N_nearest_start) (sc := defScope s_nearest_start) (by decide +kernel)) (fun _ _ _ _ _ => dg_n sc_nearest_start.nd (i := 2)) (fun _ _ _ _ _ => dts_nil) (fun _ _ _ _ _ => de_tup (da_cons (de_cb (cr_sumAK K rfl) cs_sum rfl Z.n_sum bt_sum (da_cons (de_fnK K (ok_floor_of Z) hr (by omega) rfl (da_cons (de_v 2) (da_cons (de_v 1) (da_nil)))) (da_nil))) (da_cons (de_v 2) (da_nil)))) (by decide)) (da_nil))))))⟩
theorem ok_nearest_start (Z : Fx K mg) : Ok P w K mg base 8 "nearest_start" ["words", "heard"] .fz Ph_nearest_start := by
  obtain ⟨fd, F⟩ := Z.f_nearest_start
  exact ok_fz (P := P) (w := w) (mg := mg) (base := base) (b := b_nearest_start) (k := 7) (N := N_nearest_start) F sc_nearest_start bi_nearest_start Z.g_nearest_start (dd_nearest_start Z)
abbrev N_started : List Str := ["words", "heard", "most", "word"]
theorem sc_started : FnScope N_started ["words", "heard", "most"] (defScope s_started) := ⟨rfl, rfl, rfl, by decide +kernel, rfl, by decide +kernel, by decide +kernel⟩
theorem bi_started : ∀ (kV doc pm : Value) (an : Option Addr) (cdv ct : Value) (us : List Value), us.length = (["words", "heard", "most"] : List Str).length → bindArgs (PySem.W.fnOf "started" "started" (defArgs s_started) (defBody s_started) (defScope s_started) .none kV doc pm an cdv ct) ⟨us, []⟩ = pure ((["words", "heard", "most"] : List Str).zip us) :=
  fun _ _ _ _ _ _ us hl => match us, hl with | [_, _, _], _ => rfl
def b_started : Bd := bSeq (bAsg 0 (fB (Ph_need) (aCons (cD (.int 1)) (aCons (fB (Ph_to_words) (aCons (vF 0) (aNil))) (aNil))))) (bSeq (bAsg 1 (fB (Ph_need) (aCons (cD (.int 2)) (aCons (fB (Ph_to_heard) (aCons (vF 1) (aNil))) (aNil))))) (bSeq (bAsg 2 (fB (Ph_need_within) (aCons (cD (.int 3)) (aCons (vF 2) (aCons (cD (.int 0)) (aCons (cD (.int 80)) (aNil))))))) (bRet (fB tupD (aCons (fLc (fI (vF 0)) (sN 3) (fT (f2 leD (fB sumD (aCons (fB (Ph_floor_of) (aCons (vF 3) (aCons (vF 1) (aNil)))) (aNil))) (vF 2))) (vF 3) [3]) (aNil))))))
def Ph_started : List D → Option D := fnB (N_started).length (["words", "heard", "most"] : List Str).length b_started
theorem dd_started (Z : Fx K mg) (cdv : Value) (A : Around) (outer : List Env) (s : Shared) (H : Hp) (E : XK) (hr : Room (7) (A.deeper (envOfC "started" (defScope s_started) s.heap.objs.size (He.ga K "started") cdv))) :
    ∃ W t, DSs (cxOf CX0 P w K mg base N_started "started" (defScope s_started) (He.ga K "started") cdv A outer s H E).nox .fz W (defBody s_started) t (b_started) := ⟨_, _,
  dss_cons (ds_asg (i := 0) (de_fnK K (ok_need Z) hr (by omega) rfl (da_cons (de_int) (da_cons (de_fnK K (ok_to_words Z) hr (by omega) rfl (da_cons (de_v 0) (da_nil))) (da_nil)))) sc_started.nd) (dss_cons (ds_asg (i := 1) (de_fnK K (ok_need Z) hr (by omega) rfl (da_cons (de_int) (da_cons (de_fnK K (ok_to_heard Z) hr (by omega) rfl (da_cons (de_v 1) (da_nil))) (da_nil)))) sc_started.nd) (dss_cons (ds_asg (i := 2) (de_fnK K (ok_need_within Z) hr (by omega) rfl (da_cons (de_int) (da_cons (de_v 2) (da_cons (de_int) (da_cons (de_int) (da_nil)))))) sc_started.nd) (dss_one (ds_ret (de_ct (cr_tupK K) cs_tup rfl Z.n_tuple bt_tuple (da_cons (de_lc [("word", 3)] sc_started.nd (di_anyK K (de_v 0)) (blk_of (N := N_started) (sc := defScope s_started) (by decide +kernel)) (fun _ _ _ _ _ => dg_n sc_started.nd (i := 3)) (fun _ _ _ _ _ => dts_one (dt_cmp (op_le_K K hr.u64) ops_le rfl (de_cb (cr_sumAK K rfl) cs_sum rfl Z.n_sum bt_sum (da_cons (de_fnK K (ok_floor_of Z) hr (by omega) rfl (da_cons (de_v 3) (da_cons (de_v 1) (da_nil)))) (da_nil))) (de_v 2))) (fun _ _ _ _ _ => de_v 3) (by decide)) (da_nil)))))))⟩
theorem ok_started (Z : Fx K mg) : Ok P w K mg base 8 "started" ["words", "heard", "most"] .fz Ph_started := by
  obtain ⟨fd, F⟩ := Z.f_started
  exact ok_fz (P := P) (w := w) (mg := mg) (base := base) (b := b_started) (k := 7) (N := N_started) F sc_started bi_started Z.g_started (dd_started Z)
abbrev N__law_listed : List Str := ["value", "one"]
theorem sc__law_listed : FnScope N__law_listed ["value"] (defScope s__law_listed) := ⟨rfl, rfl, rfl, by decide +kernel, rfl, by decide +kernel, by decide +kernel⟩
theorem bi__law_listed : ∀ (kV doc pm : Value) (an : Option Addr) (cdv ct : Value) (us : List Value), us.length = (["value"] : List Str).length → bindArgs (PySem.W.fnOf "_law_listed" "_law_listed" (defArgs s__law_listed) (defBody s__law_listed) (defScope s__law_listed) .none kV doc pm an cdv ct) ⟨us, []⟩ = pure ((["value"] : List Str).zip us) :=
  fun _ _ _ _ _ _ us hl => match us, hl with | [_], _ => rfl
def b__law_listed (φ : List D → Option D) : Bd := bSeq (bIf (fTr (fIsi "tuple" (vF 0))) (bRet (fLc (fI (vF 0)) (sN 1) (fYes) (fB φ (aCons (vF 1) (aNil))) [1])) (bNext)) (bRet (vF 0))
def Ph__law_listed : Nat → List D → Option D
  | 0 => fun _ => none
  | n + 1 => fnB (N__law_listed).length (["value"] : List Str).length (b__law_listed (Ph__law_listed n))
theorem dd__law_listed (Z : Fx K mg) {φ : List D → Option D} (n : Nat) (ih : Ok P w K mg base (n + 0) "_law_listed" ["value"] .fz φ) (cdv : Value) (A : Around) (outer : List Env) (s : Shared) (H : Hp) (E : XK) (hr : Room (n + 0) (A.deeper (envOfC "_law_listed" (defScope s__law_listed) s.heap.objs.size (He.ga K "_law_listed") cdv))) :
    ∃ W t, DSs (cxOf CX0 P w K mg base N__law_listed "_law_listed" (defScope s__law_listed) (He.ga K "_law_listed") cdv A outer s H E).nox .fz W (defBody s__law_listed) t (b__law_listed φ) := ⟨_, _,
  dss_cons (ds_if (dt_truK K (de_isiK K rfl rfl Z.n_isinstance bt_isinstance rfl Z.n_tuple bt_tuple (de_v 0))) (dss_one (ds_ret (DE.frz (de_lc [("one", 1)] sc__law_listed.nd (di_anyK K (de_v 0)) (blk_of (N := N__law_listed) (sc := defScope s__law_listed) (by decide +kernel)) (fun _ _ _ _ _ => dg_n sc__law_listed.nd (i := 1)) (fun _ _ _ _ _ => dts_nil) (fun _ _ _ _ _ => de_fnK K ih hr (by omega) rfl (da_cons (de_v 1) (da_nil))) (by decide))))) (dss_nil)) (dss_one (ds_ret (de_v 0)))⟩
theorem ok__law_listed (Z : Fx K mg) : ∀ n : Nat, Ok P w K mg base (n + 0) "_law_listed" ["value"] .fz (Ph__law_listed n)
  | 0 => by obtain ⟨fd, F⟩ := Z.f__law_listed; exact ok_zero F bi__law_listed Z.g__law_listed
  | n + 1 => by
    obtain ⟨fd, F⟩ := Z.f__law_listed
    have e : n + 1 + 0 = n + 0 + 1 := by omega
    rw [e]
    exact ok_fz (P := P) (w := w) (mg := mg) (base := base) (b := b__law_listed (Ph__law_listed n)) (k := n + 0) (N := N__law_listed) F sc__law_listed bi__law_listed Z.g__law_listed (dd__law_listed Z n (ok__law_listed Z n))
abbrev N_steps_to : List Str := ["words", "goal", "far", "waiting", "one", "other"]
theorem sc_steps_to : FnScope N_steps_to ["words", "goal"] (defScope s_steps_to) := ⟨rfl, rfl, rfl, by decide +kernel, rfl, by decide +kernel, by decide +kernel⟩
def L_steps_to_1 : Bd := bIf (fAndT (fT (f2 (dinD not) (vF 5) (vP 2))) (fT (f2 eqD (fB (Ph_gap_of) (aCons (vF 4) (aCons (vF 5) (aNil)))) (cD (.int 1))))) (bSeq (bDput 2 (vF 5) (f2 addD (f2 dgetD (vP 2) (vF 4)) (cD (.int 1)))) (bApp 3 (vF 5))) (bNext)
def C_steps_to_1 : Rho → Option Bool := fTr (vP 3)
def W_steps_to_1 : Bd := bSeq (bAsgX 4 (xPopAt 3 (cD (.int 0)))) (bFor (fI (vF 0)) (sN 5) (L_steps_to_1))
theorem bi_steps_to : ∀ (kV doc pm : Value) (an : Option Addr) (cdv ct : Value) (us : List Value), us.length = (["words", "goal"] : List Str).length → bindArgs (PySem.W.fnOf "steps_to" "steps_to" (defArgs s_steps_to) (defBody s_steps_to) (defScope s_steps_to) .none kV doc pm an cdv ct) ⟨us, []⟩ = pure ((["words", "goal"] : List Str).zip us) :=
  fun _ _ _ _ _ _ us hl => match us, hl with | [_, _], _ => rfl
def b_steps_to : Bd := bSeq (bOwn 2 (f2 disp1D (vF 1) (cD (.int 0)))) (bSeq (bOwn 3 (fLst (aCons (vF 1) (aNil)))) (bSeq (whileL (C_steps_to_1) (W_steps_to_1) 400) (bRet (vO 2))))
def Ph_steps_to : List D → Option D := fnR (N_steps_to).length (["words", "goal"] : List Str).length b_steps_to
theorem dd_steps_to (Z : Fx K mg) (cdv : Value) (A : Around) (outer : List Env) (s : Shared) (H : Hp) (E : XK) (hr : Room (1) (A.deeper (envOfC "steps_to" (defScope s_steps_to) s.heap.objs.size (He.ga K "steps_to") cdv))) :
    ∃ W t, DSs (cxOf CX0 P w K mg base N_steps_to "steps_to" (defScope s_steps_to) (He.ga K "steps_to") cdv A outer s H E).nox .fr W (defBody s_steps_to) t (b_steps_to) := ⟨_, _,
  dss_cons (ds_own (i := 2) (de_disp1 (de_v 1) (de_int)) sc_steps_to.nd) (dss_cons (ds_own (i := 3) (de_lst (da_cons (de_v 1) (da_nil))) sc_steps_to.nd) (dss_cons (ds_while (N := 400) (dt_truK K (de_p 3)) (dss_cons (ds_asgX (i := 4) (dx_popAt (j := 3) (de_int)) sc_steps_to.nd) (dss_one (ds_for (di_anyK K (de_v 0)) (dg_n sc_steps_to.nd (i := 5)) (dss_one (ds_if (dt_w (dw_and (dt_dnot hr.u64 (de_v 5) (de_p 2)) (dw_and1 (dt_cmp (op_eqDK K hr.u64) ops_eq rfl (de_fnK K (ok_gap_of Z) hr (by omega) rfl (da_cons (de_v 4) (da_cons (de_v 5) (da_nil)))) (de_int))))) (dss_cons (ds_dput (j := 2) hr.u64 (de_v 5) (de_op (op_addAK K) ops_addA (de_dget hr.u64 (de_p 2) (de_v 4)) (de_int))) (dss_one (ds_app (j := 3) (de_v 5)))) (dss_nil))))))) (dss_one (ds_retOwn (i := 2)))))⟩
theorem ok_steps_to (Z : Fx K mg) : Ok P w K mg base 2 "steps_to" ["words", "goal"] .fr Ph_steps_to := by
  obtain ⟨fd, F⟩ := Z.f_steps_to
  exact ok_fr (P := P) (w := w) (mg := mg) (base := base) (b := b_steps_to) (k := 1) (N := N_steps_to) F sc_steps_to bi_steps_to Z.g_steps_to (dd_steps_to Z)
abbrev N_ladder : List Str := ["words", "word", "other", "far", "told", "left", "near"]
theorem sc_ladder : FnScope N_ladder ["words", "word", "other"] (defScope s_ladder) := ⟨rfl, rfl, rfl, by decide +kernel, rfl, by decide +kernel, by decide +kernel⟩
def C_ladder_1 : Rho → Option Bool := fT (f2 neD (f2 ixD (vP 4) (f1 negD (cD (.int 1)))) (vF 2))
def W_ladder_1 : Bd := bSeq (bAsg 5 (f2 subD (f2 dgetD (vF 3) (f2 ixD (vP 4) (f1 negD (cD (.int 1))))) (cD (.int 1)))) (bApp 4 (f2 ixD (fLc (fI (vF 0)) (sN 6) (fAndT (fT (f2 eqD (f2 dget1D (vF 3) (vF 6)) (vF 5))) (fT (f2 eqD (fB (Ph_gap_of) (aCons (f2 ixD (vP 4) (f1 negD (cD (.int 1)))) (aCons (vF 6) (aNil)))) (cD (.int 1))))) (vF 6) [6]) (cD (.int 0))))
theorem bi_ladder : ∀ (kV doc pm : Value) (an : Option Addr) (cdv ct : Value) (us : List Value), us.length = (["words", "word", "other"] : List Str).length → bindArgs (PySem.W.fnOf "ladder" "ladder" (defArgs s_ladder) (defBody s_ladder) (defScope s_ladder) .none kV doc pm an cdv ct) ⟨us, []⟩ = pure ((["words", "word", "other"] : List Str).zip us) :=
  fun _ _ _ _ _ _ us hl => match us, hl with | [_, _, _], _ => rfl
def b_ladder : Bd := bSeq (bAsg 0 (fB (Ph_need) (aCons (cD (.int 1)) (aCons (fB (Ph_to_words) (aCons (vF 0) (aNil))) (aNil))))) (bSeq (bAsg 1 (fB (Ph_need) (aCons (cD (.int 2)) (aCons (fB (Ph_to_member) (aCons (vF 1) (aCons (vF 0) (aNil)))) (aNil))))) (bSeq (bAsg 2 (fB (Ph_need) (aCons (cD (.int 3)) (aCons (fB (Ph_to_member) (aCons (vF 2) (aCons (vF 0) (aNil)))) (aNil))))) (bSeq (bAsg 3 (fB (Ph_steps_to) (aCons (vF 0) (aCons (vF 2) (aNil))))) (bSeq (bIf (fT (f2 (dinD not) (vF 1) (vF 3))) (bRet (cD .none)) (bNext)) (bSeq (bOwn 4 (fLst (aCons (vF 1) (aNil)))) (bSeq (whileL (C_ladder_1) (W_ladder_1) 400) (bRet (fB tupD (aCons (vP 4) (aNil))))))))))
def Ph_ladder : List D → Option D := fnB (N_ladder).length (["words", "word", "other"] : List Str).length b_ladder
theorem dd_ladder (Z : Fx K mg) (cdv : Value) (A : Around) (outer : List Env) (s : Shared) (H : Hp) (E : XK) (hr : Room (7) (A.deeper (envOfC "ladder" (defScope s_ladder) s.heap.objs.size (He.ga K "ladder") cdv))) :
    ∃ W t, DSs (cxOf CX0 P w K mg base N_ladder "ladder" (defScope s_ladder) (He.ga K "ladder") cdv A outer s H E).nox .fz W (defBody s_ladder) t (b_ladder) := ⟨_, _,
  dss_cons (ds_asg (i := 0) (de_fnK K (ok_need Z) hr (by omega) rfl (da_cons (de_int) (da_cons (de_fnK K (ok_to_words Z) hr (by omega) rfl (da_cons (de_v 0) (da_nil))) (da_nil)))) sc_ladder.nd) (dss_cons (ds_asg (i := 1) (de_fnK K (ok_need Z) hr (by omega) rfl (da_cons (de_int) (da_cons (de_fnK K (ok_to_member Z) hr (by omega) rfl (da_cons (de_v 1) (da_cons (de_v 0) (da_nil)))) (da_nil)))) sc_ladder.nd) (dss_cons (ds_asg (i := 2) (de_fnK K (ok_need Z) hr (by omega) rfl (da_cons (de_int) (da_cons (de_fnK K (ok_to_member Z) hr (by omega) rfl (da_cons (de_v 2) (da_cons (de_v 0) (da_nil)))) (da_nil)))) sc_ladder.nd) (dss_cons (ds_asg (i := 3) (DE.frz (de_fnK K (ok_steps_to Z) hr (by omega) rfl (da_cons (de_v 0) (da_cons (de_v 2) (da_nil))))) sc_ladder.nd) (dss_cons (ds_if (dt_dnot hr.u64 (de_v 1) (de_v 3)) (dss_one (ds_ret (de_non))) (dss_nil)) (dss_cons (ds_own (i := 4) (de_lst (da_cons (de_v 1) (da_nil))) sc_ladder.nd) (dss_cons (ds_while (N := 400) (dt_cmp (op_neDK K hr.u64) ops_ne rfl (de_ixK K (de_p 4) (de_neg (de_int))) (de_v 2)) (dss_cons (ds_asg (i := 5) (de_op op_sub ops_sub (de_dget hr.u64 (de_v 3) (de_ixK K (de_p 4) (de_neg (de_int)))) (de_int)) sc_ladder.nd) (dss_one (ds_app (j := 4) (de_ixK K (de_lc [("near", 6)] sc_ladder.nd (di_anyK K (de_v 0)) (blk_of (N := N_ladder) (sc := defScope s_ladder) (by decide +kernel)) (fun _ _ _ _ _ => dg_n sc_ladder.nd (i := 6)) (fun _ _ _ _ _ => dts_one (dt_w (dw_and (dt_cmp (op_eqDK K hr.u64) ops_eq rfl (de_dget1 hr.u64 (de_v 3) (de_v 6)) (de_v 5)) (dw_and1 (dt_cmp (op_eqDK K hr.u64) ops_eq rfl (de_fnK K (ok_gap_of Z) hr (by omega) rfl (da_cons (de_ixK K (de_p 4) (de_neg (de_int))) (da_cons (de_v 6) (da_nil)))) (de_int)))))) (fun _ _ _ _ _ => de_v 6) (by decide)) (de_int)))))) (dss_one (ds_ret (de_ct (cr_tupK K) cs_tup rfl Z.n_tuple bt_tuple (da_cons (de_p 4) (da_nil)))))))))))⟩
theorem ok_ladder (Z : Fx K mg) : Ok P w K mg base 8 "ladder" ["words", "word", "other"] .fz Ph_ladder := by
  obtain ⟨fd, F⟩ := Z.f_ladder
  exact ok_fz (P := P) (w := w) (mg := mg) (base := base) (b := b_ladder) (k := 7) (N := N_ladder) F sc_ladder bi_ladder Z.g_ladder (dd_ladder Z)
abbrev N__law_ladder : List Str := ["words", "one", "other", "rows", "seen", "turn", "good", "longer", "row", "word"]
theorem sc__law_ladder : FnScope N__law_ladder ["words", "one", "other"] (defScope s__law_ladder) := ⟨rfl, rfl, rfl, by decide +kernel, rfl, by decide +kernel, by decide +kernel⟩
def L__law_ladder_1 : Bd := bIf (fAndT (fT (f2 notInD (vF 9) (vP 4))) (fT (f2 eqD (fB (Ph__law_gap) (aCons (f2 ixD (vF 8) (f1 negD (cD (.int 1)))) (aCons (vF 9) (aNil)))) (cD (.int 1))))) (bSeq (bApp 4 (vF 9)) (bApp 7 (f2 addD (vF 8) (fTup (aCons (vF 9) (aNil)))))) (bNext)
def L__law_ladder_2 : Bd := bFor (fI (vF 0)) (sN 9) (L__law_ladder_1)
def L__law_ladder_3 : Bd := bSeq (bAsg 6 (fLc (fI (vF 3)) (sN 8) (fT (f2 eqD (f2 ixD (vF 8) (f1 negD (cD (.int 1)))) (vF 2))) (vF 8) [8])) (bSeq (bIf (fT (f2 neD (vF 6) (fLst (aNil)))) (bRet (f2 ixD (vF 6) (cD (.int 0)))) (bNext)) (bSeq (bOwn 7 (fLst (aNil))) (bSeq (bFor (fI (vF 3)) (sN 8) (L__law_ladder_2)) (bMove 3 7))))
theorem bi__law_ladder : ∀ (kV doc pm : Value) (an : Option Addr) (cdv ct : Value) (us : List Value), us.length = (["words", "one", "other"] : List Str).length → bindArgs (PySem.W.fnOf "_law_ladder" "_law_ladder" (defArgs s__law_ladder) (defBody s__law_ladder) (defScope s__law_ladder) .none kV doc pm an cdv ct) ⟨us, []⟩ = pure ((["words", "one", "other"] : List Str).zip us) :=
  fun _ _ _ _ _ _ us hl => match us, hl with | [_, _, _], _ => rfl
def b__law_ladder : Bd := bSeq (bAsg 3 (fLst (aCons (fTup (aCons (vF 1) (aNil))) (aNil)))) (bSeq (bOwn 4 (fLst (aCons (vF 1) (aNil)))) (bSeq (bFor (fIs rg1D (aCons (fB lenD (aCons (vF 0) (aNil))) (aNil))) (sN 5) (L__law_ladder_3)) (bRet (cD .none))))
def Ph__law_ladder : List D → Option D := fnB (N__law_ladder).length (["words", "one", "other"] : List Str).length b__law_ladder
theorem dd__law_ladder (Z : Fx K mg) (cdv : Value) (A : Around) (outer : List Env) (s : Shared) (H : Hp) (E : XK) (hr : Room (1) (A.deeper (envOfC "_law_ladder" (defScope s__law_ladder) s.heap.objs.size (He.ga K "_law_ladder") cdv))) :
    ∃ W t, DSs (cxOf CX0 P w K mg base N__law_ladder "_law_ladder" (defScope s__law_ladder) (He.ga K "_law_ladder") cdv A outer s H E).nox .fz W (defBody s__law_ladder) t (b__law_ladder) := ⟨_, _,
  dss_cons (ds_asg (i := 3) (DE.frz (de_lst (da_cons (de_tup (da_cons (de_v 1) (da_nil))) (da_nil)))) sc__law_ladder.nd) (dss_cons (ds_own (i := 4) (de_lst (da_cons (de_v 1) (da_nil))) sc__law_ladder.nd) (dss_cons (ds_for (di_rg1 rfl Z.n_range (da_cons (de_cb (call_lenK K) cs_len rfl Z.n_len bt_len (da_cons (de_v 0) (da_nil))) (da_nil))) (dg_n sc__law_ladder.nd (i := 5)) (dss_cons (ds_asgLc (i := 6) [("row", 8)] sc__law_ladder.nd (di_anyK K (de_v 3)) (blk_of (N := N__law_ladder) (sc := defScope s__law_ladder) (by decide +kernel)) (fun _ _ _ _ _ => dg_n sc__law_ladder.nd (i := 8)) (fun _ _ _ _ _ => dts_one (dt_cmp (op_eqDK K hr.u64) ops_eq rfl (de_ixK K (de_v 8) (de_neg (de_int))) (de_v 2))) (fun _ _ _ _ _ => de_v 8) (by decide) (sw_true rfl rfl rfl (by decide +kernel))) (dss_cons (ds_if (dt_cmp (op_neDK K hr.u64) ops_ne rfl (de_v 6) (de_lst (da_nil))) (dss_one (ds_ret (de_ixK K (de_v 6) (de_int)))) (dss_nil)) (dss_cons (ds_own (i := 7) (de_lst (da_nil)) sc__law_ladder.nd) (dss_cons (ds_for (di_anyK K (de_v 3)) (dg_n sc__law_ladder.nd (i := 8)) (dss_one (ds_for (di_anyK K (de_v 0)) (dg_n sc__law_ladder.nd (i := 9)) (dss_one (ds_if (dt_w (dw_and (dt_cmp (op_notIn_K K hr.u65) ops_notIn rfl (de_v 9) (de_p 4)) (dw_and1 (dt_cmp (op_eqDK K hr.u64) ops_eq rfl (de_fnK K (ok__law_gap Z) hr (by omega) rfl (da_cons (de_ixK K (de_v 8) (de_neg (de_int))) (da_cons (de_v 9) (da_nil)))) (de_int))))) (dss_cons (ds_app (j := 4) (de_v 9)) (dss_one (ds_app (j := 7) (de_op (op_addAK K) ops_addA (de_v 8) (de_tup (da_cons (de_v 9) (da_nil))))))) (dss_nil)))))) (dss_one (ds_move sc__law_ladder.nd (i := 3) (j := 7)))))))) (dss_one (ds_ret (de_non)))))⟩
theorem ok__law_ladder (Z : Fx K mg) : Ok P w K mg base 2 "_law_ladder" ["words", "one", "other"] .fz Ph__law_ladder := by
  obtain ⟨fd, F⟩ := Z.f__law_ladder
  exact ok_fz (P := P) (w := w) (mg := mg) (base := base) (b := b__law_ladder) (k := 1) (N := N__law_ladder) F sc__law_ladder bi__law_ladder Z.g__law_ladder (dd__law_ladder Z)
abbrev N_law : List Str := ["script", "words", "most", "pairs", "gaps", "i", "stray", "near", "heard", "sums", "word", "one", "some", "slips", "long", "j", "chain", "other", "leads", "n", "k", "pair", "gap_of_v"]
theorem sc_law : FnScope N_law ["script"] (defScope s_law) := ⟨rfl, rfl, rfl, by decide +kernel, rfl, by decide +kernel, by decide +kernel⟩
def L_law_1 : Bd := bSeq (bApp 4 (fB (Ph__law_gap) (aCons (f2 ixD (vF 1) (vF 5)) (aCons (f2 ixD (vF 1) (vF 15)) (aNil))))) (bIf (fT (f2 leD (f2 ixD (vP 4) (f1 negD (cD (.int 1)))) (vF 2))) (bApp 3 (fTup (aCons (f2 ixD (vF 1) (vF 5)) (aCons (f2 ixD (vF 1) (vF 15)) (aNil))))) (bNext))
def L_law_2 : Bd := bFor (fIs rg2D (aCons (f2 addD (vF 5) (cD (.int 1))) (aCons (fB lenD (aCons (vF 1) (aNil))) (aNil)))) (sN 15) (L_law_1)
def L_law_3 : Bd := bSeq (bAsg 16 (f2 addD (fLst (aCons (vF 10) (aNil))) (fLc (fI (vF 8)) (sN 11) (fT (f2 notND (vF 11) (cD .none))) (vF 11) [11]))) (bApp 9 (fTup (aCons (fB sumD (aCons (fLc (fIs rg1D (aCons (f2 subD (fB lenD (aCons (vF 16) (aNil))) (cD (.int 1))) (aNil))) (sN 20) (fYes) (fB (Ph__law_gap) (aCons (f2 ixD (vF 16) (vF 20)) (aCons (f2 ixD (vF 16) (f2 addD (vF 20) (cD (.int 1)))) (aNil)))) [20]) (aNil))) (aCons (vF 10) (aNil)))))
def L_law_4 : Bd := bIf (fNotT (fTr (fB (Ph__law_same 4) (aCons (fB (Ph_ladder) (aCons (vF 1) (aCons (vF 11) (aCons (vF 17) (aNil))))) (aCons (fB (Ph__law_ladder) (aCons (vF 1) (aCons (vF 11) (aCons (vF 17) (aNil))))) (aNil)))))) (bRet (cD (.bool false))) (bNext)
def L_law_5 : Bd := bFor (fI (fSl (vF 1) (oNo) (oIs (cD (.int 4))))) (sN 17) (L_law_4)
def L_law_6 : Bd := bSeq (bAsg 18 (fLc (fI (vF 12)) (sN 10) (fT (f2 neD (fLc (fI (vF 1)) (sN 17) (fAndT (fT (f2 notInD (vF 17) (vF 12))) (fT (f2 eqD (fB (Ph__law_gap) (aCons (vF 10) (aCons (vF 17) (aNil)))) (cD (.int 1))))) (vF 17) [17]) (fLst (aNil)))) (vF 10) [10])) (bIf (fNotT (fTr (fB (Ph__law_same 4) (aCons (fB (Ph_ladders_closed) (aCons (vF 1) (aCons (fB (Ph__law_listed 4) (aCons (vF 12) (aNil))) (aNil)))) (aCons (f2 eqD (vF 18) (fLst (aNil))) (aNil)))))) (bRet (cD (.bool false))) (bNext))
theorem bi_law : ∀ (kV doc pm : Value) (an : Option Addr) (cdv ct : Value) (us : List Value), us.length = (["script"] : List Str).length → bindArgs (PySem.W.fnOf "law" "law" (defArgs s_law) (defBody s_law) (defScope s_law) .none kV doc pm an cdv ct) ⟨us, []⟩ = pure ((["script"] : List Str).zip us) :=
  fun _ _ _ _ _ _ us hl => match us, hl with | [_], _ => rfl
def b_law : Bd := bSeq (bAsg 1 (fB (Ph__law_words) (aCons (fB (Ph__law_numbers) (aCons (vF 0) (aCons (cD (.int 0)) (aCons (f2 addD (cD (.int 1)) (f2 modD (fB (Ph__law_cell) (aCons (vF 0) (aCons (cD (.int 1)) (aNil)))) (cD (.int 7)))) (aNil))))) (aNil)))) (bSeq (bAsg 2 (f2 modD (fB (Ph__law_cell) (aCons (vF 0) (aCons (cD (.int 2)) (aNil)))) (cD (.int 4)))) (bSeq (bOwn 3 (fLst (aNil))) (bSeq (bOwn 4 (fLst (aNil))) (bSeq (bFor (fIs rg1D (aCons (fB lenD (aCons (vF 1) (aNil))) (aNil))) (sN 5) (L_law_2)) (bSeq (bIf (fOrT (fNotT (fTr (fB (Ph__law_same 4) (aCons (fB (Ph_web) (aCons (fB (Ph__law_listed 4) (aCons (vF 1) (aNil))) (aCons (vF 2) (aNil)))) (aCons (fB tupD (aCons (vP 3) (aNil))) (aNil)))))) (fT (f2 neD (fB (Ph_safe) (aCons (vF 1) (aNil))) (fIf (fT (f2 neD (vP 4) (fLst (aNil)))) (fB intD (aCons (f2 fdivD (f2 subD (fB minA (aCons (vP 4) (aNil))) (cD (.int 1))) (cD (.int 2))) (aNil))) (cD (.int 8)))))) (bRet (cD (.bool false))) (bNext)) (bSeq (bAsg 6 (fB (Ph__law_word) (aCons (f2 modD (fB (Ph__law_cell) (aCons (vF 0) (aCons (cD (.int 3)) (aNil)))) (f2 powD (cD (.int 10)) (cD (.int 6)))) (aNil)))) (bSeq (bAsg 7 (fLc (fI (vF 1)) (sN 10) (fYes) (fTup (aCons (fB (Ph__law_gap) (aCons (vF 10) (aCons (vF 6) (aNil)))) (aCons (vF 10) (aNil)))) [10])) (bSeq (bIf (fNotT (fTr (fB (Ph__law_same 4) (aCons (fB (Ph_heard_as) (aCons (vF 1) (aCons (vF 6) (aNil)))) (aCons (fTup (aCons (f2 ixD (fB minA (aCons (vF 7) (aNil))) (cD (.int 0))) (aCons (fB tupD (aCons (fLc (fI (vF 7)) (sT 2 (sCons (sN 22) (sCons (sN 10) (sNil)))) (fT (f2 eqD (vF 22) (f2 ixD (fB minA (aCons (vF 7) (aNil))) (cD (.int 0))))) (vF 10) [22, 10]) (aNil))) (aNil)))) (aNil)))))) (bRet (cD (.bool false))) (bNext)) (bSeq (bAsg 8 (fB tupD (aCons (fLc (fI (fB (Ph__law_numbers) (aCons (vF 0) (aCons (cD (.int 4)) (aCons (f2 addD (cD (.int 1)) (f2 modD (fB (Ph__law_cell) (aCons (vF 0) (aCons (cD (.int 5)) (aNil)))) (cD (.int 4)))) (aNil)))))) (sN 19) (fYes) (fIf (fT (f2 gtD (f2 modD (fB intD (aCons (f2 fdivD (vF 19) (cD (.int 50))) (aNil))) (cD (.int 3))) (cD (.int 0)))) (fB (Ph__law_word) (aCons (fB intD (aCons (vF 19) (aNil))) (aNil))) (cD .none)) [19]) (aNil)))) (bSeq (bOwn 9 (fLst (aNil))) (bSeq (bFor (fI (vF 1)) (sN 10) (L_law_3)) (bSeq (bIf (fOrT (fNotT (fTr (fB (Ph__law_same 4) (aCons (fB (Ph_nearest_start) (aCons (vF 1) (aCons (fB (Ph__law_listed 4) (aCons (vF 8) (aNil))) (aNil)))) (aCons (fB minA (aCons (vP 9) (aNil))) (aNil)))))) (fNotT (fTr (fB (Ph__law_same 4) (aCons (fB (Ph_started) (aCons (vF 1) (aCons (vF 8) (aCons (f2 addD (vF 2) (cD (.int 2))) (aNil))))) (aCons (fB tupD (aCons (fLc (fI (vP 9)) (sN 21) (fT (f2 leD (f2 ixD (vF 21) (cD (.int 0))) (f2 addD (vF 2) (cD (.int 2))))) (f2 ixD (vF 21) (cD (.int 1))) [21]) (aNil))) (aNil))))))) (bRet (cD (.bool false))) (bNext)) (bSeq (bFor (fI (fSl (vF 1) (oNo) (oIs (cD (.int 3))))) (sN 11) (L_law_5)) (bSeq (bFor (fI (fB (Ph__law_subsets) (aCons (vF 1) (aNil)))) (sN 12) (L_law_6)) (bSeq (bIf (fT (f2 notBD (fB (Ph_ladders_closed) (aCons (vF 1) (aCons (fTup (aCons (f2 addD (f2 ixD (vF 1) (cD (.int 0))) (cD (.str "z"))) (aNil))) (aNil)))) (cD (.bool false)))) (bRet (cD (.bool false))) (bNext)) (bSeq (bAsg 13 (fB (Ph__law_made) (aCons (vF 6) (aCons (fB (Ph__law_numbers) (aCons (vF 0) (aCons (cD (.int 6)) (aCons (f2 modD (fB (Ph__law_cell) (aCons (vF 0) (aCons (cD (.int 7)) (aNil)))) (cD (.int 5))) (aNil))))) (aNil))))) (bSeq (bIf (fNotT (fTr (fB (Ph__law_same 4) (aCons (fB (Ph_rounds) (aCons (vF 6) (aCons (fB (Ph__law_listed 4) (aCons (fB tupD (aCons (vF 13) (aNil))) (aNil))) (aNil)))) (aCons (fB (Ph__law_rounds) (aCons (vF 6) (aCons (vF 13) (aNil)))) (aNil)))))) (bRet (cD (.bool false))) (bNext)) (bSeq (bAsg 14 (f2 repLD (fLst (aCons (fTup (aCons (cD (.str "in")) (aCons (cD (.int 0)) (aCons (cD (.str "x")) (aNil))))) (aNil))) (f2 addD (cD (.int 1)) (f2 modD (fB (Ph__law_cell) (aCons (vF 0) (aCons (cD (.int 8)) (aNil)))) (cD (.int 9)))))) (bSeq (bIf (fNotT (fTr (fB (Ph__law_same 4) (aCons (fB (Ph_rounds) (aCons (vF 6) (aCons (f2 addD (vF 14) (fLst (aCons (fTup (aCons (cD (.str "out")) (aCons (cD (.int 0)) (aCons (cD .none) (aNil))))) (aNil)))) (aNil)))) (aCons (fB (Ph__law_rounds) (aCons (vF 6) (aCons (f2 addD (vF 14) (fLst (aCons (fTup (aCons (cD (.str "out")) (aCons (cD (.int 0)) (aCons (cD .none) (aNil))))) (aNil)))) (aNil)))) (aNil)))))) (bRet (cD (.bool false))) (bNext)) (bRet (fAnd (f2 eqD (fB (Ph_backwards) (aCons (vF 6) (aNil))) (f2 revTD (vF 6) (f1 negD (cD (.int 1))))) (f2 eqD (fB (Ph_shared) (aCons (vF 6) (aCons (f2 ixD (vF 1) (cD (.int 0))) (aNil)))) (fB (Ph__law_shared) (aCons (vF 6) (aCons (f2 ixD (vF 1) (cD (.int 0))) (aNil))))))))))))))))))))))))))
def Ph_law : List D → Option D := fnB (N_law).length (["script"] : List Str).length b_law
theorem dd_law (Z : Fx K mg) (cdv : Value) (A : Around) (outer : List Env) (s : Shared) (H : Hp) (E : XK) (hr : Room (9) (A.deeper (envOfC "law" (defScope s_law) s.heap.objs.size (He.ga K "law") cdv))) :
    ∃ W t, DSs (cxOf CX0 P w K mg base N_law "law" (defScope s_law) (He.ga K "law") cdv A outer s H E).nox .fz W (defBody s_law) t (b_law) := ⟨_, _,
  dss_cons (ds_asg (i := 1) (de_fnK K (ok__law_words Z) hr (by omega) rfl (da_cons (DE.frz (de_fnK K (ok__law_numbers Z) hr (by omega) rfl (da_cons (de_v 0) (da_cons (de_int) (da_cons (de_op (op_addAK K) ops_addA (de_int) (de_op op_modN ops_mod (de_fnK K (ok__law_cell Z) hr (by omega) rfl (da_cons (de_v 0) (da_cons (de_int) (da_nil)))) (de_int))) (da_nil)))))) (da_nil))) sc_law.nd) (dss_cons (ds_asg (i := 2) (de_op op_modN ops_mod (de_fnK K (ok__law_cell Z) hr (by omega) rfl (da_cons (de_v 0) (da_cons (de_int) (da_nil)))) (de_int)) sc_law.nd) (dss_cons (ds_own (i := 3) (de_lst (da_nil)) sc_law.nd) (dss_cons (ds_own (i := 4) (de_lst (da_nil)) sc_law.nd) (dss_cons (ds_for (di_rg1 rfl Z.n_range (da_cons (de_cb (call_lenK K) cs_len rfl Z.n_len bt_len (da_cons (de_v 1) (da_nil))) (da_nil))) (dg_n sc_law.nd (i := 5)) (dss_one (ds_for (di_rg2 rfl Z.n_range (da_cons (de_op (op_addAK K) ops_addA (de_v 5) (de_int)) (da_cons (de_cb (call_lenK K) cs_len rfl Z.n_len bt_len (da_cons (de_v 1) (da_nil))) (da_nil)))) (dg_n sc_law.nd (i := 15)) (dss_cons (ds_app (j := 4) (de_fnK K (ok__law_gap Z) hr (by omega) rfl (da_cons (de_ixK K (de_v 1) (de_v 5)) (da_cons (de_ixK K (de_v 1) (de_v 15)) (da_nil))))) (dss_one (ds_if (dt_cmp (op_le_K K hr.u64) ops_le rfl (de_ixK K (de_p 4) (de_neg (de_int))) (de_v 2)) (dss_one (ds_app (j := 3) (de_tup (da_cons (de_ixK K (de_v 1) (de_v 5)) (da_cons (de_ixK K (de_v 1) (de_v 15)) (da_nil)))))) (dss_nil))))))) (dss_cons (ds_if (dt_w (dw_or (dt_not (dt_truK K (de_fnK K (ok__law_same Z 4) hr (by omega) rfl (da_cons (de_fnK K (ok_web Z) hr (by omega) rfl (da_cons (de_fnK K (ok__law_listed Z 4) hr (by omega) rfl (da_cons (de_v 1) (da_nil))) (da_cons (de_v 2) (da_nil)))) (da_cons (de_ct (cr_tupK K) cs_tup rfl Z.n_tuple bt_tuple (da_cons (de_p 3) (da_nil))) (da_nil)))))) (dw_or1 (dt_cmp (op_neDK K hr.u64) ops_ne rfl (de_fnK K (ok_safe Z) hr (by omega) rfl (da_cons (de_v 1) (da_nil))) (de_if (dt_cmp (op_neDK K hr.u64) ops_ne rfl (de_p 4) (de_lst (da_nil))) (de_ct call_int1 cs_int rfl Z.n_int bt_int (da_cons (de_op op_fdivN ops_fdiv (de_op op_sub ops_sub (de_cb (cr_minAK K rfl hr.u70) cs_minA rfl Z.n_min bt_min (da_cons (de_p 4) (da_nil))) (de_int)) (de_int)) (da_nil))) (de_int)))))) (dss_one (ds_ret (de_bl))) (dss_nil)) (dss_cons (ds_asg (i := 6) (de_fnK K (ok__law_word Z) hr (by omega) rfl (da_cons (de_op op_modN ops_mod (de_fnK K (ok__law_cell Z) hr (by omega) rfl (da_cons (de_v 0) (da_cons (de_int) (da_nil)))) (de_op op_pow ops_pow (de_int) (de_int))) (da_nil))) sc_law.nd) (dss_cons (ds_asg (i := 7) (DE.frz (de_lc [("word", 10)] sc_law.nd (di_anyK K (de_v 1)) (blk_of (N := N_law) (sc := defScope s_law) (by decide +kernel)) (fun _ _ _ _ _ => dg_n sc_law.nd (i := 10)) (fun _ _ _ _ _ => dts_nil) (fun _ _ _ _ _ => de_tup (da_cons (de_fnK K (ok__law_gap Z) hr (by omega) rfl (da_cons (de_v 10) (da_cons (de_v 6) (da_nil)))) (da_cons (de_v 10) (da_nil)))) (by decide))) sc_law.nd) (dss_cons (ds_if (dt_not (dt_truK K (de_fnK K (ok__law_same Z 4) hr (by omega) rfl (da_cons (de_fnK K (ok_heard_as Z) hr (by omega) rfl (da_cons (de_v 1) (da_cons (de_v 6) (da_nil)))) (da_cons (de_tup (da_cons (de_ixK K (de_cb (cr_minAK K rfl hr.u70) cs_minA rfl Z.n_min bt_min (da_cons (de_v 7) (da_nil))) (de_int)) (da_cons (de_ct (cr_tupK K) cs_tup rfl Z.n_tuple bt_tuple (da_cons (de_lc [("gap_of_v", 22), ("word", 10)] sc_law.nd (di_anyK K (de_v 7)) (blk_of (N := N_law) (sc := defScope s_law) (by decide +kernel)) (fun _ _ _ _ _ => dg_tK K (n := 2) (dgs_cons (dg_n sc_law.nd (i := 22)) (dgs_cons (dg_n sc_law.nd (i := 10)) (dgs_nil)))) (fun _ _ _ _ _ => dts_one (dt_cmp (op_eqDK K hr.u64) ops_eq rfl (de_v 22) (de_ixK K (de_cb (cr_minAK K rfl hr.u70) cs_minA rfl Z.n_min bt_min (da_cons (de_v 7) (da_nil))) (de_int)))) (fun _ _ _ _ _ => de_v 10) (by decide)) (da_nil))) (da_nil)))) (da_nil)))))) (dss_one (ds_ret (de_bl))) (dss_nil)) (dss_cons (ds_asg (i := 8) (de_ct (cr_tupK K) cs_tup rfl Z.n_tuple bt_tuple (da_cons (de_lc [("n", 19)] sc_law.nd (di_anyK K (DE.frz (de_fnK K (ok__law_numbers Z) hr (by omega) rfl (da_cons (de_v 0) (da_cons (de_int) (da_cons (de_op (op_addAK K) ops_addA (de_int) (de_op op_modN ops_mod (de_fnK K (ok__law_cell Z) hr (by omega) rfl (da_cons (de_v 0) (da_cons (de_int) (da_nil)))) (de_int))) (da_nil))))))) (blk_of (N := N_law) (sc := defScope s_law) (by decide +kernel)) (fun _ _ _ _ _ => dg_n sc_law.nd (i := 19)) (fun _ _ _ _ _ => dts_nil) (fun _ _ _ _ _ => de_if (dt_cmp (op_gt_K K hr.u64) ops_gt rfl (de_op op_modN ops_mod (de_ct call_int1 cs_int rfl Z.n_int bt_int (da_cons (de_op op_fdivN ops_fdiv (de_v 19) (de_int)) (da_nil))) (de_int)) (de_int)) (de_fnK K (ok__law_word Z) hr (by omega) rfl (da_cons (de_ct call_int1 cs_int rfl Z.n_int bt_int (da_cons (de_v 19) (da_nil))) (da_nil))) (de_non)) (by decide)) (da_nil))) sc_law.nd) (dss_cons (ds_own (i := 9) (de_lst (da_nil)) sc_law.nd) (dss_cons (ds_for (di_anyK K (de_v 1)) (dg_n sc_law.nd (i := 10)) (dss_cons (ds_asg (i := 16) (de_op (op_addAK K) ops_addA (de_lst (da_cons (de_v 10) (da_nil))) (de_lc [("one", 11)] sc_law.nd (di_anyK K (de_v 8)) (blk_of (N := N_law) (sc := defScope s_law) (by decide +kernel)) (fun _ _ _ _ _ => dg_n sc_law.nd (i := 11)) (fun _ _ _ _ _ => dts_one (dt_cmp L2.op_notN ops_notN rfl (de_v 11) (de_non))) (fun _ _ _ _ _ => de_v 11) (by decide))) sc_law.nd) (dss_one (ds_app (j := 9) (de_tup (da_cons (de_cb (cr_sumAK K rfl) cs_sum rfl Z.n_sum bt_sum (da_cons (de_lc [("k", 20)] sc_law.nd (di_rg1 rfl Z.n_range (da_cons (de_op op_sub ops_sub (de_cb (call_lenK K) cs_len rfl Z.n_len bt_len (da_cons (de_v 16) (da_nil))) (de_int)) (da_nil))) (blk_of (N := N_law) (sc := defScope s_law) (by decide +kernel)) (fun _ _ _ _ _ => dg_n sc_law.nd (i := 20)) (fun _ _ _ _ _ => dts_nil) (fun _ _ _ _ _ => de_fnK K (ok__law_gap Z) hr (by omega) rfl (da_cons (de_ixK K (de_v 16) (de_v 20)) (da_cons (de_ixK K (de_v 16) (de_op (op_addAK K) ops_addA (de_v 20) (de_int))) (da_nil)))) (by decide)) (da_nil))) (da_cons (de_v 10) (da_nil)))))))) (dss_cons (ds_if (dt_w (dw_or (dt_not (dt_truK K (de_fnK K (ok__law_same Z 4) hr (by omega) rfl (da_cons (de_fnK K (ok_nearest_start Z) hr (by omega) rfl (da_cons (de_v 1) (da_cons (de_fnK K (ok__law_listed Z 4) hr (by omega) rfl (da_cons (de_v 8) (da_nil))) (da_nil)))) (da_cons (de_cb (cr_minAK K rfl hr.u70) cs_minA rfl Z.n_min bt_min (da_cons (de_p 9) (da_nil))) (da_nil)))))) (dw_or1 (dt_not (dt_truK K (de_fnK K (ok__law_same Z 4) hr (by omega) rfl (da_cons (de_fnK K (ok_started Z) hr (by omega) rfl (da_cons (de_v 1) (da_cons (de_v 8) (da_cons (de_op (op_addAK K) ops_addA (de_v 2) (de_int)) (da_nil))))) (da_cons (de_ct (cr_tupK K) cs_tup rfl Z.n_tuple bt_tuple (da_cons (de_lc [("pair", 21)] sc_law.nd (di_anyPK K (de_p 9)) (blk_of (N := N_law) (sc := defScope s_law) (by decide +kernel)) (fun _ _ _ _ _ => dg_n sc_law.nd (i := 21)) (fun _ _ _ _ _ => dts_one (dt_cmp (op_le_K K hr.u64) ops_le rfl (de_ixK K (de_v 21) (de_int)) (de_op (op_addAK K) ops_addA (de_v 2) (de_int)))) (fun _ _ _ _ _ => de_ixK K (de_v 21) (de_int)) (by decide)) (da_nil))) (da_nil))))))))) (dss_one (ds_ret (de_bl))) (dss_nil)) (dss_cons (ds_for (di_anyK K (de_slK K (de_v 1) (do_no) (do_is (de_int)))) (dg_n sc_law.nd (i := 11)) (dss_one (ds_for (di_anyK K (de_slK K (de_v 1) (do_no) (do_is (de_int)))) (dg_n sc_law.nd (i := 17)) (dss_one (ds_if (dt_not (dt_truK K (de_fnK K (ok__law_same Z 4) hr (by omega) rfl (da_cons (de_fnK K (ok_ladder Z) hr (by omega) rfl (da_cons (de_v 1) (da_cons (de_v 11) (da_cons (de_v 17) (da_nil))))) (da_cons (de_fnK K (ok__law_ladder Z) hr (by omega) rfl (da_cons (de_v 1) (da_cons (de_v 11) (da_cons (de_v 17) (da_nil))))) (da_nil)))))) (dss_one (ds_ret (de_bl))) (dss_nil)))))) (dss_cons (ds_for (di_anyK K (DE.frz (de_fnK K (ok__law_subsets Z) hr (by omega) rfl (da_cons (de_v 1) (da_nil))))) (dg_n sc_law.nd (i := 12)) (dss_cons (ds_asgLc (i := 18) [("word", 10)] sc_law.nd (di_anyK K (de_v 12)) (blk_of (N := N_law) (sc := defScope s_law) (by decide +kernel)) (fun _ _ _ _ _ => dg_n sc_law.nd (i := 10)) (fun _ _ _ _ _ => dts_one (dt_cmp (op_neDK K hr.u64) ops_ne rfl (de_lc [("other", 17)] sc_law.nd (di_anyK K (de_v 1)) (blk_of (by with_unfolding_all rfl)) (fun _ _ _ _ _ => dg_n sc_law.nd (i := 17)) (fun _ _ _ _ _ => dts_one (dt_w (dw_and (dt_cmp (op_notIn_K K hr.u65) ops_notIn rfl (de_v 17) (de_v 12)) (dw_and1 (dt_cmp (op_eqDK K hr.u64) ops_eq rfl (de_fnK K (ok__law_gap Z) hr (by omega) rfl (da_cons (de_v 10) (da_cons (de_v 17) (da_nil)))) (de_int)))))) (fun _ _ _ _ _ => de_v 17) (by decide)) (de_lst (da_nil)))) (fun _ _ _ _ _ => de_v 10) (by decide) (sw_true rfl rfl rfl (by decide +kernel))) (dss_one (ds_if (dt_not (dt_truK K (de_fnK K (ok__law_same Z 4) hr (by omega) rfl (da_cons (de_fnK K (ok_ladders_closed Z) hr (by omega) rfl (da_cons (de_v 1) (da_cons (de_fnK K (ok__law_listed Z 4) hr (by omega) rfl (da_cons (de_v 12) (da_nil))) (da_nil)))) (da_cons (de_cmp (op_eqDK K hr.u64) ops_eq rfl (de_v 18) (de_lst (da_nil))) (da_nil)))))) (dss_one (ds_ret (de_bl))) (dss_nil))))) (dss_cons (ds_if (dt_cmp op_notBl ops_notB rfl (de_fnK K (ok_ladders_closed Z) hr (by omega) rfl (da_cons (de_v 1) (da_cons (de_tup (da_cons (de_op (op_addAK K) ops_addA (de_ixK K (de_v 1) (de_int)) (de_str)) (da_nil))) (da_nil)))) (de_bl)) (dss_one (ds_ret (de_bl))) (dss_nil)) (dss_cons (ds_asg (i := 13) (DE.frz (de_fnK K (ok__law_made Z) hr (by omega) rfl (da_cons (de_v 6) (da_cons (DE.frz (de_fnK K (ok__law_numbers Z) hr (by omega) rfl (da_cons (de_v 0) (da_cons (de_int) (da_cons (de_op op_modN ops_mod (de_fnK K (ok__law_cell Z) hr (by omega) rfl (da_cons (de_v 0) (da_cons (de_int) (da_nil)))) (de_int)) (da_nil)))))) (da_nil))))) sc_law.nd) (dss_cons (ds_if (dt_not (dt_truK K (de_fnK K (ok__law_same Z 4) hr (by omega) rfl (da_cons (de_fnK K (ok_rounds Z) hr (by omega) rfl (da_cons (de_v 6) (da_cons (de_fnK K (ok__law_listed Z 4) hr (by omega) rfl (da_cons (de_ct (cr_tupK K) cs_tup rfl Z.n_tuple bt_tuple (da_cons (de_v 13) (da_nil))) (da_nil))) (da_nil)))) (da_cons (de_fnK K (ok__law_rounds Z) hr (by omega) rfl (da_cons (de_v 6) (da_cons (de_v 13) (da_nil)))) (da_nil)))))) (dss_one (ds_ret (de_bl))) (dss_nil)) (dss_cons (ds_asg (i := 14) (DE.frz (de_repL (de_lst (da_cons (de_tup (da_cons (de_str) (da_cons (de_int) (da_cons (de_str) (da_nil))))) (da_nil))) (de_op (op_addAK K) ops_addA (de_int) (de_op op_modN ops_mod (de_fnK K (ok__law_cell Z) hr (by omega) rfl (da_cons (de_v 0) (da_cons (de_int) (da_nil)))) (de_int))))) sc_law.nd) (dss_cons (ds_if (dt_not (dt_truK K (de_fnK K (ok__law_same Z 4) hr (by omega) rfl (da_cons (de_fnK K (ok_rounds Z) hr (by omega) rfl (da_cons (de_v 6) (da_cons (de_op (op_addAK K) ops_addA (de_v 14) (de_lst (da_cons (de_tup (da_cons (de_str) (da_cons (de_int) (da_cons (de_non) (da_nil))))) (da_nil)))) (da_nil)))) (da_cons (de_fnK K (ok__law_rounds Z) hr (by omega) rfl (da_cons (de_v 6) (da_cons (de_op (op_addAK K) ops_addA (de_v 14) (de_lst (da_cons (de_tup (da_cons (de_str) (da_cons (de_int) (da_cons (de_non) (da_nil))))) (da_nil)))) (da_nil)))) (da_nil)))))) (dss_one (ds_ret (de_bl))) (dss_nil)) (dss_one (ds_ret (de_andK K (de_cmp (op_eqDK K hr.u64) ops_eq rfl (de_fnK K (ok_backwards Z) hr (by omega) rfl (da_cons (de_v 6) (da_nil))) (de_revT (de_v 6) (de_neg (de_int)))) (de_one (de_cmp (op_eqDK K hr.u64) ops_eq rfl (de_fnK K (ok_shared Z) hr (by omega) rfl (da_cons (de_v 6) (da_cons (de_ixK K (de_v 1) (de_int)) (da_nil)))) (de_fnK K (ok__law_shared Z) hr (by omega) rfl (da_cons (de_v 6) (da_cons (de_ixK K (de_v 1) (de_int)) (da_nil))))))))))))))))))))))))))))⟩
theorem ok_law (Z : Fx K mg) {fd : FuncData} (F : FunD K "law" "law" (defArgs s_law) (defBody s_law) (defScope s_law) [] [] (He.ga K "law") fd) : FnOk P w K mg base CX0 10 (He.ga K "law") fd ["script"] (spM K .fz Ph_law) :=
  law_fz (P := P) (w := w) (mg := mg) (base := base) (b := b_law) (k := 9) (N := N_law) F sc_law (dd_law Z)
end
end Hd
open PySem PySem.W PySem.Calls PyProof.Rows
theorem law_from (hlaw : ∀ ns : List Int, ns.length ≤ 63 → Hd.Ph_law [.list (ns.map .int)] = some (.bool true)) : PySem.Challenge.rw_playground_k36_words_near_and_ladders.Holds := by
  w_on; o_law
  refine HandSHeadRun.head_any (r := OpenLaw.row PySem.Challenge.rw_playground_k36_words_near_and_ladders) (q := view (OpenLaw.row PySem.Challenge.rw_playground_k36_words_near_and_ladders).prog [54]) (H := Hd.hk) (ob := Hd.ob) (M := 4000) (loose := Hd.loose) (d := HandSHeadRun.topDef (OpenLaw.row PySem.Challenge.rw_playground_k36_words_near_and_ladders).prog 54) (kwd := []) Hd.ob_eq
    (by kernel_rfl) (fun s => by kernel_rfl) Hd.run (by kernel_rfl) (by kernel_rfl) (by kernel_rfl) (by rfl) (by first | assumption | decide +kernel) (by decide +kernel) ⟨rfl, rfl, rfl, rfl, rfl, by decide +kernel⟩ ?hw ?hc
  case hw => w_witness2
  case hc =>
    refine L2.walk_ofE (l := PySem.Challenge.rw_playground_k36_words_near_and_ladders) (n := 63) (k := 10) (x := "script") (CX := L2.CX0) rfl (by decide) (by kernel_rfl) ⟨rfl, by decide, by decide⟩ ?F (fun _ _ _ _ z => z)
    intro w mg fa h Y G hmg0
    obtain ⟨K, KX, c, c2⟩ := Y
    have hmg : mg ("law" : PySem.Str) = some (.ref fa) := by
      have e : (HandSHeadRun.topDef (OpenLaw.row PySem.Challenge.rw_playground_k36_words_near_and_ladders).prog 54).name = ("law" : PySem.Str) := by kernel_rfl
      rw [← e]
      exact hmg0
    have Z := Hd.fx_ok KX G c c2
    obtain ⟨fd, FB⟩ := Z.f_law
    have e := hmg.symm.trans Z.g_law
    cases e
    have b := L2.FunD.bindsA (ps := ["script"]) FB fun _ _ _ _ _ _ us hl => match us, hl with | [_], _ => rfl
    refine ⟨K, fd, Q.spM K .fz Hd.Ph_law, KX, fun s v => b s [v] rfl, fun H a ns hl hO hS => ?_, fun base _ _ => ?_⟩
    · exact ⟨H, [.list (ns.map .int)], .bool true, .refl _, .cons (.lst hS (Q.RepA.of_ints ns)) .nil, hlaw ns hl, fun v F' H' _ r => Q.Rep.bl_of r⟩
    · exact Hd.ok_law Z FB
end

/-! part: K36a -/
section
set_option Elab.async false
set_option linter.all false
set_option maxRecDepth 100000
set_option maxHeartbeats 400000
namespace Hd
open PySem PySem.Spec Q
theorem e_is_int (v : Int) : Ph_is_int [.int v] = some (.bool true) := by
  simp -implicitDefEqProofs [Ph_is_int, b_is_int]
theorem e_is_within (v a b : Int) : Ph_is_within [.int v, .int a, .int b] = some (.bool (decide (a ≤ v) && decide (v ≤ b))) := by
  simp -implicitDefEqProofs [Ph_is_within, b_is_within, e_is_int]
  split <;> simp_all <;> omega
theorem e_need_within (at_ : D) (v a b : Int) (h : a ≤ v ∧ v ≤ b) : Ph_need_within [at_, .int v, .int a, .int b] = some (.int v) := by
  simp -implicitDefEqProofs [Ph_need_within, b_need_within, e_is_within, h.1, h.2]
theorem e_need_t (at_ : D) (ds : List D) : Ph_need [at_, .tuple ds] = some (.tuple ds) := by
  simp -implicitDefEqProofs [Ph_need, b_need]
theorem e_is_seq_l (ds : List D) : Ph_is_seq [.list ds] = some (.bool true) := by
  simp -implicitDefEqProofs [Ph_is_seq, b_is_seq]
theorem e_is_seq_t (ds : List D) : Ph_is_seq [.tuple ds] = some (.bool true) := by
  simp -implicitDefEqProofs [Ph_is_seq, b_is_seq]
theorem e_to_row_l (ds : List D) (a b : Int) (h : a ≤ ds.length ∧ (ds.length : Int) ≤ b) : Ph_to_row [.list ds, .int a, .int b] = some (.tuple ds) := by
  simp -implicitDefEqProofs [Ph_to_row, b_to_row, e_is_seq_l, h.1, h.2]
theorem e_to_row_t (ds : List D) (a b : Int) (h : a ≤ ds.length ∧ (ds.length : Int) ≤ b) : Ph_to_row [.tuple ds, .int a, .int b] = some (.tuple ds) := by
  simp -implicitDefEqProofs [Ph_to_row, b_to_row, e_is_seq_t, h.1, h.2]
theorem e_cell (ns : List Int) (k : Nat) : Ph__law_cell [.list (ns.map .int), .int k] = some (.int (ns.getD k 0)) := by
  simp -implicitDefEqProofs [Ph__law_cell, b__law_cell]
  split
  · rename_i h
    rw [atI_nat (by simpa using h)]
    simp -implicitDefEqProofs [h]
  · rename_i h
    simp -implicitDefEqProofs [List.getElem?_eq_none (Nat.not_lt.mp h)]
theorem e_numbers (ns : List Int) (spot : Nat) (k : Nat) (hk : k ≤ 1000) : ∃ l : List Int, l.length = k ∧ Ph__law_numbers [.list (ns.map .int), .int spot, .int k] = some (.list (l.map .int)) := by
  simp -implicitDefEqProofs [Ph__law_numbers, b__law_numbers, e_cell, rg1_n (k := k) (by omega)]
  generalize hc : ns[spot]?.getD 0 = c
  obtain ⟨ρ', h1, l, r, s6, s7, h2, h3⟩ := forL_ex (step := turnD (sN 6) L__law_numbers_1) (xs := List.range k) (mk := fun i => .int (i : Nat)) (fun (j : Nat) (ρ : Rho) => ∃ (l : List Int) (r : Int) (s6 s7 : Sl), l.length = j ∧ ρ = [.im (.list (ns.map .int)), .im (.int spot), .im (.int k), .im (.int c), .ow (.list (l.map .int)), .im (.int r), s6, s7])
    _ ⟨[], c, .un, .un, rfl, rfl⟩ (by
      rintro j ρ x ⟨l, r, s6, s7, rfl, rfl⟩ hx
      have hlt : l.length < k := by
        have := (List.getElem?_eq_some_iff.mp hx).1
        simpa using this
      have hs : l.length < sizeLine := by have := line_ge; omega
      by_cases h : (1000000000000000000 : Int) ≤ c
      · refine ⟨[.im (.list (ns.map .int)), .im (.int spot), .im (.int k), .im (.int c), .ow (.list ((l ++ [r % (10 ^ 9)]).map .int)), .im (.int (r / (10 ^ 9))), .im (.int x), s7], .inl ?_, _, _, _, _, by simp, rfl⟩
        simp -implicitDefEqProofs [L__law_numbers_1, h, hs]
      · refine ⟨[.im (.list (ns.map .int)), .im (.int spot), .im (.int k), .im (.int c), .ow (.list ((l ++ [((((c * 48271 + ((x : Int) + 1) * 69621 + spot) % 2147483647) * 16807 + ((x : Int) + 3) * 40692) % 2147483399) % (10 ^ 9)]).map .int)), .im (.int r), .im (.int x), .im (.int ((c * 48271 + ((x : Int) + 1) * 69621 + spot) % 2147483647))], .inl ?_, _, _, _, _, by simp, rfl⟩
        simp -implicitDefEqProofs [L__law_numbers_1, h, hs])
  rw [List.map_nil] at h1
  rw [h1]
  subst h3
  refine ⟨l, by simpa using h2, ?_⟩
  simp
/-! ### the rhymes -/
theorem e_listed_i (n : Nat) (i : Int) : Ph__law_listed (n + 1) [.int i] = some (.int i) := by
  simp -implicitDefEqProofs [Ph__law_listed, b__law_listed]
theorem e_listed (ws : List Int) (h : ws.length ≤ 1000) : Ph__law_listed 4 [.tuple (ws.map .int)] = some (.list (ws.map .int)) := by
  have e := e_listed_i 2
  rw [Ph__law_listed]
  generalize Ph__law_listed 3 = φ at *
  simp -implicitDefEqProofs [b__law_listed]
  rw [lcL_all (g := fun n => .int n) (by simp) (fun n hn => by simp [e]), Option.bind_some, Function.comp, lcB_small (by simp; omega)]
  simp
theorem e_same_i (n : Nat) (i j : Int) : Ph__law_same (n + 1) [.int i, .int j] = some (.bool (i == j)) := by
  simp -implicitDefEqProofs [Ph__law_same, b__law_same]
theorem e_same (ns ms : List Int) (h : ns.length ≤ 1000) : Ph__law_same 4 [.tuple (ns.map .int), .tuple (ms.map .int)] = some (.bool (decide (ns = ms))) := by
  have e := e_same_i 2
  rw [Ph__law_same]
  generalize Ph__law_same 3 = φ at *
  simp -implicitDefEqProofs [b__law_same, rg1_n (k := ns.length) (by omega)]
  by_cases hl : ns.length = ms.length
  · rw [lcL_map (p := fun k => !(ns.getD k 0 == ms.getD k 0)) (g := fun k => .int (k : Nat)) (fun k hk => by
      have hk' : k < ns.length := by simpa using hk
      simp [at_n ns hk', at_n ms (by omega : k < ms.length), e]) (fun k hk _ => by simp), Option.bind_some, lcB_small (by
        have := List.length_filter_le (fun k => !(ns.getD k 0 == ms.getD k 0)) (List.range ns.length)
        simp only [List.length_map, List.length_range] at *
        omega), Option.bind_some, eq_f0, same_filter hl]
    simp [hl]
  · have hne : ns ≠ ms := fun z => hl (by rw [z])
    have hl' : ¬ (ns.length : Int) = ms.length := by omega
    simp [hl', hne]
theorem e_listed_g : ∀ (n : Nat) (d : D), tame n d = true → Ph__law_listed n [d] = some (lstd n d)
  | 0, d, h => by cases d <;> cases h
  | n + 1, .int i, _ => e_listed_i n i
  | n + 1, .bool i, _ => by simp -implicitDefEqProofs [Ph__law_listed, b__law_listed]; rfl
  | n + 1, .none, _ => by simp -implicitDefEqProofs [Ph__law_listed, b__law_listed]; rfl
  | n + 1, .str s, _ => by simp -implicitDefEqProofs [Ph__law_listed, b__law_listed]; rfl
  | n + 1, .list s, h => by cases h
  | n + 1, .dict s, h => by cases h
  | n + 1, .tuple ds, h => by
    obtain ⟨h1, h2⟩ := tame_t h
    have ih : ∀ d ∈ ds, Ph__law_listed n [d] = some (lstd n d) := fun d hd => e_listed_g n d (h2 d hd)
    rw [Ph__law_listed]
    generalize Ph__law_listed n = φ at *
    have e := lcL_all (α := D) (xs := ds) (mk := id) (g := lstd n) (tt := fun d => fYes ([Sl.im (.tuple ds), .un].set 1 (.im d))) (te := fun d => fB φ (aCons (vF 1) aNil) ([Sl.im (.tuple ds), .un].set 1 (.im d))) (by simp) (fun d hd => by simp [ih d hd])
    rw [List.map_id] at e
    simp -implicitDefEqProofs [b__law_listed]
    simp -implicitDefEqProofs at e
    rw [e, Option.bind_some, Function.comp, lcB_small (by simp; omega)]
    simp [lstd]
theorem e_same_r : ∀ (n : Nat) (d : D), tame n d = true → Ph__law_same n [d, d] = some (.bool true)
  | 0, d, h => by cases d <;> cases h
  | n + 1, .int i, _ => by simp -implicitDefEqProofs [Ph__law_same, b__law_same]
  | n + 1, .bool i, _ => by simp -implicitDefEqProofs [Ph__law_same, b__law_same]
  | n + 1, .none, _ => by simp -implicitDefEqProofs [Ph__law_same, b__law_same]
  | n + 1, .str s, h => by simp -implicitDefEqProofs [Ph__law_same, b__law_same, eq_str (x := s) h]
  | n + 1, .list s, h => by cases h
  | n + 1, .dict s, h => by cases h
  | n + 1, .tuple ds, h => by
    obtain ⟨h1, h2⟩ := tame_t h
    have ih : ∀ d ∈ ds, Ph__law_same n [d, d] = some (.bool true) := fun d hd => e_same_r n d (h2 d hd)
    rw [Ph__law_same]
    generalize Ph__law_same n = φ at *
    have e0 : eqD (.list []) (.list []) = some (.bool true) := rfl
    simp -implicitDefEqProofs [b__law_same, rg1_n (k := ds.length) (by omega)]
    rw [lcL_map (p := fun k => false) (g := fun k => .int (k : Nat)) (fun k hk => by
      have hk' : k < ds.length := by simpa using hk
      simp [atI_nat hk', ih _ (List.getElem_mem hk')]) (fun k hk _ => by simp), Option.bind_some, lcB_small (by rw [List.length_map, List.filter_eq_nil_iff.mpr (by simp)]; simp)]
    simp [e0]
end Hd
end

/-! part: K36b -/
section
set_option Elab.async false
set_option linter.all false
set_option maxRecDepth 100000
set_option maxHeartbeats 400000
namespace Hd
open PySem PySem.Spec Q
abbrev W := List (Fin 3)
def Dm (a b : W) : Nat → Nat → Int
  | 0, j => j
  | i + 1, 0 => (i : Int) + 1
  | i + 1, j + 1 => min (min (Dm a b i j + (if a.getD i 0 = b.getD j 0 then 0 else 1)) (Dm a b i (j + 1) + 1)) (Dm a b (i + 1) j + 1)
termination_by i j => (i, j)
theorem Dm_0 (a b : W) (j : Nat) : Dm a b 0 j = j := by rw [Dm]
theorem Dm_s0 (a b : W) (i : Nat) : Dm a b (i + 1) 0 = (i : Int) + 1 := by rw [Dm]
theorem Dm_ss (a b : W) (i j : Nat) : Dm a b (i + 1) (j + 1) = min (min (Dm a b i j + (if a.getD i 0 = b.getD j 0 then 0 else 1)) (Dm a b i (j + 1) + 1)) (Dm a b (i + 1) j + 1) := by rw [Dm]
theorem Dm_i0 (a b : W) (i : Nat) : Dm a b i 0 = i := by
  cases i with
  | zero => rw [Dm_0]
  | succ i => rw [Dm_s0]; omega
theorem Dm_symm (a b : W) : ∀ i j, Dm a b i j = Dm b a j i
  | 0, j => by rw [Dm_0, Dm_i0]
  | i + 1, 0 => by rw [Dm_i0, Dm_0]
  | i + 1, j + 1 => by
    rw [Dm_ss, Dm_ss, Dm_symm a b i j, Dm_symm a b i (j + 1), Dm_symm a b (i + 1) j]
    by_cases e : a.getD i 0 = b.getD j 0
    · rw [if_pos e, if_pos e.symm]; omega
    · rw [if_neg e, if_neg fun z => e z.symm]; omega
termination_by i j => (i, j)
theorem take_s {α : Type} (d : α) (l : List α) (i : Nat) (h : i < l.length) : l.take (i + 1) = l.take i ++ [l.getD i d] := by
  rw [List.take_add_one]
  simp [h]
theorem Dm_zero (a b : W) : ∀ i j, i ≤ a.length → j ≤ b.length → 0 ≤ Dm a b i j ∧ (Dm a b i j = 0 ↔ a.take i = b.take j)
  | 0, j, _, hj => by
    rw [Dm_0, List.take_zero]
    refine ⟨by omega, ?_⟩
    constructor
    · intro h
      have : j = 0 := by omega
      subst this
      rfl
    · intro h
      have := congrArg List.length h
      simp at this
      omega
  | i + 1, 0, hi, _ => by
    rw [Dm_s0, List.take_zero]
    refine ⟨by omega, ?_⟩
    constructor
    · intro h; omega
    · intro h
      have : (a.take (i + 1)).length = 0 := by rw [h]; rfl
      rw [List.length_take] at this
      omega
  | i + 1, j + 1, hi, hj => by
    obtain ⟨p1, q1⟩ := Dm_zero a b i j (by omega) (by omega)
    obtain ⟨p2, q2⟩ := Dm_zero a b i (j + 1) (by omega) hj
    obtain ⟨p3, q3⟩ := Dm_zero a b (i + 1) j hi (by omega)
    rw [Dm_ss, take_s 0 a i (by omega), take_s 0 b j (by omega)]
    by_cases e : a.getD i 0 = b.getD j 0
    · rw [if_pos e]
      refine ⟨by omega, ?_⟩
      constructor
      · intro h
        have : Dm a b i j = 0 := by omega
        rw [q1.mp this, e]
      · intro h
        have h2 := (List.append_inj' h rfl).1
        have := q1.mpr h2
        omega
    · rw [if_neg e]
      refine ⟨by omega, ?_⟩
      constructor
      · intro h; omega
      · intro h
        have h2 := (List.append_inj' h rfl).2
        simp at h2
        exact absurd (by simpa using h2) e
termination_by i j => (i, j)
def gp (a b : W) : Int := Dm a b a.length b.length
theorem gp_symm (a b : W) : gp a b = gp b a := Dm_symm ..
theorem gp_nonneg (a b : W) : 0 ≤ gp a b := (Dm_zero a b _ _ (Nat.le_refl _) (Nat.le_refl _)).1
theorem gp_zero (a b : W) : gp a b = 0 ↔ a = b := by
  have := (Dm_zero a b _ _ (Nat.le_refl _) (Nat.le_refl _)).2
  simpa [gp] using this
theorem gp_pos (a b : W) : 0 < gp a b ↔ a ≠ b := by
  have h1 := gp_nonneg a b
  have h2 := gp_zero a b
  constructor
  · intro h e; have := h2.mpr e; omega
  · intro h
    have : gp a b ≠ 0 := fun z => h (h2.mp z)
    omega
theorem Dm_le (a b : W) : ∀ i j, Dm a b i j ≤ i + j
  | 0, j => by rw [Dm_0]; omega
  | i + 1, 0 => by rw [Dm_s0]; omega
  | i + 1, j + 1 => by
    have := Dm_le a b i (j + 1)
    rw [Dm_ss]
    omega
def lc (c : Fin 3) : Nat := if c = 0 then 97 else if c = 1 then 98 else 116
def wS (w : W) : Str := ⟨(w.map lc).toArray⟩
def wD (w : W) : D := .str (wS w)
theorem lc_inj : ∀ a b : Fin 3, lc a = lc b ↔ a = b := by decide
theorem lc_lt : ∀ a b : Fin 3, lc a < lc b ↔ a < b := by decide
theorem map_lc : ∀ a b : W, a.map lc = b.map lc ↔ a = b
  | [], [] => by simp
  | [], _ :: _ => by simp
  | _ :: _, [] => by simp
  | a :: as, b :: bs => by simp [lc_inj, map_lc as bs]
theorem wS_inj (a b : W) : wS a = wS b ↔ a = b := by
  unfold wS
  rw [Str.mk.injEq, ← map_lc a b]
  constructor
  · intro h; simpa using congrArg Array.toList h
  · intro h; rw [h]
theorem wD_inj (a b : W) : wD a = wD b ↔ a = b := by unfold wD; rw [PyData.str.injEq, wS_inj]
theorem nice_w : Nice 0 wD := ⟨fun w => by
    show PyData.strOk (wS w) = true
    simp only [PyData.strOk, wS]
    rw [Array.all_eq_true]
    intro i hi
    simp only [List.getElem_toArray, List.getElem_map, decide_eq_true_eq]
    have : ∀ c : Fin 3, lc c < 0x110000 := by decide
    exact this _, fun _ => Nat.le_refl _, fun a b => by
    show (wS a == wS b) = _
    by_cases e : a = b
    · subst e; simp
    · have : ¬ wS a = wS b := fun z => e ((wS_inj a b).mp z)
      simp [e, this]⟩
/-- the words' order -/
def wlt : W → W → Bool
  | [], [] => false
  | [], _ :: _ => true
  | _ :: _, [] => false
  | a :: as, b :: bs => if a = b then wlt as bs else decide (a < b)
theorem wlt_lc : ∀ a b : W, decide (a.map lc < b.map lc) = wlt a b
  | [], [] => by simp [wlt]
  | [], _ :: _ => by simp [wlt]
  | _ :: _, [] => by simp [wlt]
  | a :: as, b :: bs => by
    have ih := wlt_lc as bs
    rw [wlt, ← ih]
    by_cases e : a = b
    · subst e; simp [List.cons_lt_cons_iff]
    · have := lc_lt a b
      have := lc_inj a b
      simp [List.cons_lt_cons_iff, e, *]
theorem ordd_w : Ordd wD wlt := ⟨fun _ _ => by simp [wD, PySem.W.alike], fun a b => by
    unfold wD
    rw [PySem.W.dataLt_str, ← wlt_lc]
    have e : ∀ w, (wS w).cps.toList = w.map lc := fun w => by simp [wS]
    rw [e, e], fun _ z => nomatch z⟩
theorem wlt_irr : ∀ a : W, wlt a a = false
  | [] => rfl
  | a :: as => by simp [wlt, wlt_irr as]
theorem wlt_tot : ∀ a b : W, a ≠ b → wlt a b = !wlt b a
  | [], [], h => absurd rfl h
  | [], _ :: _, _ => rfl
  | _ :: _, [], _ => rfl
  | a :: as, b :: bs, h => by
    rw [wlt, wlt]
    by_cases e : a = b
    · subst e
      simp only [if_true]
      exact wlt_tot as bs fun z => h (by rw [z])
    · rw [if_neg e, if_neg (Ne.symm e)]
      rw [← decide_not]
      congr 1
      apply propext
      omega
theorem wlt_trans : ∀ a b c : W, wlt a b = true → wlt b c = true → wlt a c = true
  | [], [], _, h, _ => by simp [wlt] at h
  | [], _ :: _, [], _, h => by simp [wlt] at h
  | [], _ :: _, _ :: _, _, _ => rfl
  | _ :: _, [], _, h, _ => by simp [wlt] at h
  | _ :: _, _ :: _, [], _, h => by simp [wlt] at h
  | a :: as, b :: bs, c :: cs, h1, h2 => by
    rw [wlt] at h1 h2 ⊢
    by_cases e : a = b
    · subst e
      rw [if_pos rfl] at h1
      by_cases e2 : a = c
      · subst e2
        rw [if_pos rfl] at h2 ⊢
        exact wlt_trans as bs cs h1 h2
      · rw [if_neg e2] at h2 ⊢
        exact h2
    · rw [if_neg e] at h1
      by_cases e2 : b = c
      · subst e2
        rw [if_neg e]
        exact h1
      · rw [if_neg e2] at h2
        have h1 := of_decide_eq_true h1
        have h2 := of_decide_eq_true h2
        rw [if_neg (by omega)]
        exact decide_eq_true (by omega)
/-! rows of coded things -/
def rlt {α : Type} [DecidableEq α] (lt : α → α → Bool) : List α → List α → Bool
  | [], [] => false
  | [], _ :: _ => true
  | _ :: _, [] => false
  | a :: as, b :: bs => if a = b then rlt lt as bs else lt a b
theorem ordd_tupL {α : Type} [DecidableEq α] {n : Nat} {mk : α → D} {lt : α → α → Bool} (h : Nice n mk) (o : Ordd mk lt) : Ordd (fun xs : List α => PyData.tuple (xs.map mk)) (rlt lt) := ⟨fun xs ys => by
    have : ∀ (xs ys : List α), PySem.W.alikeAll (xs.map mk) (ys.map mk) = true := by
      intro xs
      induction xs with
      | nil => intro ys; simp [PySem.W.alikeAll]
      | cons x xs ih =>
        intro ys
        cases ys with
        | nil => simp [PySem.W.alikeAll]
        | cons y ys => simp [PySem.W.alikeAll, o.alike, ih]
    rw [PySem.W.alike]
    exact this xs ys, fun xs ys => by
    rw [PySem.W.dataLt_tuple]
    show PySem.W.rowLt (xs.map mk) (ys.map mk) = rlt lt xs ys
    induction xs generalizing ys with
    | nil =>
      cases ys with
      | nil => exact PyProof.Rows.lex_irrefl _
      | cons y ys =>
        show PySem.W.rowLt [] (mk y :: ys.map mk) = true
        unfold PySem.W.rowLt
        rw [PySem.W.toks_all_cons]
        simp only [PySem.W.keyToksAll]
        rw [PyProof.Rows.lex_diff (O := PyProof.Rows.itemOrd) (by simp)]
        rfl
    | cons x xs ih =>
      cases ys with
      | nil =>
        show PySem.W.rowLt (mk x :: xs.map mk) [] = false
        unfold PySem.W.rowLt
        rw [PySem.W.toks_all_cons]
        simp only [PySem.W.keyToksAll]
        rw [PyProof.Rows.lex_diff (O := PyProof.Rows.itemOrd) (by simp)]
        rfl
      | cons y ys =>
        have ih' := ih ys
        show PySem.W.rowLt (mk x :: xs.map mk) (mk y :: ys.map mk) = _
        unfold PySem.W.rowLt at ih' ⊢
        rw [PySem.W.dataLt_cons (o.alike x y), ih', h.eqv, o.lt, rlt]
        simp, fun _ z => nomatch z⟩
end Hd
end

/-! part: K36c -/
section
set_option Elab.async false
set_option linter.all false
set_option maxRecDepth 100000
set_option maxHeartbeats 400000
namespace Hd
open PySem PySem.Spec Q
def sgn (c : Fin 3) : D := .str ⟨#[lc c]⟩
def oD : Option W → D
  | none => .none
  | some w => wD w
def okW (w : W) : Prop := 1 ≤ w.length ∧ w.length ≤ 4
theorem wS_len (w : W) : (wS w).length = w.length := by
  show (w.map lc).toArray.size = _
  simp
theorem signs_w (w : W) : signsD (wS w) = w.map sgn := by
  unfold signsD wS
  rw [List.toList_toArray, List.map_map]
  rfl
theorem wD_none (w : W) : isND (wD w) .none = some (.bool false) := rfl
theorem wD_str (w : W) : wD w = .str (wS w) := rfl
theorem sgn_in : ∀ c : Fin 3, isT (sgnD id (sgn c) (.str "abcdefghijklmnopqrstuvwxyz")) = true := by decide +kernel
theorem lenD_w (w : W) (h : w.length ≤ 1000) : lenD [wD w] = some (.int (w.length : Nat)) := by
  have hl := line_ge
  rw [wD_str, lenD, if_pos (by rw [wS_len]; omega), wS_len]
theorem isi_w (w : W) : isiD "str" (wD w) = some (.bool true) := rfl
@[simp] theorem bls_map {α : Type} (f : α → Bool) : ∀ l : List α, blsOf (l.map (PyData.bool ∘ f)) = some (l.map f)
  | [] => rfl
  | x :: l => by rw [List.map_cons]; show (blsOf _).map _ = _; rw [bls_map f l]; rfl
theorem e_is_name (w : W) (h : okW w) : Ph_is_name [wD w] = some (.bool true) := by
  obtain ⟨h1, h2⟩ := h
  have l1 := lenD_w w (by omega)
  have g1 : leD (.int 1) (.int (w.length : Nat)) = some (.bool true) := by simp; omega
  have g2 : leD (.int (w.length : Nat)) (.int 8) = some (.bool true) := by simp; omega
  have e : walkD (wD w) = some (w.map sgn) := by
    rw [← signs_w]; rfl
  have c1 : (1 : Int) ≤ (w.length : Nat) := by omega
  have c2 : ((w.length : Nat) : Int) ≤ 8 := by omega
  simp -implicitDefEqProofs [Ph_is_name, b_is_name, isi_w, l1, e, c1, c2]
  rw [lcL_all (g := fun _ => .bool true) (by simp) (fun c _ => by simp [isT_eq (sgn_in c)]), Option.bind_some, lcB_small (by simp; omega)]
  have e0 : (w.map fun _ => PyData.bool true) = (w.map fun _ => true).map .bool := by rw [List.map_map]; rfl
  simp [e0]
theorem e_to_word (w : W) (h : okW w) : Ph_to_word [wD w] = some (wD w) := by
  simp -implicitDefEqProofs [Ph_to_word, b_to_word, e_is_name w h]
theorem e_need_w (k : D) (w : W) : Ph_need [k, wD w] = some (wD w) := by
  simp -implicitDefEqProofs [Ph_need, b_need, wD_none]
theorem e_nd_w (k : D) (w : W) (h : okW w) : ((Ph_to_word [wD w]).bind fun x => Ph_need [k, x]) = some (wD w) := by
  rw [e_to_word w h, Option.bind_some, e_need_w]
theorem o_lt {α : Type} [DecidableEq α] {n : Nat} {mk : α → D} {lt : α → α → Bool} (h : Nice n mk) (hn : n ≤ 64) (o : Ordd mk lt) (a b : α) : ltD (mk a) (mk b) = some (.bool (lt a b)) := by
  have e : ordOk (mk a) (mk b) = true := by
    have n1 := o.nn a
    have h2 := Nat.le_trans (h.dep a) hn
    have n2 := nd_lay _ (h.lay a)
    have n3 := nd_lay _ (h.lay b)
    unfold ordOk
    rw [o.alike, n2, n3]
    cases hd : mk a with
    | none => exact absurd hd n1
    | _ => rw [hd] at h2; simpa using h2
  rw [ltD, if_pos e, o.lt]
theorem e_rank (w : W) : Ph_rank_key 4 [wD w] = some (.tuple [.int 3, wD w]) := by
  have e1 : isiD "bool" (wD w) = some (.bool false) := rfl
  have e2 : isiD "int" (wD w) = some (.bool false) := rfl
  simp -implicitDefEqProofs [Ph_rank_key, b_rank_key, wD_none, isi_w, e1, e2]
def rk (w : W) : D := .tuple [.int 3, wD w]
theorem rk_lt (a b : W) : ltD (rk a) (rk b) = some (.bool (wlt a b)) := by
  have := o_lt (nice_pair nice_int nice_w) (by decide) (ordd_pair nice_int nice_w ordd_int ordd_w wlt_irr) ((3 : Int), a) (3, b)
  exact this
theorem e_is_rising (ws : List W) (hl : 1 ≤ ws.length ∧ ws.length ≤ 40) (h : ∀ i, i + 1 < ws.length → wlt (ws.getD i []) (ws.getD (i + 1) []) = true) : Ph_is_rising [.tuple (ws.map wD)] = some (.bool true) := by
  simp -implicitDefEqProofs [Ph_is_rising, b_is_rising]
  rw [lcL_all (g := rk) (by simp) (fun w _ => by simp [e_rank, rk]), Option.bind_some, lcB_small (by simp; omega)]
  have hs : ((ws.length : Int) - 1) = ((ws.length - 1 : Nat) : Int) := by omega
  simp -implicitDefEqProofs [hs, rg1_n (k := ws.length - 1) (by omega)]
  rw [lcL_all (g := fun _ => .bool true) (by simp) (fun i hi => by
    have hi' := List.mem_range.mp hi
    have a1 := at_mk (mk := rk) ws [] (k := i) (by omega)
    have a2 := at_mk (mk := rk) ws [] (k := i + 1) (by omega)
    have hh := h i (by omega)
    rw [show ((i + 1 : Nat) : Int) = (i : Int) + 1 by omega] at a2
    simp -implicitDefEqProofs [a1, a2, rk_lt]
    simpa using hh), Option.bind_some, lcB_small (by simp; omega)]
  have e0 : ((List.range (ws.length - 1)).map fun _ => PyData.bool true) = ((List.range (ws.length - 1)).map fun _ => true).map .bool := by rw [List.map_map]; rfl
  simp [e0]
theorem e_to_names (ws : List W) (a b : Int) (ha : a ≤ ws.length ∧ (ws.length : Int) ≤ b) (hl : ws.length ≤ 40) (h : ∀ w ∈ ws, okW w) (d : D) (hd : d = .tuple (ws.map wD) ∨ d = .list (ws.map wD)) : Ph_to_names [d, .int a, .int b] = some (.tuple (ws.map wD)) := by
  have hr : Ph_to_row [d, .int a, .int b] = some (.tuple (ws.map wD)) := by
    rcases hd with rfl | rfl
    · exact e_to_row_t _ a b (by simp; omega)
    · exact e_to_row_l _ a b (by simp; omega)
  simp -implicitDefEqProofs [Ph_to_names, b_to_names, hr]
  rw [lcL_all (g := fun _ => .bool true) (by simp) (fun w hw => by simp [e_is_name w (h w hw)]), Option.bind_some, lcB_small (by simp; omega)]
  have e0 : (ws.map fun _ => PyData.bool true) = (ws.map fun _ => true).map .bool := by rw [List.map_map]; rfl
  simp [e0]
theorem e_to_words (ws : List W) (hl : 1 ≤ ws.length ∧ ws.length ≤ 40) (ho : ∀ w ∈ ws, okW w) (h : ∀ i, i + 1 < ws.length → wlt (ws.getD i []) (ws.getD (i + 1) []) = true) (d : D) (hd : d = .tuple (ws.map wD) ∨ d = .list (ws.map wD)) : Ph_to_words [d] = some (.tuple (ws.map wD)) := by
  have e1 := e_to_names ws 1 40 (by omega) hl.2 ho d hd
  have e2 := e_is_rising ws hl h
  simp -implicitDefEqProofs [Ph_to_words, b_to_words, Ph_to_rising_names, b_to_rising_names, e1, e2]
theorem nice_o : Nice 0 oD := ⟨fun o => by
    cases o with
    | none => rfl
    | some w => exact nice_w.lay w, fun o => by cases o <;> exact Nat.le_refl _, fun a b => by
    cases a with
    | none => cases b <;> simp [oD, wD, PyData.eqv]
    | some a =>
      cases b with
      | none => simp [oD, wD, PyData.eqv]
      | some b =>
        have := nice_w.eqv a b
        simp [oD, this]⟩
def okH (hs : List (Option W)) : Prop := (1 ≤ hs.length ∧ hs.length ≤ 4) ∧ ∀ w, some w ∈ hs → okW w
theorem e_to_heard (hs : List (Option W)) (hl : okH hs) (d : D) (hd : d = .tuple (hs.map oD) ∨ d = .list (hs.map oD)) : Ph_to_heard [d] = some (.tuple (hs.map oD)) := by
  obtain ⟨hl, h⟩ := hl
  have hr : Ph_to_row [d, .int 1, .int 10] = some (.tuple (hs.map oD)) := by
    rcases hd with rfl | rfl
    · exact e_to_row_t _ 1 10 (by simp; omega)
    · exact e_to_row_l _ 1 10 (by simp; omega)
  simp -implicitDefEqProofs [Ph_to_heard, b_to_heard, hr]
  rw [lcL_all (g := fun _ => .bool true) (by simp) (fun o ho => by
    cases o with
    | none => simp [oD]
    | some w => simp [oD, wD_none, e_is_name w (h w ho)]), Option.bind_some, lcB_small (by simp; omega)]
  have e0 : (hs.map fun _ => PyData.bool true) = (hs.map fun _ => true).map .bool := by rw [List.map_map]; rfl
  simp [e0]
end Hd
end

/-! part: K36d -/
section
set_option Elab.async false
set_option linter.all false
set_option maxRecDepth 100000
set_option maxHeartbeats 400000
namespace Hd
open PySem PySem.Spec Q
/-! _law_word -/
theorem glue_w : ∀ (l : W) (acc : Array Nat), (l.map fun c => (⟨#[lc c]⟩ : Str)).foldl (fun acc p => acc ++ ("" : Str).cps ++ p.cps) acc = acc ++ (l.map lc).toArray
  | [], acc => by simp
  | c :: l, acc => by
    rw [List.map_cons, List.foldl_cons, glue_w l]
    have : ("" : Str).cps = #[] := by decide +kernel
    rw [this]
    simp
theorem join_w (w : W) (h : w.length ≤ 1000) : joinD (.str "") (.list (w.map sgn)) = some (wD w) := by
  have e1 : w.map sgn = (w.map fun c => (⟨#[lc c]⟩ : Str)).map .str := by rw [List.map_map]; rfl
  have e2 : ("" : Str).length = 0 := by decide +kernel
  have e3 : ((w.map fun c => (⟨#[lc c]⟩ : Str)).map (·.length)).sum = w.length := by
    rw [List.map_map]
    clear h e1
    induction w with
    | nil => rfl
    | cons c w ih =>
      rw [List.map_cons, List.sum_cons, ih, List.length_cons]
      show 1 + _ = _
      omega
  rw [joinD, items_l, Option.bind_some, e1, strsOf_strs, Option.bind_some, if_pos (by rw [e3, e2]; omega)]
  congr 2
  show PySem.Builtin.Str.glued _ _ = wS w
  cases w with
  | nil => rfl
  | cons c w =>
    unfold PySem.Builtin.Str.glued
    rw [List.map_cons, List.drop_one, List.tail_cons, List.headD_cons, glue_w]
    unfold wS
    simp
def lt3 (i : Int) : Fin 3 := if i % 3 = 0 then 0 else if i % 3 = 1 then 1 else 2
theorem abt_at (i : Int) : ixD (.str "abt") (.int (i % 3)) = some (sgn (lt3 i)) := by
  have h : i % 3 = 0 ∨ i % 3 = 1 ∨ i % 3 = 2 := by omega
  unfold lt3
  rcases h with h | h | h <;> rw [h] <;> rfl
def mkw (n : Int) : W := (List.range (1 + n % 4).toNat).map fun (k : Nat) => lt3 (n / (1 + 4 * (k : Int)))
theorem mkw_ok (n : Int) : okW (mkw n) := by
  unfold okW mkw
  simp
  omega
theorem e_word (n : Int) : Ph__law_word [.int n] = some (wD (mkw n)) := by
  simp -implicitDefEqProofs [Ph__law_word, b__law_word]
  rw [rg1_i (by omega)]
  simp -implicitDefEqProofs
  rw [lcL_all (g := fun (k : Nat) => sgn (lt3 (n / (1 + 4 * (k : Int))))) (by simp) (fun k hk => by
    have hk' := List.mem_range.mp hk
    have h1 : (0 : Int) < 1 + 4 * (k : Int) := by omega
    have h2 : (1 + 4 * (k : Int)) < 1073741824 := by omega
    have h3 : mulI 4 (k : Int) = some (.int (4 * (k : Int))) := mulI_r (by omega) (by omega)
    simp [h3, fdiv_pos h1 h2, abt_at]), Option.bind_some, lcB_small (by simp; omega)]
  have e : (List.range (1 + n % 4).toNat).map (fun (k : Nat) => sgn (lt3 (n / (1 + 4 * (k : Int))))) = (mkw n).map sgn := by
    unfold mkw
    rw [List.map_map]
    rfl
  rw [e]
  simp [join_w (mkw n) (by have := (mkw_ok n).2; omega)]
end Hd
end

/-! part: K36e -/
section
set_option Elab.async false
set_option linter.all false
set_option maxRecDepth 100000
set_option maxHeartbeats 400000
namespace Hd
open PySem PySem.Spec Q
def PR (a b : W) (i k : Nat) : List D := (List.range (k + 1)).map fun j => .int (Dm a b i j)
theorem PR_at (a b : W) (i : Nat) {k n : Nat} (h : k ≤ n) : L2.atI (PR a b i n) (k : Int) = some (.int (Dm a b i k)) := by
  unfold PR
  rw [atI_nat (by simp; omega)]
  simp
theorem PR_at1 (a b : W) (i : Nat) {k n : Nat} (h : k + 1 ≤ n) : L2.atI (PR a b i n) ((k : Int) + 1) = some (.int (Dm a b i (k + 1))) := by
  have := PR_at a b i h
  rwa [show ((k + 1 : Nat) : Int) = (k : Int) + 1 by omega] at this
theorem PR_last (a b : W) (i n : Nat) : L2.atI (PR a b i n) (-1) = some (.int (Dm a b i n)) := by
  have h1 : (PR a b i n).length = n + 1 := by simp [PR]
  have h2 : L2.atI (PR a b i n) (-1) = L2.atI (PR a b i n) (n : Int) := by
    unfold L2.atI
    rw [h1]
    congr 1
    unfold L2.ixN
    rw [if_neg (by omega), if_pos (by omega), if_pos (by omega)]
    simp
    constructor <;> omega
  rw [h2, PR_at a b i (Nat.le_refl n)]
theorem PR_s (a b : W) (i k : Nat) : PR a b i k ++ [.int (Dm a b i (k + 1))] = PR a b i (k + 1) := by
  unfold PR
  rw [List.range_succ (n := k + 1), List.map_append]
  rfl
theorem PR_len (a b : W) (i k : Nat) : (PR a b i k).length = k + 1 := by simp [PR]
theorem PR_z (a b : W) (n : Nat) : PR a b 0 n = (List.range (n + 1)).map fun j => .int (j : Nat) := by
  unfold PR
  apply List.map_congr_left
  intro j _
  rw [Dm_0]
theorem PR_i0 (a b : W) (i : Nat) : PR a b (i + 1) 0 = [.int ((i : Int) + 1)] := by
  unfold PR
  simp [Dm_s0]
theorem sgn_eq : ∀ c d : Fin 3, eqD (sgn c) (sgn d) = some (.bool (decide (c = d))) := by
  intro c d
  have h1 : SeqAt.shaped (sgn c) = true := by revert c; decide +kernel
  have h2 : SeqAt.shaped (sgn d) = true := by revert d; decide +kernel
  rw [eqD, if_pos ⟨h1, h2⟩]
  have : PyData.eqv (sgn c) (sgn d) = decide (c = d) := by clear h1 h2; revert c d; decide +kernel
  rw [this]
theorem enumS_w (w : W) : enumSD (wD w) = some ((List.range w.length).map fun (i : Nat) => PyData.tuple [.int (i : Int), sgn (w.getD i 0)]) := by
  show some (numL 0 (signsD (wS w))) = _
  rw [signs_w, numL_mk 0]
  simp
theorem gap_in (a b : W) (i k : Nat) (hb : b.length ≤ 1000) (hk : k < b.length) (s6 s7 s8 : Sl) :
    ((sT 2 (sCons (sN 6) (sCons (sN 7) sNil)) (.tuple [.int (k : Int), sgn (b.getD k 0)]) [.im (wD a), .im (wD b), .im (.list (PR a b i b.length)), .im (.int i), .im (sgn (a.getD i 0)), .ow (.list (PR a b (i + 1) k)), s6, s7, s8]).bind L_gap_of_1) =
      some (.nx [.im (wD a), .im (wD b), .im (.list (PR a b i b.length)), .im (.int i), .im (sgn (a.getD i 0)), .ow (.list (PR a b (i + 1) (k + 1))), .im (.int k), .im (sgn (b.getD k 0)), .im (.int (Dm a b i k + (if a.getD i 0 = b.getD k 0 then 0 else 1)))]) := by
  have hl := line_ge
  have e1 := PR_at a b i (n := b.length) (k := k) (by omega)
  have e2 := PR_at1 a b i (n := b.length) (k := k) (by omega)
  have e3 := PR_at a b (i + 1) (n := k) (k := k) (by omega)
  have e4 : ¬ (sizeLine ≤ k + 1) := by omega
  have e5 : (PR a b (i + 1) k).length < sizeLine := by rw [PR_len]; omega
  have e6 := PR_s a b (i + 1) k
  rw [Dm_ss] at e6
  by_cases h : a.getD i 0 = b.getD k 0
  · rw [if_pos h] at e6 ⊢
    rw [h] at *
    simp only [Int.add_zero] at e6 ⊢
    generalize b.getD k 0 = c at *
    simp -implicitDefEqProofs [L_gap_of_1, sgn_eq, e1, e2, e3, e5, ← e6]
  · rw [if_neg h] at e6 ⊢
    generalize a.getD i 0 = c at *
    generalize b.getD k 0 = d at *
    simp -implicitDefEqProofs [L_gap_of_1, sgn_eq, e1, e2, e3, e5, h, ← e6]
theorem rg_PR (a b : W) (hb : b.length ≤ 1000) : rgD 0 (b.length + 1) = PR a b 0 b.length := by rw [lr1_n (by omega), PR_z]
theorem e_gap_of (a b : W) (ha : a.length ≤ 1000) (hb : b.length ≤ 1000) : Ph_gap_of [wD a, wD b] = some (.int (gp a b)) := by
  have eb := lenD_w b hb
  have ea := enumS_w a
  have ebs := enumS_w b
  have hr := rg_PR a b hb
  have c1 : -4611686018427387904 ≤ (b.length : Int) + 1 ∧ (b.length : Int) + 1 ≤ 16777216 := by omega
  have c2 : ((b.length : Int) + 1).toNat = b.length + 1 := by omega
  simp -implicitDefEqProofs [Ph_gap_of, b_gap_of, eb, c1, c2, hr, ea]
  obtain ⟨ρ', h1, x3, x4, x5, x6, x7, x8, h2⟩ := forL_all (step := turnD (sT 2 (sCons (sN 3) (sCons (sN 4) sNil))) L_gap_of_2) (xs := List.range a.length) (mk := fun i => .tuple [.int (i : Nat), sgn (a.getD i 0)])
    (fun pre (ρ : Rho) => ∃ x3 x4 x5 x6 x7 x8, ρ = [.im (wD a), .im (wD b), .im (.list (PR a b pre.length b.length)), x3, x4, x5, x6, x7, x8])
    [.im (wD a), .im (wD b), .im (.list (PR a b 0 b.length)), .un, .un, .un, .un, .un, .un] ⟨_, _, _, _, _, _, rfl⟩ (by
    rintro pre post ρ i ⟨y3, y4, y5, y6, y7, y8, rfl⟩ hx
    obtain ⟨g1, g2, g3⟩ := range_split hx
    obtain ⟨ρ2, h1, x6, x7, x8, h2⟩ := forL_all (step := turnD (sT 2 (sCons (sN 6) (sCons (sN 7) sNil))) L_gap_of_1) (xs := List.range b.length) (mk := fun i => .tuple [.int (i : Nat), sgn (b.getD i 0)])
      (fun pre (ρ : Rho) => ∃ x6 x7 x8, ρ = [.im (wD a), .im (wD b), .im (.list (PR a b i b.length)), .im (.int i), .im (sgn (a.getD i 0)), .ow (.list (PR a b (i + 1) pre.length)), x6, x7, x8])
      [.im (wD a), .im (wD b), .im (.list (PR a b i b.length)), .im (.int i), .im (sgn (a.getD i 0)), .ow (.list (PR a b (i + 1) 0)), y6, y7, y8] ⟨_, _, _, rfl⟩ (by
      rintro pre post ρ k ⟨y6, y7, y8, rfl⟩ hx
      obtain ⟨g1, g2, g3⟩ := range_split hx
      subst g1
      refine ⟨_, .inl (gap_in a b i pre.length hb g2 y6 y7 y8), ?_⟩
      rw [List.length_append]
      exact ⟨_, _, _, rfl⟩)
    subst h2
    rw [List.length_range] at h1
    subst g1
    refine ⟨[.im (wD a), .im (wD b), .im (.list (PR a b (pre.length + 1) b.length)), .im (.int pre.length), .im (sgn (a.getD pre.length 0)), .im (.list (PR a b (pre.length + 1) b.length)), x6, x7, x8], .inl ?_, by rw [List.length_append]; exact ⟨_, _, _, _, _, _, rfl⟩⟩
    rw [PR_i0] at h1
    simp -implicitDefEqProofs [L_gap_of_2, ebs]
    simp only [← List.getD_eq_getElem?_getD]
    rw [h1]
    rfl)
  subst h2
  simp only [← List.getD_eq_getElem?_getD]
  rw [h1]
  simp -implicitDefEqProofs [PR_last, gp]
/-! the law's own gap -/
theorem at_neg {α : Type} {mk : α → D} (xs : List α) (d : α) (h : xs ≠ []) : L2.atI (xs.map mk) (-1) = some (mk (xs.getLastD d)) := by
  have h0 : 0 < xs.length := List.length_pos_iff.mpr h
  have h2 : L2.atI (xs.map mk) (-1) = L2.atI (xs.map mk) ((xs.length - 1 : Nat) : Int) := by
    unfold L2.atI
    rw [List.length_map]
    congr 1
    unfold L2.ixN
    rw [if_neg (by omega), if_pos (by omega), if_pos (by omega)]
    simp
    constructor <;> omega
  rw [h2, at_mk xs d (by omega)]
  congr 2
  rw [List.getLastD_eq_getLast?, List.getLast?_eq_getElem?]
  simp
def RW (a b : W) (k : Nat) : List D := (List.range (k + 1)).map fun t => .list (PR a b t b.length)
theorem RW_last (a b : W) (k : Nat) : L2.atI (RW a b k) (-1) = some (.list (PR a b k b.length)) := by
  unfold RW
  rw [at_neg (mk := fun t => PyData.list (PR a b t b.length)) _ 0 (by simp)]
  simp [List.range_succ]
theorem RW_s (a b : W) (k : Nat) : RW a b k ++ [.list (PR a b (k + 1) b.length)] = RW a b (k + 1) := by
  unfold RW
  rw [List.range_succ (n := k + 1), List.map_append]
  rfl
theorem ix_w (w : W) (k : Nat) (hk : k < w.length) (hw : w.length ≤ 1000) : ixD (wD w) (.int (k : Int)) = some (sgn (w.getD k 0)) := by
  have hl := line_ge
  show (if (wS w).length ≤ sizeLine then (L2.atI (wS w).cps.toList (k : Int)).map fun c => PyData.str ⟨#[c]⟩ else none) = _
  rw [if_pos (by rw [wS_len]; omega)]
  have e : (wS w).cps.toList = w.map lc := by simp [wS]
  rw [e]
  unfold L2.atI
  have e2 : L2.ixN (w.map lc).length (k : Int) = some k := by
    unfold L2.ixN
    rw [if_pos (by omega)]
    simp; omega
  rw [e2]
  simp [hk, sgn]
theorem lgap_in (a b : W) (i k : Nat) (ha : a.length ≤ 1000) (hb : b.length ≤ 1000) (hi : i < a.length) (hk : k < b.length) (s5 : Sl) :
    turnD (sN 5) L__law_gap_1 (.int (k : Nat)) [.im (wD a), .im (wD b), .ow (.list (RW a b i)), .im (.int i), .ow (.list (PR a b (i + 1) k)), s5] =
      some (.nx [.im (wD a), .im (wD b), .ow (.list (RW a b i)), .im (.int i), .ow (.list (PR a b (i + 1) (k + 1))), .im (.int k)]) := by
  have hl := line_ge
  have e0 := RW_last a b i
  have e1 := PR_at a b i (n := b.length) (k := k) (by omega)
  have e2 := PR_at1 a b i (n := b.length) (k := k) (by omega)
  have e3 := PR_at a b (i + 1) (n := k) (k := k) (by omega)
  have e5 : (PR a b (i + 1) k).length < sizeLine := by rw [PR_len]; omega
  have e6 := PR_s a b (i + 1) k
  rw [Dm_ss] at e6
  have i1 := ix_w a i hi ha
  have i2 := ix_w b k hk hb
  by_cases h : a.getD i 0 = b.getD k 0
  · rw [if_pos h] at e6
    rw [h] at i1
    simp only [Int.add_zero] at e6
    clear h
    have e7 : min (min (Dm a b i (k + 1) + 1) (Dm a b (i + 1) k + 1)) (Dm a b i k) = min (min (Dm a b i k) (Dm a b i (k + 1) + 1)) (Dm a b (i + 1) k + 1) := by omega
    generalize b.getD k 0 = c at *
    simp -implicitDefEqProofs [L__law_gap_1, e0, sgn_eq, e1, e2, e3, e5, i1, i2, e7, ← e6]
    omega
  · rw [if_neg h] at e6
    have e7 : min (min (Dm a b i (k + 1) + 1) (Dm a b (i + 1) k + 1)) (Dm a b i k + 1) = min (min (Dm a b i k + 1) (Dm a b i (k + 1) + 1)) (Dm a b (i + 1) k + 1) := by omega
    generalize a.getD i 0 = c at *
    generalize b.getD k 0 = d at *
    simp -implicitDefEqProofs [L__law_gap_1, e0, sgn_eq, e1, e2, e3, e5, i1, i2, h, e7, ← e6]
    omega
theorem e_law_gap (a b : W) (ha : a.length ≤ 1000) (hb : b.length ≤ 1000) : Ph__law_gap [wD a, wD b] = some (.int (gp a b)) := by
  have hl := line_ge
  have eb := lenD_w b hb
  have ea := lenD_w a ha
  have hr := rg_PR a b hb
  have c1 : -4611686018427387904 ≤ (b.length : Int) + 1 ∧ (b.length : Int) + 1 ≤ 16777216 := by omega
  have c2 : ((b.length : Int) + 1).toNat = b.length + 1 := by omega
  have r1 := rg1_n (k := a.length) (by omega)
  have r2 := rg1_n (k := b.length) (by omega)
  simp -implicitDefEqProofs [Ph__law_gap, b__law_gap, eb, c1, c2, hr, ea, r1]
  obtain ⟨ρ', h1, x3, x4, x5, h2⟩ := forL_all (step := turnD (sN 3) L__law_gap_2) (xs := List.range a.length) (mk := fun i => .int (i : Nat))
    (fun pre (ρ : Rho) => ∃ x3 x4 x5, ρ = [.im (wD a), .im (wD b), .ow (.list (RW a b pre.length)), x3, x4, x5])
    [.im (wD a), .im (wD b), .ow (.list [.list (PR a b 0 b.length)]), .un, .un, .un] ⟨_, _, _, rfl⟩ (by
    rintro pre post ρ i ⟨y3, y4, y5, rfl⟩ hx
    obtain ⟨g1, g2, g3⟩ := range_split hx
    obtain ⟨ρ2, h1, x5, h2⟩ := forL_all (step := turnD (sN 5) L__law_gap_1) (xs := List.range b.length) (mk := fun i => .int (i : Nat))
      (fun pre (ρ : Rho) => ∃ x5, ρ = [.im (wD a), .im (wD b), .ow (.list (RW a b i)), .im (.int i), .ow (.list (PR a b (i + 1) pre.length)), x5])
      [.im (wD a), .im (wD b), .ow (.list (RW a b i)), .im (.int i), .ow (.list (PR a b (i + 1) 0)), y5] ⟨_, rfl⟩ (by
      rintro pre post ρ k ⟨y5, rfl⟩ hx
      obtain ⟨g1, g4, g3⟩ := range_split hx
      subst g1
      refine ⟨_, .inl (lgap_in a b i pre.length ha hb g2 g4 y5), ?_⟩
      rw [List.length_append]
      exact ⟨_, rfl⟩)
    subst h2
    rw [List.length_range] at h1
    subst g1
    have e5 : (RW a b pre.length).length < sizeLine := by simp [RW]; omega
    refine ⟨[.im (wD a), .im (wD b), .ow (.list (RW a b (pre.length + 1))), .im (.int pre.length), .im (.list (PR a b (pre.length + 1) b.length)), x5], .inl ?_, by rw [List.length_append]; exact ⟨_, _, _, rfl⟩⟩
    rw [PR_i0] at h1
    simp -implicitDefEqProofs [L__law_gap_2, eb, r2]
    rw [h1]
    have q : ∀ (ds : List D) (d s0 s1 s3 : D) (s5 : Sl), ds.length < sizeLine → bAppMv 2 4 [.im s0, .im s1, .ow (.list ds), .im s3, .ow d, s5] = some (.nx [.im s0, .im s1, .ow (.list (ds ++ [d])), .im s3, .im d, s5]) := fun ds d s0 s1 s3 s5 h => if_pos ⟨by decide, h⟩
    simp -implicitDefEqProofs [q, e5, RW_s])
  subst h2
  rw [h1]
  simp -implicitDefEqProofs [RW_last, PR_last, gp]
end Hd
end

/-! part: K36f -/
section
set_option Elab.async false
set_option linter.all false
set_option maxRecDepth 100000
set_option maxHeartbeats 400000
namespace Hd
open PySem PySem.Spec Q
theorem okW_len {w : W} (h : okW w) : w.length ≤ 1000 := by have := h.2; omega
theorem oD_some (w : W) : oD (some w) = wD w := rfl
theorem oD_none : oD none = .none := rfl
theorem wD_nn (w : W) : notND (wD w) .none = some (.bool true) := rfl
theorem not_none (o : Option W) : notND (oD o) .none = some (.bool o.isSome) := by cases o <;> rfl
theorem is_none (o : Option W) : isND (oD o) .none = some (.bool (!o.isSome)) := by cases o <;> rfl
def flSt (st : W × List Int) (o : Option W) : W × List Int := match o with
  | none => st
  | some v => (v, st.2 ++ [gp st.1 v])
def floorF (w : W) (hs : List (Option W)) : List Int := (hs.foldl flSt (w, [])).2
theorem fl_ok {hs : List (Option W)} (w : W) (hw : okW w) (hh : ∀ v, some v ∈ hs → okW v) (l : List Int) : okW (hs.foldl flSt (w, l)).1 := by
  induction hs generalizing w l with
  | nil => exact hw
  | cons o hs ih =>
    cases o with
    | none => exact ih w hw (fun v hv => hh v (List.mem_cons_of_mem _ hv)) l
    | some v => exact ih v (hh v List.mem_cons_self) (fun v hv => hh v (List.mem_cons_of_mem _ hv)) _
theorem fl_len (hs : List (Option W)) : ∀ (w : W) (l : List Int), (hs.foldl flSt (w, l)).2.length ≤ l.length + hs.length := by
  induction hs with
  | nil => intro w l; exact Nat.le_refl _
  | cons o hs ih =>
    intro w l
    cases o with
    | none => have := ih w l; simp only [List.foldl_cons, flSt, List.length_cons]; omega
    | some v => have := ih v (l ++ [gp w v]); simp only [List.foldl_cons, flSt, List.length_cons]; simp at this; omega
theorem e_floor_of (w : W) (hs : List (Option W)) (hw : okW w) (hh : okH hs) : Ph_floor_of [wD w, .tuple (hs.map oD)] = some (.tuple ((floorF w hs).map .int)) := by
  have hl := line_ge
  obtain ⟨h1, h2⟩ := hh
  simp -implicitDefEqProofs [Ph_floor_of, b_floor_of]
  obtain ⟨ρ', e1, x3, e2⟩ := forL_all (step := turnD (sN 3) L_floor_of_1) (xs := hs) (mk := oD)
    (fun pre (ρ : Rho) => ∃ x3, ρ = [.im (wD (pre.foldl flSt (w, [])).1), .im (.tuple (hs.map oD)), .ow (.list ((pre.foldl flSt (w, [])).2.map .int)), x3])
    [.im (wD w), .im (.tuple (hs.map oD)), .ow (.list []), .un] ⟨_, rfl⟩ (by
    rintro pre post ρ o ⟨y3, rfl⟩ hx
    have k1 := fl_ok (hs := pre) w hw (fun v hv => h2 v (by rw [hx]; simp [hv])) []
    have k2 := fl_len pre w []
    have k3 := split_len hx
    rw [List.foldl_append, List.foldl_cons, List.foldl_nil]
    generalize pre.foldl flSt (w, []) = st at *
    obtain ⟨u, l⟩ := st
    cases o with
    | none => exact ⟨_, .inl (by simp -implicitDefEqProofs [L_floor_of_1, not_none, flSt]), .im (oD none), rfl⟩
    | some v =>
      have k4 := h2 v (split_mem hx)
      have k5 : l.length < sizeLine := by simp at k2; omega
      have k6 := e_gap_of u v (okW_len k1) (okW_len k4)
      exact ⟨_, .inl (by simp -implicitDefEqProofs [L_floor_of_1, not_none, k6, k5, oD_some, wD_nn, flSt]), .im (wD v), rfl⟩)
  rw [e1]
  subst e2
  simp -implicitDefEqProofs [floorF]
theorem getD_ok {r : List W} (hr : ∀ v ∈ r, okW v) {k : Nat} (h : k < r.length) : okW (r.getD k []) := by
  have : r.getD k [] = r[k] := by simp [h]
  rw [this]
  exact hr _ (List.getElem_mem h)
def okS (ws : List W) : Prop := (1 ≤ ws.length ∧ ws.length ≤ 40) ∧ ∀ w ∈ ws, okW w
theorem wget (ws : List W) {p : Nat} (h : p < ws.length) : L2.atI (ws.map wD) (p : Int) = some (wD (ws.getD p [])) := at_mk ws [] h
theorem get_map_range {α : Type} (f : Nat → α) (d : α) {k n : Nat} (h : k < n) : ((List.range n).map f).getD k d = f k := by simp [h]
theorem gets {α β : Type} (f : α → β) (xs : List α) (d : α) (e : β) {k : Nat} (h : k < xs.length) : (xs.map f).getD k e = f (xs.getD k d) := by simp [h]
theorem sorted_w (xs : List W) : sortedD [.list (xs.map wD)] = some (.list ((xs.mergeSort fun a b => !wlt b a).map wD)) := by
  have ok : srtOk (xs.map wD) = true := by
    simp only [srtOk, Bool.and_eq_true, Bool.or_eq_true, List.all_eq_true, List.mem_map, forall_exists_index, and_imp, forall_apply_eq_imp_iff₂, decide_eq_true_eq]
    exact ⟨⟨fun a _ b _ => ordd_w.alike a b, .inr fun a _ => rfl⟩, fun a _ => Nat.zero_le _⟩
  rw [sortedD, items_l, Option.bind_some, if_pos ok, srt_nice ordd_w]
def fdSt (acc : List W) (n : Int) : List W := if mkw n ∈ acc then acc else acc ++ [mkw n]
def fdF (ns : List Int) : List W := ns.foldl fdSt []
def wsF (ns : List Int) : List W := (fdF ns).mergeSort fun a b => !wlt b a
theorem fd_props : ∀ (ns : List Int) (acc : List W), acc.Nodup → (∀ w ∈ acc, okW w) → (ns.foldl fdSt acc).Nodup ∧ (∀ w ∈ ns.foldl fdSt acc, okW w) ∧ (ns.foldl fdSt acc).length ≤ acc.length + ns.length ∧ (acc ≠ [] ∨ ns ≠ [] → ns.foldl fdSt acc ≠ [])
  | [], acc, h1, h2 => ⟨h1, h2, Nat.le_refl _, fun h => h.elim id fun z => absurd rfl z⟩
  | n :: ns, acc, h1, h2 => by
    rw [List.foldl_cons]
    have h3 : (fdSt acc n).Nodup ∧ (∀ w ∈ fdSt acc n, okW w) ∧ (fdSt acc n).length ≤ acc.length + 1 ∧ fdSt acc n ≠ [] := by
      unfold fdSt
      by_cases c : mkw n ∈ acc
      · rw [if_pos c]
        exact ⟨h1, h2, by omega, fun z => by rw [z] at c; cases c⟩
      · rw [if_neg c]
        refine ⟨?_, ?_, by simp, by simp⟩
        · rw [List.nodup_append]
          refine ⟨h1, by simp, ?_⟩
          intro a ha b hb
          rw [List.mem_singleton.mp hb]
          exact fun z => c (by rw [← z]; exact ha)
        · intro w hw
          rcases List.mem_append.mp hw with hw | hw
          · exact h2 w hw
          · rw [List.mem_singleton.mp hw]; exact mkw_ok n
    obtain ⟨a1, a2, a3, a4⟩ := fd_props ns _ h3.1 h3.2.1
    refine ⟨a1, a2, ?_, fun _ => a4 (.inl h3.2.2.2)⟩
    have := h3.2.2.1
    simp only [List.length_cons]
    omega
theorem ws_props (ns : List Int) (hn : 1 ≤ ns.length ∧ ns.length ≤ 7) : okS (wsF ns) ∧ (wsF ns).length ≤ 7 ∧ (wsF ns).Pairwise (fun a b => wlt a b = true) := by
  obtain ⟨a1, a2, a3, a4⟩ := fd_props ns [] List.nodup_nil (fun w hw => nomatch hw)
  have a5 := a4 (.inr fun z => by rw [z] at hn; simp at hn)
  have p : (wsF ns).Perm (fdF ns) := List.mergeSort_perm ..
  have hl := p.length_eq
  have hl2 : 0 < (fdF ns).length := List.length_pos_iff.mpr a5
  have hl3 : (fdF ns).length ≤ ns.length := by have := a3; simp at this; exact this
  refine ⟨⟨by omega, fun w hw => a2 w (p.mem_iff.mp hw)⟩, by omega, ?_⟩
  have hnd : (wsF ns).Nodup := p.nodup_iff.mpr a1
  have hs : (wsF ns).Pairwise (fun a b => (!wlt b a) = true) := by
    apply List.pairwise_mergeSort
    · intro a b c h1 h2
      simp only [Bool.not_eq_true'] at *
      cases h : wlt c a with
      | false => rfl
      | true =>
        by_cases e : c = b
        · subst e; rw [h1] at h; exact nomatch h
        · have q := wlt_tot b c (Ne.symm e)
          rw [h2] at q
          have := wlt_trans b c a q h
          rw [h1] at this; exact nomatch this
    · intro a b
      by_cases e : a = b
      · subst e; simp [wlt_irr]
      · have := wlt_tot a b e
        rw [this]
        cases wlt b a <;> rfl
  refine (hs.and hnd).imp ?_
  rintro a b ⟨h1, h2⟩
  rw [wlt_tot a b h2]
  exact h1
theorem hso_of {ws : List W} (h : ws.Pairwise (fun a b => wlt a b = true)) : ∀ i, i + 1 < ws.length → wlt (ws.getD i []) (ws.getD (i + 1) []) = true := by
  intro i hi
  have := List.pairwise_iff_getElem.mp h i (i + 1) (by omega) hi (by omega)
  have hi2 : i < ws.length := by omega
  simpa [List.getD_eq_getElem?_getD, hi, hi2] using this
theorem e_law_words (ns : List Int) (hn : ns.length ≤ 1000) : Ph__law_words [.list (ns.map .int)] = some (.tuple ((wsF ns).map wD)) := by
  have hl := line_ge
  simp -implicitDefEqProofs [Ph__law_words, b__law_words]
  obtain ⟨ρ', e1, x2, x3, e2⟩ := forL_all (step := turnD (sN 2) L__law_words_1) (xs := ns) (mk := .int)
    (fun pre (ρ : Rho) => ∃ x2 x3, ρ = [.im (.list (ns.map .int)), .ow (.list ((pre.foldl fdSt []).map wD)), x2, x3])
    [.im (.list (ns.map .int)), .ow (.list []), .un, .un] ⟨_, _, rfl⟩ (by
    rintro pre post ρ n ⟨y2, y3, rfl⟩ hx
    have hp := split_len hx
    obtain ⟨a1, a2, a3, a4⟩ := fd_props pre [] List.nodup_nil (fun w hw => nomatch hw)
    rw [List.foldl_append, List.foldl_cons, List.foldl_nil]
    generalize pre.foldl fdSt [] = acc at *
    have hn := nice_w.notIn_l (by decide) (mkw n) acc
    have hb : acc.length < sizeLine := by simp at a3; omega
    have ew := e_word n
    unfold fdSt
    by_cases c : mkw n ∈ acc
    · rw [if_pos c]
      exact ⟨_, .inl (by simp -implicitDefEqProofs [L__law_words_1, ew, hn, c]), .im (.int n), .im (wD (mkw n)), rfl⟩
    · rw [if_neg c]
      exact ⟨_, .inl (by simp -implicitDefEqProofs [L__law_words_1, ew, hn, c, hb]), .im (.int n), .im (wD (mkw n)), rfl⟩)
  rw [e1]
  subst e2
  simp -implicitDefEqProofs [sorted_w, wsF, fdF]
theorem oD_ne (h : Option W) (v : W) : neD (oD h) (wD v) = some (.bool (!decide (h = some v))) := nice_o.ne (by decide) h (some v)
theorem oD_eq (h : Option W) (v : W) : eqD (oD h) (wD v) = some (.bool (decide (h = some v))) := nice_o.eq (by decide) h (some v)

end Hd
end

/-! part: K36g -/
section
set_option Elab.async false
set_option linter.all false
set_option maxRecDepth 100000
set_option maxHeartbeats 400000
namespace Hd
open PySem PySem.Spec Q
theorem flatMap_congr' {α β : Type} {f g : α → List β} : ∀ {l : List α}, (∀ x ∈ l, f x = g x) → l.flatMap f = l.flatMap g
  | [], _ => rfl
  | x :: l, h => by
    rw [List.flatMap_cons, List.flatMap_cons, h x List.mem_cons_self, flatMap_congr' fun y hy => h y (List.mem_cons_of_mem _ hy)]
theorem find_isSome' {α : Type} {p : α → Bool} : ∀ {l : List α}, (l.find? p).isSome = l.any p
  | [] => rfl
  | x :: l => by
    rw [List.find?_cons, List.any_cons]
    cases p x with
    | true => rfl
    | false => exact find_isSome'
/-! ladders: walks -/
section
variable {α : Type} [DecidableEq α] (ws : List α) (adj : α → α → Bool)
def goL (g : α) : Nat → α → Option (List α)
  | 0, v => if v = g then some [v] else none
  | t + 1, v => (ws.filter fun u => adj v u && (goL g t u).isSome).head?.bind fun u => (goL g t u).map (v :: ·)
theorem goL_s (g : α) (t : Nat) (v : α) : (goL ws adj g (t + 1) v).isSome = ws.any fun u => adj v u && (goL ws adj g t u).isSome := by
  rw [goL]
  cases c : ws.filter (fun u => adj v u && (goL ws adj g t u).isSome) with
  | nil =>
    rw [List.head?_nil, Option.bind_none, Option.isSome_none]
    symm
    rw [List.any_eq_false]
    exact List.filter_eq_nil_iff.mp c
  | cons u l =>
    have hu : u ∈ ws.filter (fun u => adj v u && (goL ws adj g t u).isSome) := by rw [c]; exact List.mem_cons_self
    obtain ⟨h1, h2⟩ := List.mem_filter.mp hu
    have h3 : (goL ws adj g t u).isSome = true := by
      simp only [Bool.and_eq_true] at h2
      exact h2.2
    rw [List.head?_cons, Option.bind_some, Option.isSome_map, h3]
    symm
    rw [List.any_eq_true]
    exact ⟨u, h1, h2⟩
/-- all walks of t steps, in sequence -/
def wkL : Nat → α → List (List α)
  | 0, v => [[v]]
  | t + 1, v => (ws.filter (adj v)).flatMap fun u => (wkL t u).map (v :: ·)
def lsL (d : α) (r : List α) : α := r.getLastD d
theorem wk_ne : ∀ (t : Nat) (v : α) (r : List α), r ∈ wkL ws adj t v → r ≠ []
  | 0, v, r, h => by rw [wkL, List.mem_singleton] at h; rw [h]; simp
  | t + 1, v, r, h => by
    rw [wkL] at h
    obtain ⟨u, _, h2⟩ := List.mem_flatMap.mp h
    obtain ⟨q, _, rfl⟩ := List.mem_map.mp h2
    simp
theorem ls_cons {d v : α} {r : List α} (h : r ≠ []) : lsL d (v :: r) = lsL d r := by
  unfold lsL
  cases r with
  | nil => exact absurd rfl h
  | cons a l => rw [List.getLastD_cons, List.getLastD_cons, List.getLastD_cons]
theorem ls_snoc (d : α) (r : List α) (x : α) : lsL d (r ++ [x]) = x := by simp [lsL]
theorem find_mapc {β γ : Type} (f : β → γ) (p : γ → Bool) : ∀ l : List β, (l.map f).find? p = (l.find? (p ∘ f)).map f := fun l => List.find?_map ..
theorem find_congr {β : Type} {p q : β → Bool} : ∀ {l : List β}, (∀ x ∈ l, p x = q x) → l.find? p = l.find? q
  | [], _ => rfl
  | x :: l, h => by
    rw [List.find?_cons, List.find?_cons, h x List.mem_cons_self, find_congr fun y hy => h y (List.mem_cons_of_mem _ hy)]
theorem findSome_filter {α β : Type} (g : α → Option β) (p : α → Bool) (hp : ∀ a, p a = (g a).isSome) : ∀ l : List α, l.findSome? g = (l.filter p).head?.bind g
  | [] => rfl
  | a :: l => by
    rw [List.findSome?_cons, List.filter_cons, hp a, findSome_filter g p hp l]
    cases e : g a with
    | none => rfl
    | some b => simp [e]
theorem wk_find (d g : α) : ∀ (t : Nat) (v : α), (wkL ws adj t v).find? (fun r => decide (lsL d r = g)) = goL ws adj g t v
  | 0, v => by
    rw [wkL, goL]
    by_cases c : v = g
    · subst c; simp [lsL]
    · rw [if_neg c, List.find?_cons]
      have : lsL d [v] = v := rfl
      rw [this, decide_eq_false c]
      rfl
  | t + 1, v => by
    rw [wkL, List.find?_flatMap]
    have e : (fun u => ((wkL ws adj t u).map (v :: ·)).find? (fun r => decide (lsL d r = g))) = fun u => (goL ws adj g t u).map (v :: ·) := by
      funext u
      rw [find_mapc, ← wk_find d g t u]
      congr 1
      refine find_congr fun r hr => ?_
      show decide (lsL d (v :: r) = g) = _
      rw [ls_cons (wk_ne ws adj t u r hr)]
    rw [e, findSome_filter _ (fun u => (goL ws adj g t u).isSome) (fun u => by simp), List.filter_filter, goL]
    have e3 : (ws.filter fun u => (goL ws adj g t u).isSome && adj v u) = ws.filter fun u => adj v u && (goL ws adj g t u).isSome := List.filter_congr fun u _ => Bool.and_comm ..
    rw [e3]
/-- one step more, at the end -/
def nbL (d : α) (r : List α) : List (List α) := (ws.filter (adj (lsL d r))).map fun x => r ++ [x]
theorem wk_snoc (d : α) : ∀ (t : Nat) (v : α), wkL ws adj (t + 1) v = (wkL ws adj t v).flatMap (nbL ws adj d)
  | 0, v => by
    rw [wkL, wkL, List.flatMap_cons, List.flatMap_nil, List.append_nil]
    have : lsL d [v] = v := rfl
    rw [nbL, this]
    induction ws.filter (adj v) with
    | nil => rfl
    | cons x l ih => rw [List.flatMap_cons, ih]; rfl
  | t + 1, v => by
    rw [wkL]
    have e : (fun u => (wkL ws adj (t + 1) u).map (v :: ·)) = fun u => ((wkL ws adj t u).map (v :: ·)).flatMap (nbL ws adj d) := by
      funext u
      rw [wk_snoc d t u, List.map_flatMap, List.flatMap_map]
      apply flatMap_congr'
      intro r hr
      rw [nbL, nbL, ls_cons (wk_ne ws adj t u r hr), List.map_map]
      rfl
    rw [e, ← List.flatMap_assoc]
    rfl
/-! the first of each end -/
def fsN (d : α) : (α → Bool) → List (List α) → List (List α)
  | _, [] => []
  | s, c :: C => if s (lsL d c) = true then fsN d s C else c :: fsN d (fun y => s y || decide (y = lsL d c)) C
theorem fs_app (d : α) : ∀ (X Y : List (List α)) (s : α → Bool), fsN d s (X ++ Y) = fsN d s X ++ fsN d (fun y => s y || X.any fun c => decide (y = lsL d c)) Y
  | [], Y, s => by simp [fsN]
  | c :: X, Y, s => by
    rw [List.cons_append, fsN, fsN]
    by_cases h : s (lsL d c) = true
    · rw [if_pos h, if_pos h, fs_app d X Y s]
      congr 2
      funext y
      rw [List.any_cons]
      by_cases e : y = lsL d c
      · subst e; simp [h]
      · simp [e]
    · rw [if_neg h, if_neg h, List.cons_append, fs_app d X Y]
      congr 3
      funext y
      rw [List.any_cons, Bool.or_assoc]
theorem fs_all (d : α) : ∀ (X : List (List α)) (s : α → Bool), (∀ c ∈ X, s (lsL d c) = true) → fsN d s X = []
  | [], _, _ => rfl
  | c :: X, s, h => by
    rw [fsN, if_pos (h c List.mem_cons_self)]
    exact fs_all d X s fun x hx => h x (List.mem_cons_of_mem _ hx)
theorem fs_find (d : α) (q : α → Bool) : ∀ (C : List (List α)) (s : α → Bool), (∀ y, q y = true → s y = false) → (fsN d s C).find? (fun r => q (lsL d r)) = C.find? fun r => q (lsL d r)
  | [], _, _ => rfl
  | c :: C, s, h => by
    rw [fsN]
    cases hq : q (lsL d c) with
    | true =>
      rw [if_neg (by rw [h _ hq]; simp), List.find?_cons, List.find?_cons, hq]
    | false =>
      by_cases hs : s (lsL d c) = true
      · rw [if_pos hs, fs_find d q C s h, List.find?_cons, hq]
      · rw [if_neg hs, List.find?_cons, List.find?_cons, hq]
        refine fs_find d q C _ fun y hy => ?_
        rw [h y hy, Bool.false_or]
        exact decide_eq_false fun z => by rw [z, hq] at hy; cases hy
theorem nb_keys {d : α} {r c : List α} (h : c ∈ nbL ws adj d r) : lsL d c ∈ ws ∧ adj (lsL d r) (lsL d c) = true := by
  obtain ⟨x, hx, rfl⟩ := List.mem_map.mp h
  rw [ls_snoc]
  exact List.mem_filter.mp hx
theorem fs_step (d : α) : ∀ (C : List (List α)) (s s' : α → Bool), (∀ y, s y = true → ∀ z ∈ ws, adj y z = true → s' z = true) → fsN d s' ((fsN d s C).flatMap (nbL ws adj d)) = fsN d s' (C.flatMap (nbL ws adj d))
  | [], _, _, _ => rfl
  | c :: C, s, s', h => by
    rw [fsN]
    by_cases hs : s (lsL d c) = true
    · rw [if_pos hs, fs_step d C s s' h, List.flatMap_cons, fs_app]
      rw [fs_all d (nbL ws adj d c) s' fun x hx => by
        obtain ⟨a, b⟩ := nb_keys ws adj hx
        exact h _ hs _ a b, List.nil_append]
      congr 1
      funext y
      cases e : (nbL ws adj d c).any fun c => decide (y = lsL d c) with
      | false => simp
      | true =>
        obtain ⟨x, hx, hy⟩ := List.any_eq_true.mp e
        have hy := of_decide_eq_true hy
        obtain ⟨a, b⟩ := nb_keys ws adj hx
        rw [hy, h _ hs _ a b]
        rfl
    · rw [if_neg hs, List.flatMap_cons, List.flatMap_cons, fs_app, fs_app]
      congr 1
      refine fs_step d C _ _ fun y hy z hz ha => ?_
      rw [Bool.or_eq_true] at hy ⊢
      rcases hy with hy | hy
      · exact .inl (h y hy z hz ha)
      · have hy := of_decide_eq_true hy
        right
        refine List.any_eq_true.mpr ⟨c ++ [z], List.mem_map.mpr ⟨z, List.mem_filter.mpr ⟨hz, by rw [← hy]; exact ha⟩, rfl⟩, ?_⟩
        rw [ls_snoc]
        exact decide_eq_true rfl
/-- reached in at most t steps -/
def seL (d v : α) : Nat → α → Bool
  | 0, _ => false
  | t + 1, y => seL d v t y || (wkL ws adj t v).any fun r => decide (y = lsL d r)
theorem se_adj (d v : α) : ∀ (t : Nat) (y : α), seL ws adj d v t y = true → ∀ z ∈ ws, adj y z = true → seL ws adj d v (t + 1) z = true
  | 0, _, h, _, _, _ => by cases h
  | t + 1, y, h, z, hz, ha => by
    rw [seL, Bool.or_eq_true] at h ⊢
    rcases h with h | h
    · exact .inl (se_adj d v t y h z hz ha)
    · obtain ⟨r, hr, e⟩ := List.any_eq_true.mp h
      have e := of_decide_eq_true e
      right
      rw [wk_snoc ws adj d]
      refine List.any_eq_true.mpr ⟨r ++ [z], List.mem_flatMap.mpr ⟨r, hr, List.mem_map.mpr ⟨z, List.mem_filter.mpr ⟨hz, by rw [← e]; exact ha⟩, rfl⟩⟩, ?_⟩
      rw [ls_snoc]
      exact decide_eq_true rfl
def rwL (d v : α) (t : Nat) : List (List α) := fsN d (seL ws adj d v t) (wkL ws adj t v)
theorem rw_s (d v : α) (t : Nat) : rwL ws adj d v (t + 1) = fsN d (seL ws adj d v (t + 1)) ((rwL ws adj d v t).flatMap (nbL ws adj d)) := by
  unfold rwL
  rw [fs_step ws adj d _ _ _ (se_adj ws adj d v t), ← wk_snoc]
theorem rw_find (d v g : α) (t : Nat) (h : seL ws adj d v t g = false) : (rwL ws adj d v t).find? (fun r => decide (lsL d r = g)) = goL ws adj g t v := by
  rw [rwL, fs_find d (fun y => decide (y = g)) _ _ (fun y hy => by rw [of_decide_eq_true hy]; exact h), wk_find]
theorem se_go (d v g : α) : ∀ t, seL ws adj d v t g = true ↔ ∃ k, k < t ∧ (goL ws adj g k v).isSome = true
  | 0 => by simp [seL]
  | t + 1 => by
    rw [seL, Bool.or_eq_true, se_go d v g t]
    have e : ((wkL ws adj t v).any fun r => decide (g = lsL d r)) = (goL ws adj g t v).isSome := by
      rw [← wk_find ws adj d g t v, find_isSome']
      congr 1
      funext r
      exact decide_eq_decide.mpr eq_comm
    rw [e]
    constructor
    · rintro (⟨k, h1, h2⟩ | h)
      · exact ⟨k, by omega, h2⟩
      · exact ⟨t, by omega, h⟩
    · rintro ⟨k, h1, h2⟩
      by_cases c : k < t
      · exact .inl ⟨k, c, h2⟩
      · have : k = t := by omega
        subst this
        exact .inr h2
/-! the number of steps, by a queue -/
variable (g : α)
def bfS (x : α) (d : Nat) (es : List (α × Nat)) (o : α) : List (α × Nat) := if o ∉ es.map (·.1) ∧ adj x o = true then es ++ [(o, d + 1)] else es
def nwE (x : α) (d : Nat) (es : List (α × Nat)) : List (α × Nat) := (ws.filter fun o => decide (o ∉ es.map (·.1)) && adj x o).map fun o => (o, d + 1)
theorem bf_fold (x : α) (d : Nat) (es : List (α × Nat)) : ∀ (l pre : List α), (pre ++ l).Nodup → (l.foldl (bfS adj x d) (es ++ nwE pre adj x d es)) = es ++ nwE (pre ++ l) adj x d es
  | [], pre, _ => by rw [List.append_nil]; rfl
  | o :: l, pre, h => by
    have h2 : (pre ++ [o] ++ l).Nodup := by simpa using h
    rw [List.foldl_cons]
    have e : bfS adj x d (es ++ nwE pre adj x d es) o = es ++ nwE (pre ++ [o]) adj x d es := by
      have ho : o ∉ pre := by
        intro hm
        have := (List.nodup_append.mp h).2.2 o hm o List.mem_cons_self
        exact this rfl
      have hn : o ∉ (nwE pre adj x d es).map (·.1) := by
        intro hm
        obtain ⟨p, hp, rfl⟩ := List.mem_map.mp hm
        obtain ⟨q, hq, rfl⟩ := List.mem_map.mp hp
        exact ho (List.mem_filter.mp hq).1
      have e2 : nwE (pre ++ [o]) adj x d es = nwE pre adj x d es ++ (if o ∉ es.map (·.1) ∧ adj x o = true then [(o, d + 1)] else []) := by
        unfold nwE
        rw [List.filter_append, List.map_append]
        congr 1
        by_cases c1 : o ∈ es.map (·.1)
        · have : ¬ (o ∉ es.map (·.1) ∧ adj x o = true) := fun z => z.1 c1
          rw [if_neg this, List.filter_cons, if_neg (by simp only [decide_not, Bool.and_eq_true, Bool.not_eq_true', decide_eq_false_iff_not]; exact this)]
          rfl
        · by_cases c2 : adj x o = true
          · rw [if_pos ⟨c1, c2⟩, List.filter_cons, if_pos (by simp only [decide_not, Bool.and_eq_true, Bool.not_eq_true', decide_eq_false_iff_not]; exact ⟨c1, c2⟩)]
            rfl
          · rw [if_neg fun z => c2 z.2, List.filter_cons, if_neg (by simp only [decide_not, Bool.and_eq_true, Bool.not_eq_true', decide_eq_false_iff_not]; exact fun z => c2 z.2)]
            rfl
      rw [e2]
      unfold bfS
      have e3 : o ∉ (es ++ nwE pre adj x d es).map (·.1) ↔ o ∉ es.map (·.1) := by
        rw [List.map_append, List.mem_append]
        constructor
        · exact fun z w => z (.inl w)
        · exact fun z w => w.elim z hn
      by_cases c : o ∉ es.map (·.1) ∧ adj x o = true
      · rw [if_pos c, if_pos ⟨e3.mpr c.1, c.2⟩, List.append_assoc]
      · rw [if_neg c, if_neg fun z => c ⟨e3.mp z.1, z.2⟩, List.append_nil]
    rw [e, bf_fold x d es l (pre ++ [o]) h2]
    simp
theorem bf_all (x : α) (d : Nat) (es : List (α × Nat)) (h : ws.Nodup) : ws.foldl (bfS adj x d) es = es ++ nwE ws adj x d es := by
  have := bf_fold adj x d es ws [] (by simpa using h)
  simpa [nwE] using this
def bfN : Nat → List (α × Nat)
  | 0 => [(g, 0)]
  | p + 1 => match (bfN p)[p]? with
    | none => bfN p
    | some (x, d) => bfN p ++ nwE ws adj x d (bfN p)
structure BfI (p : Nat) (es : List (α × Nat)) : Prop where
  nd : (es.map (·.1)).Nodup
  mws : ∀ e ∈ es, e.1 ∈ ws
  mono : es.Pairwise fun a b => a.2 ≤ b.2
  go : ∀ e ∈ es, (goL ws adj g e.2 e.1).isSome = true
  cl : ∀ (i : Nat) (e : α × Nat), i < p → es[i]? = some e → ∀ z ∈ ws, adj e.1 z = true → ∃ d, (z, d) ∈ es ∧ d ≤ e.2 + 1
  top : ∀ e : α × Nat, es[p]? = some e → ∀ f ∈ es, f.2 ≤ e.2 + 1
  g0 : (g, 0) ∈ es
  ix : ∀ (i : Nat) (e : α × Nat), es[i]? = some e → e.2 ≤ i
  k0 : es ≠ []
theorem bf_inv (hw : ws.Nodup) (hg : g ∈ ws) (sy : ∀ a b, adj a b = adj b a) : ∀ p, BfI ws adj g p (bfN ws adj g p)
  | 0 => by
    refine ⟨by simp [bfN], fun e he => ?_, by simp [bfN], fun e he => ?_, fun i e hi => absurd hi (by omega), fun e he f hf => ?_, by simp [bfN], fun i e he => ?_, by simp [bfN]⟩
    · rw [bfN, List.mem_singleton] at he; rw [he]; exact hg
    · rw [bfN, List.mem_singleton] at he; rw [he]; simp [goL]
    · rw [bfN, List.mem_singleton] at hf; rw [hf]; exact Nat.zero_le _
    · have := List.mem_of_getElem? he
      rw [bfN, List.mem_singleton] at this; rw [this]; exact Nat.zero_le _
  | p + 1 => by
    have I := bf_inv hw hg sy p
    rw [bfN]
    generalize bfN ws adj g p = es at *
    cases hx : es[p]? with
    | none =>
      have hl := List.getElem?_eq_none_iff.mp hx
      refine ⟨I.nd, I.mws, I.mono, I.go, fun i e hi he => ?_, fun e he => ?_, I.g0, I.ix, I.k0⟩
      · have : i < es.length := (List.getElem?_eq_some_iff.mp he).1
        exact I.cl i e (by omega) he
      · have : p + 1 < es.length := (List.getElem?_eq_some_iff.mp he).1
        omega
    | some xd =>
      obtain ⟨x, d⟩ := xd
      have hp : p < es.length := (List.getElem?_eq_some_iff.mp hx).1
      have hxm : (x, d) ∈ es := List.mem_of_getElem? hx
      have hnw : ∀ f ∈ nwE ws adj x d es, f.1 ∈ ws ∧ f.1 ∉ es.map (·.1) ∧ adj x f.1 = true ∧ f.2 = d + 1 := fun f hf => by
        obtain ⟨o, ho, rfl⟩ := List.mem_map.mp hf
        obtain ⟨h1, h2⟩ := List.mem_filter.mp ho
        rw [Bool.and_eq_true] at h2
        exact ⟨h1, of_decide_eq_true h2.1, h2.2, rfl⟩
      have htop := I.top _ hx
      show BfI ws adj g (p + 1) (es ++ nwE ws adj x d es)
      have hmono : (es ++ nwE ws adj x d es).Pairwise fun a b => a.2 ≤ b.2 := by
        rw [List.pairwise_append]
        refine ⟨I.mono, ?_, fun a ha b hb => by rw [(hnw b hb).2.2.2]; exact htop a ha⟩
        rw [List.pairwise_iff_forall_sublist]
        intro a b hab
        have ha : a ∈ nwE ws adj x d es := hab.subset List.mem_cons_self
        have hb : b ∈ nwE ws adj x d es := hab.subset (List.mem_cons_of_mem _ List.mem_cons_self)
        rw [(hnw a ha).2.2.2, (hnw b hb).2.2.2]
        exact Nat.le_refl _
      refine ⟨?_, fun e he => ?_, hmono, fun e he => ?_, fun i e hi he z hz ha => ?_, fun e he f hf => ?_, List.mem_append_left _ I.g0, fun i e he => ?_, by simp [I.k0]⟩
      · rw [List.map_append, List.nodup_append]
        refine ⟨I.nd, ?_, ?_⟩
        · unfold nwE
          rw [List.map_map]
          have : (((·.1) : α × Nat → α) ∘ fun o => (o, d + 1)) = id := rfl
          rw [this, List.map_id]
          exact hw.sublist List.filter_sublist
        · intro a ha b hb hab
          obtain ⟨f, hf, rfl⟩ := List.mem_map.mp hb
          exact (hnw f hf).2.1 (by rw [← hab]; exact ha)
      · rcases List.mem_append.mp he with he | he
        · exact I.mws e he
        · exact (hnw e he).1
      · rcases List.mem_append.mp he with he | he
        · exact I.go e he
        · obtain ⟨h1, h2, h3, h4⟩ := hnw e he
          rw [h4, goL_s, List.any_eq_true]
          exact ⟨x, I.mws _ hxm, by rw [Bool.and_eq_true, sy]; exact ⟨h3, I.go _ hxm⟩⟩
      · by_cases c : i < p
        · rw [List.getElem?_append_left (by omega)] at he
          obtain ⟨d', h1, h2⟩ := I.cl i e c he z hz ha
          exact ⟨d', List.mem_append_left _ h1, h2⟩
        · have : i = p := by omega
          subst this
          rw [List.getElem?_append_left hp, hx] at he
          cases he
          by_cases hm : z ∈ es.map (·.1)
          · obtain ⟨f, hf, rfl⟩ := List.mem_map.mp hm
            exact ⟨f.2, List.mem_append_left _ hf, htop f hf⟩
          · exact ⟨d + 1, List.mem_append_right _ (List.mem_map.mpr ⟨z, List.mem_filter.mpr ⟨hz, by rw [Bool.and_eq_true]; exact ⟨decide_eq_true hm, ha⟩⟩, rfl⟩), Nat.le_refl _⟩
      · have hd : d ≤ e.2 := by
          obtain ⟨hl, hee⟩ := List.getElem?_eq_some_iff.mp he
          have := List.pairwise_iff_getElem.mp hmono p (p + 1) (by omega) hl (by omega)
          rw [hee] at this
          rw [List.getElem_append_left hp] at this
          have e1 : es[p] = (x, d) := (List.getElem?_eq_some_iff.mp hx).2
          rw [e1] at this
          exact this
        rcases List.mem_append.mp hf with hf | hf
        · have := htop f hf
          dsimp only at this
          omega
        · rw [(hnw f hf).2.2.2]; omega
      · by_cases c : i < es.length
        · rw [List.getElem?_append_left c] at he
          exact I.ix i e he
        · rw [List.getElem?_append_right (by omega)] at he
          have h1 := (hnw e (List.mem_of_getElem? he)).2.2.2
          have h2 := I.ix p _ hx
          dsimp only at h2
          omega
theorem nd_le : ∀ (l m : List α), l.Nodup → (∀ x ∈ l, x ∈ m) → l.length ≤ m.length
  | [], m, _, _ => Nat.zero_le _
  | x :: l, m, h, hm => by
    have hx := hm x List.mem_cons_self
    have h2 := List.nodup_cons.mp h
    have := nd_le l (m.erase x) h2.2 fun y hy => (List.mem_erase_of_ne fun z => h2.1 (by rw [← z]; exact hy)).mpr (hm y (List.mem_cons_of_mem _ hy))
    rw [List.length_erase_of_mem hx] at this
    have := List.length_pos_of_mem hx
    simp only [List.length_cons]
    omega
theorem nd_inj {l : List α} (h : l.Nodup) {i j : Nat} (hi : i < l.length) (hj : j < l.length) (e : l[i] = l[j]) : i = j := by
  rcases Nat.lt_trichotomy i j with c | c | c
  · exact absurd e (List.pairwise_iff_getElem.mp h i j hi hj c)
  · exact c
  · exact absurd e.symm (List.pairwise_iff_getElem.mp h j i hj hi c)
theorem bf_len (hw : ws.Nodup) (hg : g ∈ ws) (sy : ∀ a b, adj a b = adj b a) (p : Nat) : (bfN ws adj g p).length ≤ ws.length := by
  have I := bf_inv ws adj g hw hg sy p
  have := nd_le _ ws I.nd fun x hx => by
    obtain ⟨e, he, rfl⟩ := List.mem_map.mp hx
    exact I.mws e he
  simpa using this
theorem bf_spec (hw : ws.Nodup) (hg : g ∈ ws) (sy : ∀ a b, adj a b = adj b a) (p : Nat) (hp : (bfN ws adj g p).length ≤ p) :
    (∀ v d, (v, d) ∈ bfN ws adj g p → v ∈ ws ∧ (goL ws adj g d v).isSome = true ∧ ∀ k, (goL ws adj g k v).isSome = true → d ≤ k) ∧ ∀ v ∈ ws, ∀ k, (goL ws adj g k v).isSome = true → ∃ d, (v, d) ∈ bfN ws adj g p := by
  have I := bf_inv ws adj g hw hg sy p
  generalize bfN ws adj g p = es at *
  have key : ∀ (k : Nat) (v : α), v ∈ ws → (goL ws adj g k v).isSome = true → ∃ d, (v, d) ∈ es ∧ d ≤ k := by
    intro k
    induction k with
    | zero =>
      intro v hv h
      rw [goL] at h
      by_cases c : v = g
      · subst c; exact ⟨0, I.g0, Nat.le_refl _⟩
      · rw [if_neg c] at h; cases h
    | succ k ih =>
      intro v hv h
      rw [goL_s, List.any_eq_true] at h
      obtain ⟨u, hu, h2⟩ := h
      rw [Bool.and_eq_true] at h2
      obtain ⟨d, h3, h4⟩ := ih u hu h2.2
      obtain ⟨i, hi⟩ := List.mem_iff_getElem?.mp h3
      have hil : i < es.length := (List.getElem?_eq_some_iff.mp hi).1
      obtain ⟨d', h5, h6⟩ := I.cl i _ (by omega) hi v hv (by rw [sy]; exact h2.1)
      exact ⟨d', h5, by dsimp only at h6; omega⟩
  refine ⟨fun v d h => ⟨I.mws _ h, I.go _ h, fun k hk => ?_⟩, fun v hv k hk => ?_⟩
  · obtain ⟨d', h1, h2⟩ := key k v (I.mws _ h) hk
    have : d' = d := by
      obtain ⟨i, hi⟩ := List.mem_iff_getElem?.mp h
      obtain ⟨j, hj⟩ := List.mem_iff_getElem?.mp h1
      have e1 : (es.map (·.1))[i]? = some v := by rw [List.getElem?_map, hi]; rfl
      have e2 : (es.map (·.1))[j]? = some v := by rw [List.getElem?_map, hj]; rfl
      have hij : i = j := by
        have hi2 : i < (es.map (·.1)).length := (List.getElem?_eq_some_iff.mp e1).1
        have hj2 : j < (es.map (·.1)).length := (List.getElem?_eq_some_iff.mp e2).1
        exact nd_inj I.nd hi2 hj2 ((List.getElem?_eq_some_iff.mp e1).2.trans (List.getElem?_eq_some_iff.mp e2).2.symm)
      subst hij
      rw [hi] at hj
      cases hj
      rfl
    omega
  · obtain ⟨d, h1, _⟩ := key k v hv hk
    exact ⟨d, h1⟩
/-! the first of the shortest -/
def fsL (n : Nat) (v : α) : Option (List α) := (List.range n).findSome? fun t => goL ws adj g t v
theorem range_find {β : Type} (f : Nat → Option β) : ∀ (n k : Nat), k < n → (∀ j, j < k → f j = none) → (f k).isSome = true → (List.range n).findSome? f = f k
  | 0, k, h, _, _ => by omega
  | n + 1, k, h, h1, h2 => by
    rw [List.range_succ, List.findSome?_append]
    by_cases c : k < n
    · rw [range_find f n k c h1 h2]
      cases e : f k with
      | none => rw [e] at h2; cases h2
      | some b => rfl
    · have : k = n := by omega
      subst this
      have e : (List.range k).findSome? f = none := by
        rw [List.findSome?_eq_none_iff]
        intro j hj
        exact h1 j (List.mem_range.mp hj)
      rw [e]
      simp
theorem range_find_none {β : Type} (f : Nat → Option β) (n : Nat) (h : ∀ j, f j = none) : (List.range n).findSome? f = none := by
  rw [List.findSome?_eq_none_iff]
  intro j _
  exact h j
theorem bf_end (hw : ws.Nodup) (hg : g ∈ ws) (sy : ∀ a b, adj a b = adj b a) {p : Nat} (hp : (bfN ws adj g p).length ≤ p) (v : α) (hv : v ∈ ws) :
    (∀ d, (v, d) ∈ bfN ws adj g p → fsL ws adj g ws.length v = goL ws adj g d v) ∧ ((∀ d, (v, d) ∉ bfN ws adj g p) → fsL ws adj g ws.length v = none) := by
  obtain ⟨s1, s2⟩ := bf_spec ws adj g hw hg sy p hp
  have I := bf_inv ws adj g hw hg sy p
  have hl := bf_len ws adj g hw hg sy p
  constructor
  · intro d h
    obtain ⟨_, h2, h3⟩ := s1 v d h
    refine range_find _ _ _ ?_ (fun j hj => ?_) h2
    · obtain ⟨i, hi⟩ := List.mem_iff_getElem?.mp h
      have h4 := I.ix i _ hi
      have h5 : i < (bfN ws adj g p).length := (List.getElem?_eq_some_iff.mp hi).1
      dsimp only at h4
      omega
    · cases e : goL ws adj g j v with
      | none => rfl
      | some r =>
        have := h3 j (by rw [e]; rfl)
        omega
  · intro h
    refine range_find_none _ _ fun j => ?_
    cases e : goL ws adj g j v with
    | none => rfl
    | some r =>
      obtain ⟨d, hd⟩ := s2 v hv j (by rw [e]; rfl)
      exact absurd hd (h d)
/-- the next one of the greedy row -/
theorem nx_go (hw : ws.Nodup) (hg : g ∈ ws) (sy : ∀ a b, adj a b = adj b a) {p : Nat} (hp : (bfN ws adj g p).length ≤ p) {v : α} {k : Nat} (h : (v, k + 1) ∈ bfN ws adj g p) :
    ∃ u l, (ws.filter fun u => adj v u && decide ((u, k) ∈ bfN ws adj g p)) = u :: l ∧ (u, k) ∈ bfN ws adj g p ∧ goL ws adj g (k + 1) v = (goL ws adj g k u).map (v :: ·) := by
  obtain ⟨s1, s2⟩ := bf_spec ws adj g hw hg sy p hp
  obtain ⟨h1, h2, h3⟩ := s1 v _ h
  have e : (ws.filter fun u => adj v u && decide ((u, k) ∈ bfN ws adj g p)) = ws.filter fun u => adj v u && (goL ws adj g k u).isSome := by
    refine List.filter_congr fun u hu => ?_
    cases ha : adj v u with
    | false => rfl
    | true =>
      rw [Bool.true_and, Bool.true_and]
      by_cases c : (u, k) ∈ bfN ws adj g p
      · rw [decide_eq_true c, (s1 u k c).2.1]
      · rw [decide_eq_false c]
        cases ee : goL ws adj g k u with
        | none => rfl
        | some r =>
          obtain ⟨d, hd⟩ := s2 u hu k (by rw [ee]; rfl)
          obtain ⟨_, q2, q3⟩ := s1 u d hd
          have hdk := q3 k (by rw [ee]; rfl)
          have : d ≠ k := fun z => c (by rw [← z]; exact hd)
          have := h3 (d + 1) (by rw [goL_s, List.any_eq_true]; exact ⟨u, hu, by rw [ha, q2]; rfl⟩)
          omega
  have hgo := h2
  rw [goL_s, List.any_eq_true] at hgo
  obtain ⟨u0, hu0, ha0⟩ := hgo
  rw [e]
  cases c : ws.filter fun u => adj v u && (goL ws adj g k u).isSome with
  | nil => exact absurd ha0 (List.filter_eq_nil_iff.mp c u0 hu0)
  | cons u l =>
    refine ⟨u, l, rfl, ?_, by rw [goL, c]; rfl⟩
    have hu : u ∈ ws.filter fun u => adj v u && decide ((u, k) ∈ bfN ws adj g p) := by rw [e, c]; exact List.mem_cons_self
    have := (List.mem_filter.mp hu).2
    rw [Bool.and_eq_true] at this
    exact of_decide_eq_true this.2
theorem go_0 (hw : ws.Nodup) (hg : g ∈ ws) (sy : ∀ a b, adj a b = adj b a) {p : Nat} (hp : (bfN ws adj g p).length ≤ p) {v : α} {k : Nat} (h : (v, k) ∈ bfN ws adj g p) : v = g ↔ k = 0 := by
  obtain ⟨s1, s2⟩ := bf_spec ws adj g hw hg sy p hp
  obtain ⟨h1, h2, h3⟩ := s1 v _ h
  constructor
  · intro e
    have := h3 0 (by rw [goL, if_pos e]; rfl)
    omega
  · intro e
    subst e
    rw [goL] at h2
    by_cases c : v = g
    · exact c
    · rw [if_neg c] at h2; cases h2
end
end Hd
end

/-! part: K36h -/
section
set_option Elab.async false
set_option linter.all false
set_option maxRecDepth 100000
set_option maxHeartbeats 400000
namespace Hd
open PySem PySem.Spec Q
def adW (a b : W) : Bool := decide (gp a b = 1)
theorem adW_symm (a b : W) : adW a b = adW b a := by unfold adW; rw [gp_symm]
def esD (es : List (W × Nat)) : List (D × D) := es.map fun e => (wD e.1, PyData.int (e.2 : Nat))
theorem key_w (w : W) : keyO (wD w) = some (.inr (wS w)) := rfl
theorem key_dw (a w : W) : decide (keyO (wD a) = some (.inr (wS w))) = decide (a = w) := by
  rw [key_w]
  exact decide_eq_decide.mpr ⟨fun h => by simpa [wS_inj] using h, fun h => by rw [h]⟩
theorem val_es (w : W) : ∀ es : List (W × Nat), valE (esD es) (.inr (wS w)) = (es.find? fun e => decide (e.1 = w)).map fun e => PyData.int (e.2 : Nat)
  | [] => rfl
  | e :: es => by
    unfold valE esD
    rw [List.map_cons, List.find?_cons, List.find?_cons]
    dsimp only
    rw [key_dw]
    cases decide (e.1 = w) with
    | true => rfl
    | false => exact val_es w es
theorem find_iso (w : W) : ∀ es : List (W × Nat), (es.find? fun e => decide (e.1 = w)).isSome = decide (w ∈ es.map (·.1))
  | [] => rfl
  | e :: es => by
    rw [List.find?_cons]
    by_cases c : e.1 = w
    · rw [decide_eq_true c]; simp [c]
    · have : ¬ w = e.1 := fun z => c z.symm
      rw [decide_eq_false c, find_iso w es]
      simp [this]
theorem find_mem {w : W} {d : Nat} : ∀ {es : List (W × Nat)}, (es.map (·.1)).Nodup → (w, d) ∈ es → (es.find? fun e => decide (e.1 = w)) = some (w, d)
  | e :: es, hn, h => by
    rw [List.map_cons, List.nodup_cons] at hn
    rw [List.find?_cons]
    rcases List.mem_cons.mp h with h | h
    · subst h; simp
    · have : ¬ e.1 = w := fun z => hn.1 (by rw [z]; exact List.mem_map.mpr ⟨_, h, rfl⟩)
      rw [decide_eq_false this]
      exact find_mem hn.2 h
theorem put_es (es : List (W × Nat)) (o : W) (d : Nat) (h : o ∉ es.map (·.1)) : putE (esD es) (.inr (wS o)) (.int (d : Nat)) = esD (es ++ [(o, d)]) := by
  unfold putE
  have e : ((esD es).any fun e => decide (keyO e.1 = some (Sum.inr (wS o)))) = false := by
    rw [List.any_eq_false]
    intro x hx
    obtain ⟨y, hy, rfl⟩ := List.mem_map.mp hx
    dsimp only
    rw [key_dw]
    have : ¬ y.1 = o := fun z => h (by rw [← z]; exact List.mem_map.mpr ⟨y, hy, rfl⟩)
    simp [this]
  rw [if_neg (by rw [e]; simp)]
  unfold esD
  rw [List.map_append]
  rfl
theorem pop0 {ρ : Rho} {j : Nat} {f : Rho → Option D} {d : D} {ds : List D} (h1 : ρ[j]? = some (.ow (.list (d :: ds)))) (h2 : f ρ = some (.int 0)) : xPopAt j f ρ = some (d, ρ.set j (.ow (.list ds))) := by
  unfold xPopAt
  rw [h1, h2]
  simp [seqIndex?]
theorem st_in (ws : List W) (g x : W) (d : Nat) (es es0 : List (W × Nat)) (o : W) (hw : okW x) (ho : okW o) (hx : (es0.find? fun e => decide (e.1 = x)) = some (x, d)) (he : ∃ n, es = es0 ++ n) (wt : List W) (hl : es.length ≤ 1000) (hl2 : wt.length ≤ 1000) (y5 : Sl) :
    turnD (sN 5) L_steps_to_1 (wD o) [.im (.tuple (ws.map wD)), .im (wD g), .ow (.dict (esD es)), .ow (.list (wt.map wD)), .im (wD x), y5] =
      some (.nx [.im (.tuple (ws.map wD)), .im (wD g), .ow (.dict (esD (bfS adW x d es o))), .ow (.list ((if o ∉ es.map (·.1) ∧ adW x o = true then wt ++ [o] else wt).map wD)), .im (wD x), .im (wD o)]) := by
  have hlen := line_ge
  have e1 : dinD not (wD o) (.dict (esD es)) = some (.bool (!decide (o ∈ es.map (·.1)))) := by
    show ((keyO (wD o)).map fun k => PyData.bool (!(valE (esD es) k).isSome)) = _
    rw [key_w, Option.map_some, val_es, Option.isSome_map, find_iso]
  have e2 := e_gap_of x o (okW_len hw) (okW_len ho)
  have e3 : dgetD (.dict (esD es)) (wD x) = some (.int (d : Nat)) := by
    show ((keyO (wD x)).bind fun k => valE (esD es) k) = _
    obtain ⟨n, rfl⟩ := he
    rw [key_w, Option.bind_some, val_es, List.find?_append, hx]
    rfl
  have e4 := put_es es o (d + 1)
  have hel : (esD es).length < sizeLine := by simp [esD]; omega
  have hwl : wt.length < sizeLine := by omega
  unfold bfS
  by_cases c1 : o ∈ es.map (·.1)
  · have c : ¬ (o ∉ es.map (·.1) ∧ adW x o = true) := fun z => z.1 c1
    rw [if_neg c, if_neg c]
    rw [decide_eq_true c1] at e1
    simp -implicitDefEqProofs [L_steps_to_1, e1]
  · rw [decide_eq_false c1] at e1
    have e4 := e4 c1
    have hd : ((d : Int) + 1) = ((d + 1 : Nat) : Int) := by omega
    by_cases c2 : gp x o = 1
    · have c : o ∉ es.map (·.1) ∧ adW x o = true := ⟨c1, decide_eq_true c2⟩
      rw [if_pos c, if_pos c]
      rw [← hd] at e4
      generalize esD es = E at *
      simp -implicitDefEqProofs [L_steps_to_1, e1, e2, c2, e3, key_w, hel, e4, hwl]
    · have c : ¬ (o ∉ es.map (·.1) ∧ adW x o = true) := fun z => c2 (of_decide_eq_true z.2)
      rw [if_neg c, if_neg c]
      simp -implicitDefEqProofs [L_steps_to_1, e1, e2, c2]
end Hd
end

/-! part: K36i -/
section
set_option Elab.async false
set_option linter.all false
set_option maxRecDepth 100000
set_option maxHeartbeats 400000
namespace Hd
open PySem PySem.Spec Q
def qD (es : List (W × Nat)) (p : Nat) : D := .list (((es.drop p).map (·.1)).map wD)
theorem bf_grow (x : W) (d : Nat) : ∀ (l : List W) (es : List (W × Nat)), ∃ n, l.foldl (bfS adW x d) es = es ++ n ∧ n.length ≤ l.length
  | [], es => ⟨[], by simp, Nat.le_refl _⟩
  | o :: l, es => by
    rw [List.foldl_cons]
    obtain ⟨n, h1, h2⟩ := bf_grow x d l (bfS adW x d es o)
    rw [h1]
    unfold bfS
    split
    · exact ⟨(o, d + 1) :: n, by simp, by simp; omega⟩
    · exact ⟨n, rfl, by simp; omega⟩
theorem st_turn (ws : List W) (g : W) (hws : okS ws) (hn : ws.Nodup) (es : List (W × Nat)) (p : Nat) (x : W) (d : Nat) (hx : es[p]? = some (x, d)) (hnd : (es.map (·.1)).Nodup) (hm : ∀ e ∈ es, e.1 ∈ ws) (hl : es.length ≤ 500) (y4 y5 : Sl) :
    ∃ z4 z5, W_steps_to_1 [.im (.tuple (ws.map wD)), .im (wD g), .ow (.dict (esD es)), .ow (qD es p), y4, y5] =
      some (.nx [.im (.tuple (ws.map wD)), .im (wD g), .ow (.dict (esD (es ++ nwE ws adW x d es))), .ow (qD (es ++ nwE ws adW x d es) (p + 1)), z4, z5]) := by
  have hp : p < es.length := (List.getElem?_eq_some_iff.mp hx).1
  have hxm : (x, d) ∈ es := List.mem_of_getElem? hx
  have hw : okW x := hws.2 _ (hm _ hxm)
  have hq : qD es p = .list (wD x :: ((es.drop (p + 1)).map (·.1)).map wD) := by
    unfold qD
    have e : es.drop p = es[p] :: es.drop (p + 1) := List.drop_eq_getElem_cons hp
    have e1 : es[p] = (x, d) := (List.getElem?_eq_some_iff.mp hx).2
    rw [e, e1]
    rfl
  have fx := find_mem hnd hxm
  have hpop : xPopAt 3 (cD (.int 0)) [.im (.tuple (ws.map wD)), .im (wD g), .ow (.dict (esD es)), .ow (qD es p), y4, y5] = some (wD x, [.im (.tuple (ws.map wD)), .im (wD g), .ow (.dict (esD es)), .ow (qD es (p + 1)), y4, y5]) := by
    rw [hq]
    exact pop0 rfl rfl
  obtain ⟨ρ', q1, y5', q2⟩ := forL_all (step := turnD (sN 5) L_steps_to_1) (xs := ws) (mk := wD)
    (fun pre (ρ : Rho) => ∃ y5, ρ = [.im (.tuple (ws.map wD)), .im (wD g), .ow (.dict (esD (pre.foldl (bfS adW x d) es))), .ow (qD (pre.foldl (bfS adW x d) es) (p + 1)), .im (wD x), y5])
    [.im (.tuple (ws.map wD)), .im (wD g), .ow (.dict (esD es)), .ow (qD es (p + 1)), .im (wD x), y5] ⟨_, rfl⟩ (by
    rintro pre post ρ o ⟨z5, rfl⟩ hxx
    have hpl := split_len hxx
    have hww := hws.1.2
    obtain ⟨n, h1, h2⟩ := bf_grow x d pre es
    have ho := hws.2 o (split_mem hxx)
    rw [List.foldl_append, List.foldl_cons, List.foldl_nil]
    generalize pre.foldl (bfS adW x d) es = ek at *
    have hek : ek.length ≤ 1000 := by rw [h1, List.length_append]; omega
    have st := st_in ws g x d ek es o hw ho fx ⟨n, h1⟩ ((ek.drop (p + 1)).map (·.1)) hek (by simp; omega) z5
    refine ⟨_, .inl st, .im (wD o), ?_⟩
    unfold bfS
    have hpe : p + 1 ≤ ek.length := by rw [h1, List.length_append]; omega
    by_cases c : o ∉ ek.map (·.1) ∧ adW x o = true
    · rw [if_pos c, if_pos c]
      unfold qD
      rw [List.drop_append_of_le_length hpe, List.map_append (l₁ := List.drop (p + 1) ek)]
      rfl
    · rw [if_neg c, if_neg c]
      rfl)
  rw [bf_all ws adW x d es hn] at q2
  subst q2
  refine ⟨.im (wD x), y5', ?_⟩
  have ha : bAsgX 4 (xPopAt 3 (cD (.int 0))) [.im (.tuple (ws.map wD)), .im (wD g), .ow (.dict (esD es)), .ow (qD es p), y4, y5] = some (.nx [.im (.tuple (ws.map wD)), .im (wD g), .ow (.dict (esD es)), .ow (qD es (p + 1)), .im (wD x), y5]) := by
    unfold bAsgX
    rw [hpop]
    rfl
  generalize qD (es ++ nwE ws adW x d es) (p + 1) = q2 at *
  generalize qD es (p + 1) = q3 at *
  generalize esD es = E at *
  simp -implicitDefEqProofs only [W_steps_to_1, bSeq_e]
  rw [ha]
  simp -implicitDefEqProofs
  exact q1
theorem st_loop (ws : List W) (g : W) (hws : okS ws) (hn : ws.Nodup) (hg : g ∈ ws) (r : Nat) : ∀ (m p : Nat) (y4 y5 : Sl), ws.length ≤ p + m →
    ∃ p' z4 z5, (bfN ws adW g p').length ≤ p' ∧ whileL C_steps_to_1 W_steps_to_1 (m + 1 + r) [.im (.tuple (ws.map wD)), .im (wD g), .ow (.dict (esD (bfN ws adW g p))), .ow (qD (bfN ws adW g p) p), y4, y5] =
      some (.nx [.im (.tuple (ws.map wD)), .im (wD g), .ow (.dict (esD (bfN ws adW g p'))), .ow (qD (bfN ws adW g p') p'), z4, z5])
  | m, p, y4, y5, hm => by
    have I := bf_inv ws adW g hn hg adW_symm p
    have hl := bf_len ws adW g hn hg adW_symm p
    by_cases c : (bfN ws adW g p).length ≤ p
    · refine ⟨p, y4, y5, c, ?_⟩
      rw [show m + 1 + r = (m + r) + 1 by omega]
      refine whileL_end ?_
      have : qD (bfN ws adW g p) p = .list [] := by
        unfold qD
        rw [List.drop_eq_nil_of_le c]
        rfl
      rw [this]
      rfl
    · have hp : p < (bfN ws adW g p).length := by omega
      cases m with
      | zero => omega
      | succ m =>
        obtain ⟨x, d, hx⟩ : ∃ x d, (bfN ws adW g p)[p]? = some (x, d) := ⟨_, _, List.getElem?_eq_getElem hp⟩
        have hww := hws.1.2
        obtain ⟨z4, z5, ht⟩ := st_turn ws g hws hn _ p x d hx I.nd I.mws (by omega) y4 y5
        have hs : bfN ws adW g (p + 1) = bfN ws adW g p ++ nwE ws adW x d (bfN ws adW g p) := by
          rw [bfN, hx]
        rw [← hs] at ht
        obtain ⟨p', w4, w5, h1, h2⟩ := st_loop ws g hws hn hg r m (p + 1) z4 z5 (by omega)
        refine ⟨p', w4, w5, h1, ?_⟩
        rw [← h2, show m + 1 + 1 + r = (m + 1 + r) + 1 by omega]
        refine whileL_go ?_ ht
        have : ∃ a l, qD (bfN ws adW g p) p = .list (a :: l) := by
          unfold qD
          rw [List.drop_eq_getElem_cons hp]
          exact ⟨_, _, rfl⟩
        obtain ⟨a, l, e⟩ := this
        rw [e]
        rfl
theorem e_steps_to (ws : List W) (g : W) (hws : okS ws) (hn : ws.Nodup) (hg : g ∈ ws) : ∃ p, (bfN ws adW g p).length ≤ p ∧ Ph_steps_to [.tuple (ws.map wD), wD g] = some (.dict (esD (bfN ws adW g p))) := by
  have hww := hws.1.2
  obtain ⟨p, z4, z5, h1, h2⟩ := st_loop ws g hws hn hg 359 40 0 .un .un (by omega)
  refine ⟨p, h1, ?_⟩
  have e0 : disp1D (wD g) (.int 0) = some (.dict (esD [(g, 0)])) := rfl
  have hb : bfN ws adW g 0 = [(g, 0)] := rfl
  have hq : qD [(g, 0)] 0 = .list [wD g] := rfl
  rw [hb, hq] at h2
  generalize bfN ws adW g p = es at *
  generalize esD [(g, 0)] = E0 at *
  generalize esD es = E at *
  simp -implicitDefEqProofs [Ph_steps_to, b_steps_to, e0]
  rw [h2]
  simp -implicitDefEqProofs
end Hd
end

/-! part: K36j -/
section
set_option Elab.async false
set_option linter.all false
set_option maxRecDepth 100000
set_option maxHeartbeats 400000
namespace Hd
open PySem PySem.Spec Q
theorem told_w (n : Nat) (a b : W) : Ph_is_told (n + 1) [wD a, wD b] = some (.bool (decide (a = b))) := by
  have e1 : isiD "bool" (wD b) = some (.bool false) := rfl
  have e2 : isiD "int" (wD b) = some (.bool false) := rfl
  have e3 : ∀ b, isiD "str" (wD b) = some (.bool true) := fun _ => rfl
  have e4 := nice_w.eq (by decide) a b
  simp -implicitDefEqProofs [Ph_is_told, b_is_told, wD_none, e1, e2, e3, e4]
theorem e_member_w (w : W) (ws : List W) (hw : w ∈ ws) : Ph_to_member [wD w, .tuple (ws.map wD)] = some (wD w) := by
  simp -implicitDefEqProofs [Ph_to_member, b_to_member]
  rcases forL_any (step := turnD (sN 2) L_to_member_1) (xs := ws) (mk := wD)
    (fun pre (ρ : Rho) => w ∉ pre ∧ ∃ y2, ρ = [.im (wD w), .im (.tuple (ws.map wD)), y2])
    (fun _ => False) (fun d => d = wD w)
    [.im (wD w), .im (.tuple (ws.map wD)), .un] ⟨by simp, _, rfl⟩ (by
    rintro pre post ρ x ⟨hn, y2, rfl⟩ hx
    have e := told_w 3 w x
    by_cases c : w = x
    · subst c
      refine .inr (.inr ⟨wD w, ?_, rfl⟩)
      simp -implicitDefEqProofs [L_to_member_1, e]
    · rw [decide_eq_false c] at e
      refine .inl ⟨[.im (wD w), .im (.tuple (ws.map wD)), .im (wD x)], .inl ?_, ?_, _, rfl⟩
      · simp -implicitDefEqProofs [L_to_member_1, e]
      · intro z
        rcases List.mem_append.mp z with z | z
        · exact hn z
        · exact c (List.mem_singleton.mp z)) with ⟨ρ', a1, a2⟩ | ⟨d, a1, a2⟩
  · rcases a2 with ⟨a2, _⟩ | a2
    · exact absurd hw a2
    · exact a2.elim
  · subst a2
    rw [a1]
    rfl
def tW (r : List W) : D := .tuple (r.map wD)
def oT (r : Option (List W)) : D := match r with
  | none => .none
  | some r => tW r
theorem last_snoc {α : Type} (pre : List α) (v d : α) : (pre ++ [v]).getLastD d = v := by simp
section
variable (ws : List W) (g one : W) (hws : okS ws) (hn : ws.Nodup) (hg : g ∈ ws) {p : Nat} (hp : (bfN ws adW g p).length ≤ p)
include hws hn hg hp
theorem lad_turn {v : W} {k : Nat} (h : (v, k + 1) ∈ bfN ws adW g p) (pre : List W) (hl : pre.length ≤ 500) (y5 y6 : Sl) :
    ∃ u, (u, k) ∈ bfN ws adW g p ∧ goL ws adW g (k + 1) v = (goL ws adW g k u).map (v :: ·) ∧ W_ladder_1 [.im (.tuple (ws.map wD)), .im (wD one), .im (wD g), .im (.dict (esD (bfN ws adW g p))), .ow (.list ((pre ++ [v]).map wD)), y5, y6] =
      some (.nx [.im (.tuple (ws.map wD)), .im (wD one), .im (wD g), .im (.dict (esD (bfN ws adW g p))), .ow (.list ((pre ++ [v] ++ [u]).map wD)), .im (.int (k : Nat)), y6]) := by
  obtain ⟨u, l, h1, h2, h3⟩ := nx_go ws adW g hn hg adW_symm hp h
  refine ⟨u, h2, h3, ?_⟩
  have I := bf_inv ws adW g hn hg adW_symm p
  have hlen := line_ge
  have hww := hws.1.2
  have hv : okW v := hws.2 v (I.mws _ h)
  have a1 := at_neg (mk := wD) (pre ++ [v]) [] (by simp)
  rw [last_snoc] at a1
  have fv := find_mem I.nd h
  have e3 : dgetD (.dict (esD (bfN ws adW g p))) (wD v) = some (.int ((k + 1 : Nat) : Int)) := by
    show ((keyO (wD v)).bind fun k => valE (esD (bfN ws adW g p)) k) = _
    rw [key_w, Option.bind_some, val_es, fv]
    rfl
  have e4 : ∀ u, ∃ d, dget1D (.dict (esD (bfN ws adW g p))) (wD u) = some d ∧ eqD d (.int (k : Nat)) = some (.bool (decide ((u, k) ∈ bfN ws adW g p))) := fun u => by
    have e0 : dget1D (.dict (esD (bfN ws adW g p))) (wD u) = some ((((bfN ws adW g p).find? fun e => decide (e.1 = u)).map fun e => PyData.int (e.2 : Nat)).getD .none) := by
      show ((keyO (wD u)).map fun k => (valE (esD (bfN ws adW g p)) k).getD .none) = _
      rw [key_w, Option.map_some, val_es]
    cases c : (bfN ws adW g p).find? fun e => decide (e.1 = u) with
    | none =>
      rw [c] at e0
      refine ⟨_, e0, ?_⟩
      have : ¬ (u, k) ∈ bfN ws adW g p := fun z => by
        have := List.find?_eq_none.mp c _ z
        simp at this
      rw [decide_eq_false this]
      rfl
    | some e =>
      rw [c] at e0
      refine ⟨_, e0, ?_⟩
      have h5 := List.mem_of_find?_eq_some c
      have h6 : e.1 = u := by have := List.find?_some c; simpa using this
      have h7 : (u, k) ∈ bfN ws adW g p ↔ e.2 = k := by
        constructor
        · intro z
          have := find_mem I.nd z
          rw [c] at this
          rw [Option.some.inj this]
        · intro z
          rw [← h6, ← z]
          exact h5
      show eqD (.int (e.2 : Nat)) (.int (k : Nat)) = _
      have := nice_int.eq (by decide) ((e.2 : Nat) : Int) ((k : Nat) : Int)
      rw [this]
      congr 2
      exact decide_eq_decide.mpr (by rw [h7]; omega)
  have c1 : fLc (fI (vF 0)) (sN 6) (fAndT (fT (f2 eqD (f2 dget1D (vF 3) (vF 6)) (vF 5))) (fT (f2 eqD (fB (Ph_gap_of) (aCons (f2 ixD (vP 4) (f1 negD (cD (.int 1)))) (aCons (vF 6) (aNil)))) (cD (.int 1))))) (vF 6) [6]
      [.im (.tuple (ws.map wD)), .im (wD one), .im (wD g), .im (.dict (esD (bfN ws adW g p))), .ow (.list ((pre ++ [v]).map wD)), .im (.int (k : Nat)), y6] = some (.list ((u :: l).map wD)) := by
    rw [← h1]
    generalize bfN ws adW g p = es at *
    generalize esD es = E at *
    generalize (pre ++ [v]).map wD = T at *
    simp -implicitDefEqProofs
    rw [lcL_map (p := fun u => adW v u && decide ((u, k) ∈ es)) (g := wD) (fun u hu => by
      obtain ⟨d, e5, e6⟩ := e4 u
      have e7 := e_gap_of v u (okW_len hv) (okW_len (hws.2 u hu))
      by_cases c : (u, k) ∈ es
      · rw [decide_eq_true c] at e6
        by_cases c2 : gp v u = 1 <;> simp [e5, e6, a1, e7, c, adW, c2]
      · rw [decide_eq_false c] at e6
        simp [e5, e6, c]) (fun u hu hq => by simp), Option.bind_some, lcB_small (by
          have : (ws.filter fun u => adW v u && decide ((u, k) ∈ es)).length ≤ ws.length := List.length_filter_le ..
          simp only [List.length_map]
          omega)]
    exact congrArg (fun l => some (PyData.list (List.map wD l))) (List.filter_congr fun u _ => by rw [Bool.eq_iff_iff]; simp)
  have a0 : L2.atI ((u :: l).map wD) 0 = some (wD u) := at_mk (mk := wD) (u :: l) (k := 0) [] (by simp)
  have hk : ((k + 1 : Nat) : Int) - 1 = (k : Nat) := by omega
  have hTl : ((pre ++ [v]).map wD).length < sizeLine := by simp; omega
  have hT2 : (pre ++ [v] ++ [u]).map wD = (pre ++ [v]).map wD ++ [wD u] := by simp
  rw [hT2]
  generalize bfN ws adW g p = es at *
  generalize esD es = E at *
  generalize (pre ++ [v]).map wD = T at *
  generalize (u :: l).map wD = U at *
  generalize hk1 : ((k + 1 : Nat) : Int) = k1 at *
  simp -implicitDefEqProofs [W_ladder_1, a1, e3, hk, ↓c1, a0, hTl]
theorem lad_loop (r : Nat) : ∀ (k : Nat) (v : W) (pre : List W) (y5 y6 : Sl), (v, k) ∈ bfN ws adW g p → pre.length + k ≤ 500 →
    ∃ q z5 z6, goL ws adW g k v = some q ∧ whileL C_ladder_1 W_ladder_1 (k + 1 + r) [.im (.tuple (ws.map wD)), .im (wD one), .im (wD g), .im (.dict (esD (bfN ws adW g p))), .ow (.list ((pre ++ [v]).map wD)), y5, y6] =
      some (.nx [.im (.tuple (ws.map wD)), .im (wD one), .im (wD g), .im (.dict (esD (bfN ws adW g p))), .ow (.list ((pre ++ q).map wD)), z5, z6])
  | k, v, pre, y5, y6, h, hl => by
    have h0 := go_0 ws adW g hn hg adW_symm hp h
    have a1 := at_neg (mk := wD) (pre ++ [v]) [] (by simp)
    rw [last_snoc] at a1
    have hne := nice_w.ne (by decide) v g
    have hC : C_ladder_1 [.im (.tuple (ws.map wD)), .im (wD one), .im (wD g), .im (.dict (esD (bfN ws adW g p))), .ow (.list ((pre ++ [v]).map wD)), y5, y6] = some (!decide (v = g)) := by
      generalize esD (bfN ws adW g p) = E at *
      generalize (pre ++ [v]).map wD = T at *
      simp -implicitDefEqProofs [C_ladder_1, a1, hne]
    cases k with
    | zero =>
      have hv := h0.mpr rfl
      refine ⟨[v], y5, y6, by rw [goL, if_pos hv], ?_⟩
      rw [show 0 + 1 + r = r + 1 by omega]
      refine whileL_end ?_
      rw [hC, decide_eq_true hv]
      rfl
    | succ k =>
      have hv : ¬ v = g := fun z => by have := h0.mp z; omega
      obtain ⟨u, h1, h2, h3⟩ := lad_turn ws g one hws hn hg hp h pre (by omega) y5 y6
      obtain ⟨q, z5, z6, h4, h5⟩ := lad_loop r k u (pre ++ [v]) (.im (.int (k : Nat))) y6 h1 (by simp; omega)
      refine ⟨v :: q, z5, z6, by rw [h2, h4]; rfl, ?_⟩
      rw [show k + 1 + 1 + r = (k + 1 + r) + 1 by omega, whileL_go (by rw [hC, decide_eq_false hv]; rfl) h3, h5]
      simp
end
theorem e_ladder (ws : List W) (one g : W) (hws : okS ws) (hp : ws.Pairwise (fun a b => wlt a b = true)) (h1 : one ∈ ws) (hg : g ∈ ws) : Ph_ladder [.tuple (ws.map wD), wD one, wD g] = some (oT (fsL ws adW g ws.length one)) := by
  have hn : ws.Nodup := hp.imp fun {a b} h e => by subst e; rw [wlt_irr] at h; cases h
  have e1 := e_to_words ws hws.1 hws.2 (hso_of hp) _ (.inl rfl)
  have e2 := e_member_w one ws h1
  have e3 := e_member_w g ws hg
  obtain ⟨p, hpl, e4⟩ := e_steps_to ws g hws hn hg
  have I := bf_inv ws adW g hn hg adW_symm p
  obtain ⟨s1, s2⟩ := bf_end ws adW g hn hg adW_symm hpl one h1
  have e5 : dinD not (wD one) (.dict (esD (bfN ws adW g p))) = some (.bool (!decide (one ∈ (bfN ws adW g p).map (·.1)))) := by
    show ((keyO (wD one)).map fun k => PyData.bool (!(valE (esD (bfN ws adW g p)) k).isSome)) = _
    rw [key_w, Option.map_some, val_es, Option.isSome_map, find_iso]
  by_cases c : one ∈ (bfN ws adW g p).map (·.1)
  · obtain ⟨e, he, ee⟩ := List.mem_map.mp c
    obtain ⟨x, k⟩ := e
    dsimp only at ee
    subst ee
    rw [s1 k he]
    obtain ⟨i, hi⟩ := List.mem_iff_getElem?.mp he
    have hk := I.ix i _ hi
    have hl := bf_len ws adW g hn hg adW_symm p
    have hil : i < (bfN ws adW g p).length := (List.getElem?_eq_some_iff.mp hi).1
    have hww := hws.1.2
    dsimp only at hk
    obtain ⟨q, z5, z6, h5, h6⟩ := lad_loop ws g x hws hn hg hpl (399 - k) k x [] .un .un he (by simp; omega)
    rw [show k + 1 + (399 - k) = 400 by omega] at h6
    rw [h5]
    rw [decide_eq_true c] at e5
    generalize bfN ws adW g p = es at *
    generalize esD es = E at *
    simp -implicitDefEqProofs [Ph_ladder, b_ladder, e1, e2, e3, e4, e5, e_need_w, e_need_t]
    have h6' : whileL C_ladder_1 W_ladder_1 400 [.im (.tuple (ws.map wD)), .im (wD x), .im (wD g), .im (.dict E), .ow (.list [wD x]), .un, .un] = _ := h6
    rw [h6']
    simp -implicitDefEqProofs [oT, tW]
  · have s2 := s2 fun d hd => c (List.mem_map.mpr ⟨_, hd, rfl⟩)
    rw [s2]
    rw [decide_eq_false c] at e5
    generalize bfN ws adW g p = es at *
    generalize esD es = E at *
    simp -implicitDefEqProofs [Ph_ladder, b_ladder, e1, e2, e3, e4, e5, e_need_w, e_need_t, oT]
end Hd
end

/-! part: K36k -/
section
set_option Elab.async false
set_option linter.all false
set_option maxRecDepth 100000
set_option maxHeartbeats 400000
namespace Hd
open PySem PySem.Spec Q
def ls (r : List W) : W := lsL [] r
def fsA (S0 : List W) (L : List (List W)) (c : List W) : List (List W) := if ls c ∈ S0 ++ L.map ls then L else L ++ [c]
theorem fsA_fold (S0 : List W) : ∀ (C L : List (List W)), C.foldl (fsA S0) L = L ++ fsN [] (fun y => decide (y ∈ S0 ++ L.map ls)) C
  | [], L => by simp [fsN]
  | c :: C, L => by
    rw [List.foldl_cons, fsN]
    have e : lsL [] c = ls c := rfl
    rw [e]
    by_cases h : ls c ∈ S0 ++ L.map ls
    · rw [if_pos (decide_eq_true h), fsA, if_pos h, fsA_fold S0 C L]
    · rw [if_neg (by simpa using h), fsA, if_neg h, fsA_fold S0 C (L ++ [c])]
      rw [List.append_assoc]
      have ee : (fun y => decide (y ∈ S0 ++ List.map ls (L ++ [c]))) = fun y => decide (y ∈ S0 ++ List.map ls L) || decide (y = ls c) := by
        funext y
        rw [Bool.eq_iff_iff]
        simp [or_assoc]
      rw [ee]
      rfl
theorem fs_keys (d : W) (y : W) : ∀ (C : List (List W)) (s : W → Bool), (s y || (fsN d s C).any fun c => decide (y = lsL d c)) = (s y || C.any fun c => decide (y = lsL d c))
  | [], s => rfl
  | c :: C, s => by
    rw [fsN, List.any_cons]
    by_cases h : s (lsL d c) = true
    · rw [if_pos h, fs_keys d y C s]
      by_cases e : y = lsL d c
      · subst e; simp [h]
      · simp [e]
    · rw [if_neg h, List.any_cons]
      have ih := fs_keys d y C (fun y => s y || decide (y = lsL d c))
      rw [← Bool.or_assoc, ih, Bool.or_assoc]
theorem wk_len (ws : List W) : ∀ (t : Nat) (v : W) (r : List W), v ∈ ws → r ∈ wkL ws adW t v → r.length = t + 1 ∧ (∀ x ∈ r, x ∈ ws)
  | 0, v, r, hv, h => by
    rw [wkL, List.mem_singleton] at h
    subst h
    exact ⟨rfl, fun x hx => by rw [List.mem_singleton.mp hx]; exact hv⟩
  | t + 1, v, r, hv, h => by
    rw [wkL] at h
    obtain ⟨u, h1, h2⟩ := List.mem_flatMap.mp h
    obtain ⟨q, h3, rfl⟩ := List.mem_map.mp h2
    obtain ⟨a, b⟩ := wk_len ws t u q (List.mem_filter.mp h1).1 h3
    refine ⟨by simp [a], fun x hx => ?_⟩
    rcases List.mem_cons.mp hx with rfl | hx
    · exact hv
    · exact b x hx
theorem fs_sub (d : W) : ∀ (C : List (List W)) (s : W → Bool), (fsN d s C).Sublist C
  | [], _ => List.Sublist.refl _
  | c :: C, s => by
    rw [fsN]
    split
    · exact (fs_sub d C s).cons _
    · exact (fs_sub d C _).cons₂ _
theorem ls_mem {r : List W} (h : r ≠ []) : ls r ∈ r := by
  unfold ls lsL
  rw [List.getLastD_eq_getLast?, List.getLast?_eq_some_getLast h]
  exact List.getLast_mem h
section
variable (ws : List W) (one g : W) (hws : okS ws)
include hws
/-- one word -/
theorem ll_1 (S0 : List W) (L : List (List W)) (r : List W) (x : W) (hx : x ∈ ws) (hr : r ≠ []) (hrw : ∀ y ∈ r, y ∈ ws) (hrl : r.length ≤ 500) (hS : (S0 ++ L.map ls).length ≤ 500) (y3 y5 y6 y9 : Sl) :
    turnD (sN 9) L__law_ladder_1 (wD x) [.im (.tuple (ws.map wD)), .im (wD one), .im (wD g), y3, .ow (.list ((S0 ++ L.map ls).map wD)), y5, y6, .ow (.list (L.map tW)), .im (tW r), y9] =
      some (.nx [.im (.tuple (ws.map wD)), .im (wD one), .im (wD g), y3, .ow (.list ((S0 ++ (if adW (ls r) x = true then fsA S0 L (r ++ [x]) else L).map ls).map wD)), y5, y6, .ow (.list ((if adW (ls r) x = true then fsA S0 L (r ++ [x]) else L).map tW)), .im (tW r), .im (wD x)]) := by
  have hlen := line_ge
  have e1 := nice_w.notIn_l (by decide) x (S0 ++ L.map ls)
  have a1 := at_neg (mk := wD) r [] hr
  have hl : okW (ls r) := hws.2 _ (hrw _ (ls_mem hr))
  have e2 := e_law_gap (ls r) x (okW_len hl) (okW_len (hws.2 x hx))
  have a1 : ixD (tW r) (.int (-1)) = some (wD (ls r)) := a1
  have e3 : addD (tW r) (.tuple [wD x]) = some (tW (r ++ [x])) := by
    unfold tW
    rw [List.map_append]
    exact if_pos (by simp; omega)
  have hls : ls (r ++ [x]) = x := ls_snoc [] r x
  have hS1 : ((S0 ++ L.map ls).map wD).length < sizeLine := by rw [List.length_map]; omega
  have hL1 : (L.map tW).length < sizeLine := by
    rw [List.length_append, List.length_map] at hS
    rw [List.length_map]; omega
  unfold fsA
  rw [hls]
  by_cases c1 : x ∈ S0 ++ L.map ls
  · simp only [c1, decide_true, Bool.not_true] at e1
    rw [if_pos c1]
    have : (if adW (ls r) x = true then L else L) = L := by split <;> rfl
    rw [this]
    generalize (S0 ++ L.map ls).map wD = S at *
    simp -implicitDefEqProofs [L__law_ladder_1, e1]
  · simp only [c1, decide_false, Bool.not_false] at e1
    rw [if_neg c1]
    by_cases c2 : gp (ls r) x = 1
    · have c2' : adW (ls r) x = true := decide_eq_true c2
      rw [if_pos c2']
      have eS : (S0 ++ (L ++ [r ++ [x]]).map ls).map wD = (S0 ++ L.map ls).map wD ++ [wD x] := by
        simp [hls]
      have eL : (L ++ [r ++ [x]]).map tW = L.map tW ++ [tW (r ++ [x])] := by simp
      rw [eS, eL]
      generalize (S0 ++ L.map ls).map wD = S at *
      generalize L.map tW = LL at *
      generalize tW (r ++ [x]) = rx at *
      generalize tW r = tr at *
      simp -implicitDefEqProofs [L__law_ladder_1, e1, a1, e2, c2, e3, hS1, hL1]
    · have c2' : ¬ adW (ls r) x = true := fun z => c2 (of_decide_eq_true z)
      rw [if_neg c2']
      generalize (S0 ++ L.map ls).map wD = S at *
      generalize L.map tW = LL at *
      generalize tW r = tr at *
      simp -implicitDefEqProofs [L__law_ladder_1, e1, a1, e2, c2]
end
end Hd
end

/-! part: K36l -/
section
set_option Elab.async false
set_option linter.all false
set_option maxRecDepth 100000
set_option maxHeartbeats 400000
namespace Hd
open PySem PySem.Spec Q
theorem nb_snoc (pre : List W) (x : W) (r : List W) : nbL (pre ++ [x]) adW [] r = nbL pre adW [] r ++ (if adW (ls r) x = true then [r ++ [x]] else []) := by
  unfold nbL
  rw [List.filter_append, List.map_append]
  congr 1
  have e : lsL [] r = ls r := rfl
  rw [e]
  by_cases c : adW (ls r) x = true
  · rw [if_pos c, List.filter_cons, if_pos c]; rfl
  · rw [if_neg c, List.filter_cons, if_neg c]; rfl
theorem nd_fold (ws S0 : List W) : ∀ (C L : List (List W)), (S0 ++ L.map ls).Nodup → (∀ y ∈ S0 ++ L.map ls, y ∈ ws) → (∀ c ∈ C, ls c ∈ ws) → (S0 ++ (C.foldl (fsA S0) L).map ls).Nodup ∧ ∀ y ∈ S0 ++ (C.foldl (fsA S0) L).map ls, y ∈ ws
  | [], L, h1, h2, _ => ⟨h1, h2⟩
  | c :: C, L, h1, h2, h3 => by
    rw [List.foldl_cons]
    refine nd_fold ws S0 C _ ?_ ?_ fun x hx => h3 x (List.mem_cons_of_mem _ hx)
    · unfold fsA
      by_cases e : ls c ∈ S0 ++ L.map ls
      · rw [if_pos e]; exact h1
      · rw [if_neg e, List.map_append, ← List.append_assoc, List.nodup_append]
        refine ⟨h1, by simp, fun a ha b hb hab => ?_⟩
        rw [List.map_singleton, List.mem_singleton] at hb
        rw [hab, hb] at ha
        exact e ha
    · unfold fsA
      by_cases e : ls c ∈ S0 ++ L.map ls
      · rw [if_pos e]; exact h2
      · rw [if_neg e, List.map_append, ← List.append_assoc]
        intro y hy
        rcases List.mem_append.mp hy with hy | hy
        · exact h2 y hy
        · rw [List.map_singleton, List.mem_singleton] at hy
          rw [hy]; exact h3 c List.mem_cons_self
theorem nb_ws {ws r c : List W} (h : c ∈ nbL ws adW [] r) : ls c ∈ ws := (nb_keys ws adW h).1
section
variable (ws : List W) (one g : W) (hws : okS ws)
include hws
theorem ll_2 (S0 : List W) (L : List (List W)) (r : List W) (hr : r ≠ []) (hrw : ∀ y ∈ r, y ∈ ws) (hrl : r.length ≤ 500) (h1 : (S0 ++ L.map ls).Nodup) (h2 : ∀ y ∈ S0 ++ L.map ls, y ∈ ws) (y3 y5 y6 y8 y9 : Sl) :
    ∃ z9, turnD (sN 8) L__law_ladder_2 (tW r) [.im (.tuple (ws.map wD)), .im (wD one), .im (wD g), y3, .ow (.list ((S0 ++ L.map ls).map wD)), y5, y6, .ow (.list (L.map tW)), y8, y9] =
      some (.nx [.im (.tuple (ws.map wD)), .im (wD one), .im (wD g), y3, .ow (.list ((S0 ++ ((nbL ws adW [] r).foldl (fsA S0) L).map ls).map wD)), y5, y6, .ow (.list (((nbL ws adW [] r).foldl (fsA S0) L).map tW)), .im (tW r), z9]) := by
  have hww := hws.1.2
  obtain ⟨ρ', q1, z9, q2⟩ := forL_all (step := turnD (sN 9) L__law_ladder_1) (xs := ws) (mk := wD)
    (fun pre (ρ : Rho) => ∃ y9, ρ = [.im (.tuple (ws.map wD)), .im (wD one), .im (wD g), y3, .ow (.list ((S0 ++ ((nbL pre adW [] r).foldl (fsA S0) L).map ls).map wD)), y5, y6, .ow (.list (((nbL pre adW [] r).foldl (fsA S0) L).map tW)), .im (tW r), y9])
    [.im (.tuple (ws.map wD)), .im (wD one), .im (wD g), y3, .ow (.list ((S0 ++ L.map ls).map wD)), y5, y6, .ow (.list (L.map tW)), .im (tW r), y9] ⟨_, rfl⟩ (by
    rintro pre post ρ x ⟨z, rfl⟩ hx
    have hxw := split_mem hx
    obtain ⟨n1, n2⟩ := nd_fold ws S0 (nbL pre adW [] r) L h1 h2 fun c hc => by
      have := nb_ws hc
      rw [hx]
      exact List.mem_append_left _ this
    have hl := nd_le _ ws n1 n2
    rw [nb_snoc, List.foldl_append]
    generalize (nbL pre adW [] r).foldl (fsA S0) L = Lk at *
    have st := ll_1 ws one g hws S0 Lk r x hxw hr hrw hrl (by omega) y3 y5 y6 z
    refine ⟨_, .inl st, .im (wD x), ?_⟩
    by_cases c : adW (ls r) x = true
    · rw [if_pos c, if_pos c]; rfl
    · rw [if_neg c, if_neg c]; rfl)
  subst q2
  refine ⟨z9, ?_⟩
  generalize (S0 ++ ((nbL ws adW [] r).foldl (fsA S0) L).map ls).map wD = S2 at *
  generalize (S0 ++ L.map ls).map wD = S1 at *
  simp -implicitDefEqProofs [L__law_ladder_2]
  exact q1
theorem ll_rows (S0 : List W) (rows : List (List W)) (hR : ∀ r ∈ rows, r ≠ [] ∧ (∀ y ∈ r, y ∈ ws) ∧ r.length ≤ 500) (h1 : S0.Nodup) (h2 : ∀ y ∈ S0, y ∈ ws) (y3 y5 y6 y8 y9 : Sl) :
    ∃ z8 z9, forL (turnD (sN 8) L__law_ladder_2) (rows.map tW) [.im (.tuple (ws.map wD)), .im (wD one), .im (wD g), y3, .ow (.list (S0.map wD)), y5, y6, .ow (.list []), y8, y9] =
      some (.nx [.im (.tuple (ws.map wD)), .im (wD one), .im (wD g), y3, .ow (.list ((S0 ++ (fsN [] (fun y => decide (y ∈ S0)) (rows.flatMap (nbL ws adW []))).map ls).map wD)), y5, y6, .ow (.list ((fsN [] (fun y => decide (y ∈ S0)) (rows.flatMap (nbL ws adW []))).map tW)), z8, z9]) := by
  obtain ⟨ρ', q1, z8, z9, q2⟩ := forL_all (step := turnD (sN 8) L__law_ladder_2) (xs := rows) (mk := tW)
    (fun pre (ρ : Rho) => ∃ y8 y9, ρ = [.im (.tuple (ws.map wD)), .im (wD one), .im (wD g), y3, .ow (.list ((S0 ++ ((pre.flatMap (nbL ws adW [])).foldl (fsA S0) []).map ls).map wD)), y5, y6, .ow (.list (((pre.flatMap (nbL ws adW [])).foldl (fsA S0) []).map tW)), y8, y9])
    [.im (.tuple (ws.map wD)), .im (wD one), .im (wD g), y3, .ow (.list (S0.map wD)), y5, y6, .ow (.list []), y8, y9] ⟨y8, y9, by simp⟩ (by
    rintro pre post ρ r ⟨z8, z9, rfl⟩ hx
    obtain ⟨r1, r2, r3⟩ := hR r (split_mem hx)
    obtain ⟨n1, n2⟩ := nd_fold ws S0 (pre.flatMap (nbL ws adW [])) [] (by simpa using h1) (by simpa using h2) fun c hc => by
      obtain ⟨a, _, b⟩ := List.mem_flatMap.mp hc
      exact nb_ws b
    rw [List.flatMap_append, List.foldl_append]
    generalize (pre.flatMap (nbL ws adW [])).foldl (fsA S0) [] = Lk at *
    obtain ⟨w9, st⟩ := ll_2 ws one g hws S0 Lk r r1 r2 r3 n1 n2 y3 y5 y6 z8 z9
    refine ⟨_, .inl st, .im (tW r), w9, ?_⟩
    simp)
  subst q2
  refine ⟨z8, z9, ?_⟩
  rw [q1, fsA_fold]
  simp
theorem ll_turn (S0 : List W) (rows : List (List W)) (hR : ∀ r ∈ rows, r ≠ [] ∧ (∀ y ∈ r, y ∈ ws) ∧ r.length ≤ 500) (hRl : rows.length ≤ 500) (h1 : S0.Nodup) (h2 : ∀ y ∈ S0, y ∈ ws) (t : Nat) (y5 y6 y7 y8 y9 : Sl) :
    ∃ z5 z6 z7 z8 z9, turnD (sN 5) L__law_ladder_3 (.int (t : Nat)) [.im (.tuple (ws.map wD)), .im (wD one), .im (wD g), .im (.list (rows.map tW)), .ow (.list (S0.map wD)), y5, y6, y7, y8, y9] =
      some (match rows.find? (fun r => decide (lsL [] r = g)) with
        | some q => .rt (tW q)
        | none => .nx [.im (.tuple (ws.map wD)), .im (wD one), .im (wD g), .im (.list ((fsN [] (fun y => decide (y ∈ S0)) (rows.flatMap (nbL ws adW []))).map tW)), .ow (.list ((S0 ++ (fsN [] (fun y => decide (y ∈ S0)) (rows.flatMap (nbL ws adW []))).map ls).map wD)), z5, z6, z7, z8, z9]) := by
  have hlen := line_ge
  have c1 : ∀ y7 y8 y9, fLc (fI (vF 3)) (sN 8) (fT (f2 eqD (f2 ixD (vF 8) (f1 negD (cD (.int 1)))) (vF 2))) (vF 8) [8]
      [.im (.tuple (ws.map wD)), .im (wD one), .im (wD g), .im (.list (rows.map tW)), .ow (.list (S0.map wD)), .im (.int (t : Nat)), y6, y7, y8, y9] = some (.list ((rows.filter fun r => decide (lsL [] r = g)).map tW)) := fun y7 y8 y9 => by
    generalize S0.map wD = S at *
    simp -implicitDefEqProofs
    rw [lcL_map (p := fun r => decide (lsL [] r = g)) (g := tW) (fun r hr => by
      have a1 : ixD (tW r) (.int (-1)) = some (wD (lsL [] r)) := at_neg (mk := wD) r [] (hR r hr).1
      have a2 := nice_w.eq (by decide) (lsL [] r) g
      simp [a1, a2]) (fun r hr hq => by simp), Option.bind_some, lcB_small (by
        have : (rows.filter fun r => decide (lsL [] r = g)).length ≤ rows.length := List.length_filter_le ..
        simp only [List.length_map]
        omega)]
  have hf : rows.find? (fun r => decide (lsL [] r = g)) = (rows.filter fun r => decide (lsL [] r = g)).head? := by rw [List.head?_filter]
  rw [hf]
  cases c : rows.filter fun r => decide (lsL [] r = g) with
  | nil =>
    rw [c] at c1
    obtain ⟨z8, z9, q1⟩ := ll_rows ws one g hws S0 rows hR h1 h2 (.im (.list (rows.map tW))) (.im (.int (t : Nat))) (.im (.list [])) y8 y9
    have e0 : neD (.list []) (.list []) = some (.bool false) := rfl
    refine ⟨.im (.int (t : Nat)), .im (.list []), .im (.list ((fsN [] (fun y => decide (y ∈ S0)) (rows.flatMap (nbL ws adW []))).map tW)), z8, z9, ?_⟩
    · rw [List.map_nil] at c1
      generalize (fsN [] (fun y => decide (y ∈ S0)) (rows.flatMap (nbL ws adW []))) = R2 at *
      generalize (S0 ++ R2.map ls).map wD = S2 at *
      generalize S0.map wD = S at *
      generalize hR1 : rows.map tW = R1 at *
      simp -implicitDefEqProofs [L__law_ladder_3, ↓c1, e0]
      rw [q1]
      simp -implicitDefEqProofs
      rfl
  | cons q l =>
    rw [c] at c1
    have e0 := (nice_lst (nice_tup nice_w)).ne (by decide) (q :: l) []
    have e0 : neD (.list ((q :: l).map tW)) (.list []) = some (.bool true) := by
      have : (!decide (q :: l = [])) = true := by simp
      rw [← this]
      exact e0
    have a0 : L2.atI ((q :: l).map tW) 0 = some (tW q) := at_mk (mk := tW) (q :: l) (k := 0) [] (by simp)
    refine ⟨y5, y6, y7, y8, y9, ?_⟩
    generalize (q :: l).map tW = QL at *
    generalize S0.map wD = S at *
    generalize rows.map tW = R1 at *
    simp -implicitDefEqProofs [L__law_ladder_3, ↓c1, e0, a0]
end
theorem e_law_ladder (ws : List W) (one g : W) (hws : okS ws) (hn : ws.Nodup) (h1 : one ∈ ws) (hg : g ∈ ws) : Ph__law_ladder [.tuple (ws.map wD), wD one, wD g] = some (oT (fsL ws adW g ws.length one)) := by
  have hww := hws.1.2
  have r2 := rg1_n (k := ws.length) (by omega)
  have e0 : PyData.list [.tuple [wD one]] = .list ([[one]].map tW) := rfl
  simp -implicitDefEqProofs [Ph__law_ladder, b__law_ladder, r2]
  rcases forL_any (step := turnD (sN 5) L__law_ladder_3) (xs := List.range ws.length) (mk := fun t => .int (t : Nat))
    (fun pre (ρ : Rho) => (∀ k, k < pre.length → goL ws adW g k one = none) ∧ ∃ S y5 y6 y7 y8 y9, S.Nodup ∧ (∀ y ∈ S, y ∈ ws) ∧ (∀ y, decide (y ∈ S) = seL ws adW [] one (pre.length + 1) y) ∧ (∀ y ∈ (rwL ws adW [] one pre.length).map ls, y ∈ S) ∧ (rwL ws adW [] one pre.length).length ≤ 500 ∧
      ρ = [.im (.tuple (ws.map wD)), .im (wD one), .im (wD g), .im (.list ((rwL ws adW [] one pre.length).map tW)), .ow (.list (S.map wD)), y5, y6, y7, y8, y9])
    (fun _ => False) (fun d => d = oT (fsL ws adW g ws.length one))
    [.im (.tuple (ws.map wD)), .im (wD one), .im (wD g), .im (.list [.tuple [wD one]]), .ow (.list [wD one]), .un, .un, .un, .un, .un]
    ⟨fun k hk => absurd hk (by simp), [one], _, _, _, _, _, by simp, fun y hy => by rw [List.mem_singleton.mp hy]; exact h1, fun y => by rw [Bool.eq_iff_iff, decide_eq_true_eq, List.mem_singleton]; show _ ↔ (false || ([[one]].any fun r => decide (y = lsL [] r))) = true; simp [lsL]; exact ⟨fun h => decide_eq_true h, fun h => of_decide_eq_true h⟩, by simp [rwL, fsN, seL, wkL, ls, lsL], by simp [rwL, fsN, seL, wkL], rfl⟩ (by
    rintro pre post ρ t ⟨hk, S, z5, z6, z7, z8, z9, s1, s2, s3, s4, s5, rfl⟩ hx
    obtain ⟨hpre, ht, _⟩ := range_split hx
    have hpre := hpre.symm
    rw [hpre] at hk s3 s4 s5
    rw [hpre]
    have hR : ∀ r ∈ rwL ws adW [] one t, r ≠ [] ∧ (∀ y ∈ r, y ∈ ws) ∧ r.length ≤ 500 := fun r hr => by
      have hr2 := (fs_sub [] (wkL ws adW t one) (seL ws adW [] one t)).subset hr
      obtain ⟨a, b⟩ := wk_len ws t one r h1 hr2
      exact ⟨wk_ne ws adW t one r hr2, b, by omega⟩
    obtain ⟨w5, w6, w7, w8, w9, st⟩ := ll_turn ws one g hws S (rwL ws adW [] one t) hR s5 s1 s2 t z5 z6 z7 z8 z9
    have hse : seL ws adW [] one t g = false := by
      cases c : seL ws adW [] one t g with
      | false => rfl
      | true =>
        obtain ⟨k, hk1, hk2⟩ := (se_go ws adW [] one g t).mp c
        rw [hk k hk1] at hk2
        cases hk2
    rw [rw_find ws adW [] one g t hse] at st
    cases c : goL ws adW g t one with
    | some q =>
      rw [c] at st
      refine .inr (.inr ⟨tW q, st, ?_⟩)
      have : fsL ws adW g ws.length one = goL ws adW g t one := range_find _ _ _ ht hk (by rw [c]; rfl)
      rw [this, c]
      rfl
    | none =>
      rw [c] at st
      have hfun : (fun y => decide (y ∈ S)) = seL ws adW [] one (t + 1) := funext s3
      rw [hfun, ← rw_s] at st
      have hrw : rwL ws adW [] one (t + 1) = ((rwL ws adW [] one t).flatMap (nbL ws adW [])).foldl (fsA S) [] := by
        rw [fsA_fold, rw_s, ← hfun]
        simp
      obtain ⟨n1, n2⟩ := nd_fold ws S ((rwL ws adW [] one t).flatMap (nbL ws adW [])) [] (by simpa using s1) (by simpa using s2) fun c hc => by
        obtain ⟨a, _, b⟩ := List.mem_flatMap.mp hc
        exact nb_ws b
      rw [← hrw] at n1 n2
      have hl := nd_le _ ws n1 n2
      have fk := fun y => fs_keys [] y (wkL ws adW (t + 1) one) (seL ws adW [] one (t + 1))
      have hrl : (pre ++ [t]).length = t + 1 := by
        rw [List.length_append, hpre]; rfl
      rw [hrl]
      refine .inl ⟨_, .inl st, fun k hkk => ?_, S ++ (rwL ws adW [] one (t + 1)).map ls, w5, w6, w7, w8, w9, n1, n2, fun y => ?_, fun y hy => List.mem_append_right _ hy, ?_, rfl⟩
      · by_cases c2 : k < t
        · exact hk k c2
        · have : k = t := by omega
          subst this
          exact c
      · rw [seL, ← fk y, ← s3 y]
        show _ = (decide (y ∈ S) || (rwL ws adW [] one (t + 1)).any fun c => decide (y = lsL [] c))
        rw [Bool.eq_iff_iff]
        simp only [decide_eq_true_eq, List.mem_append, List.mem_map, Bool.or_eq_true, List.any_eq_true]
        constructor
        · rintro (h | ⟨r, h3, rfl⟩)
          · exact .inl h
          · exact .inr ⟨r, h3, rfl⟩
        · rintro (h | ⟨r, h3, h4⟩)
          · exact .inl h
          · exact .inr ⟨r, h3, h4.symm⟩
      · rw [List.length_append, List.length_map] at hl
        omega) with ⟨ρ', a1, a2⟩ | ⟨d, a1, a2⟩
  · rcases a2 with ⟨a2, S, y5, y6, y7, y8, y9, _, _, _, _, _, rfl⟩ | a2
    · rw [a1]
      rw [List.length_range] at a2
      have : fsL ws adW g ws.length one = none := by
        unfold fsL
        rw [List.findSome?_eq_none_iff]
        intro j hj
        exact a2 j (List.mem_range.mp hj)
      rw [this]
      simp -implicitDefEqProofs [oT]
    · exact a2.elim
  · subst a2
    rw [a1]
    rfl
end Hd
end

/-! part: K36m -/
section
set_option Elab.async false
set_option linter.all false
set_option maxRecDepth 100000
set_option maxHeartbeats 400000
namespace Hd
open PySem PySem.Spec Q
def clF (ws some : List W) : Bool := ws.all fun o => decide (o ∈ some) || !(some.any fun t => adW t o)
theorem e_rising_n (ws : List W) (hl : ws.length ≤ 40) (ho : ∀ w ∈ ws, okW w) (hp : ws.Pairwise (fun a b => wlt a b = true)) (b : Int) (hb : (ws.length : Int) ≤ b) (d : D) (hd : d = .tuple (ws.map wD) ∨ d = .list (ws.map wD)) :
    Ph_to_rising_names [d, .int 0, .int b] = some (.tuple (ws.map wD)) := by
  have e1 := e_to_names ws 0 b ⟨by omega, hb⟩ hl ho d hd
  have e2 : Ph_is_rising [.tuple (ws.map wD)] = some (.bool true) := by
    cases ws with
    | nil =>
      have e0 : rg1D [.int (-1)] = some [] := rfl
      simp -implicitDefEqProofs [Ph_is_rising, b_is_rising, e0, lcL, lcB]
      rfl
    | cons w ws => exact e_is_rising (w :: ws) ⟨by simp, hl⟩ (hso_of hp)
  have e3 : isND (.tuple (ws.map wD)) .none = some (.bool false) := rfl
  simp -implicitDefEqProofs [Ph_to_rising_names, b_to_rising_names, e1, e2, e3]
theorem e_to_closed (ws : List W) (hws : okS ws) (some_ : List W) (hs : some_.Sublist ws) (hp : ws.Pairwise (fun a b => wlt a b = true)) (d : D) (hd : d = .tuple (some_.map wD) ∨ d = .list (some_.map wD)) :
    Ph_to_closed [.tuple (ws.map wD), d] = some (if clF ws some_ = true then .tuple (some_.map wD) else .none) := by
  have hww := hws.1.2
  have hso : ∀ w ∈ some_, okW w := fun w hw => hws.2 w (hs.subset hw)
  have hsl := hs.length_le
  have e1 := e_rising_n some_ (by omega) hso (hp.sublist hs) (ws.length : Nat) (by omega) d hd
  have e2 : fLc (fI (vF 2)) (sN 4) (fYes) (f2 inD (vF 4) (vF 0)) [4] [.im (.tuple (ws.map wD)), .im d, .im (.tuple (some_.map wD)), .un, .un] = some (.list (some_.map fun _ => PyData.bool true)) := by
    simp -implicitDefEqProofs
    rw [lcL_all (g := fun _ => .bool true) (by simp) (fun w hw => by
      have := nice_w.in_t (by decide) w ws
      simp [this, hs.subset hw]), Option.bind_some, lcB_small (by simp; omega)]
  have e3 : allD [.list (some_.map fun _ => PyData.bool true)] = some (.bool true) := by simp
  simp -implicitDefEqProofs [Ph_to_closed, b_to_closed, e1, ↓e2, e3]
  rcases forL_any (step := turnD (sN 3) L_to_closed_1) (xs := ws) (mk := wD)
    (fun pre (ρ : Rho) => clF pre some_ = true ∧ ∃ y3, ρ = [.im (.tuple (ws.map wD)), .im d, .im (.tuple (some_.map wD)), y3, .un])
    (fun _ => False) (fun r => r = .none ∧ clF ws some_ = false)
    [.im (.tuple (ws.map wD)), .im d, .im (.tuple (some_.map wD)), .un, .un] ⟨rfl, _, rfl⟩ (by
    rintro pre post ρ o ⟨hc, y3, rfl⟩ hx
    have how := hws.2 o (split_mem hx)
    have e4 := nice_w.notIn_t (by decide) o some_
    have e5 : fLc (fI (vF 2)) (sN 4) (fYes) (f2 eqD (fB (Ph_gap_of) (aCons (vF 4) (aCons (vF 3) (aNil)))) (cD (.int 1))) [4] [.im (.tuple (ws.map wD)), .im d, .im (.tuple (some_.map wD)), .im (wD o), .un] = some (.list (some_.map fun t => PyData.bool (adW t o))) := by
      simp -implicitDefEqProofs
      rw [lcL_all (g := fun t => .bool (adW t o)) (by simp) (fun t ht => by
        have e7 := e_gap_of t o (okW_len (hso t ht)) (okW_len how)
        by_cases c2 : gp t o = 1 <;> simp [e7, c2, adW]), Option.bind_some, lcB_small (by simp; omega)]
    have e6 : anyD [.list (some_.map fun t => PyData.bool (adW t o))] = some (.bool (some_.any fun t => adW t o)) := by simp
    by_cases c1 : o ∈ some_
    · simp only [c1, decide_true, Bool.not_true] at e4
      refine .inl ⟨[.im (.tuple (ws.map wD)), .im d, .im (.tuple (some_.map wD)), .im (wD o), .un], .inl ?_, ?_, _, rfl⟩
      · simp -implicitDefEqProofs [L_to_closed_1, e4]
      · unfold clF at hc ⊢
        rw [List.all_append, hc]
        simp [c1]
    · simp only [c1, decide_false, Bool.not_false] at e4
      cases c3 : some_.any fun t => adW t o with
      | true =>
        rw [c3] at e6
        refine .inr (.inr ⟨.none, ?_, rfl, ?_⟩)
        · generalize hg : some_.map (fun t => PyData.bool (adW t o)) = G at *
          simp -implicitDefEqProofs [L_to_closed_1, e4, ↓e5, e6]
        · unfold clF
          rw [List.all_eq_false]
          exact ⟨o, split_mem hx, by simp [c1, c3]⟩
      | false =>
        rw [c3] at e6
        refine .inl ⟨[.im (.tuple (ws.map wD)), .im d, .im (.tuple (some_.map wD)), .im (wD o), .un], .inl ?_, ?_, _, rfl⟩
        · generalize hg : some_.map (fun t => PyData.bool (adW t o)) = G at *
          simp -implicitDefEqProofs [L_to_closed_1, e4, ↓e5, e6]
        · unfold clF at hc ⊢
          rw [List.all_append, hc]
          simp [c3]) with ⟨ρ', a1, a2⟩ | ⟨r, a1, a2⟩
  · rcases a2 with ⟨a2, y3, rfl⟩ | a2
    · rw [a1, a2]
      simp -implicitDefEqProofs
    · exact a2.elim
  · obtain ⟨rfl, a3⟩ := a2
    rw [a1, a3]
    rfl
theorem e_closed (ws : List W) (hws : okS ws) (some_ : List W) (hs : some_.Sublist ws) (hp : ws.Pairwise (fun a b => wlt a b = true)) (d : D) (hd : d = .tuple (some_.map wD) ∨ d = .list (some_.map wD)) :
    Ph_ladders_closed [.tuple (ws.map wD), d] = some (.bool (clF ws some_)) := by
  have e1 := e_to_words ws hws.1 hws.2 (hso_of hp) _ (.inl rfl)
  have e2 := e_to_closed ws hws some_ hs hp d hd
  simp -implicitDefEqProofs [Ph_ladders_closed, b_ladders_closed, e1, e_need_t, e2]
  cases clF ws some_ <;> rfl
/-! all sets of words -/
theorem rlt_irr {α : Type} [DecidableEq α] {lt : α → α → Bool} : ∀ a : List α, rlt lt a a = false
  | [] => rfl
  | a :: as => by rw [rlt, if_pos rfl, rlt_irr as]
def rkD (p : Int × List W) : D := .tuple [.int p.1, tW p.2]
def rkt (p q : Int × List W) : Bool := if p.1 = q.1 then rlt wlt p.2 q.2 else decide (p.1 < q.1)
theorem nice_tW : Nice 1 tW := nice_tup nice_w
theorem ordd_tW : Ordd tW (rlt wlt) := ordd_tupL nice_w ordd_w
theorem nice_rk : Nice 2 rkD := nice_pair (nice_int.up (by decide)) nice_tW
theorem ordd_rk : Ordd rkD rkt := ordd_pair nice_int nice_tW ordd_int ordd_tW fun a => rlt_irr a
theorem sorted_rk (l : List (Int × List W)) : sortedD [.list (l.map rkD)] = some (.list ((l.mergeSort fun a b => !rkt b a).map rkD)) :=
  sorted_tup nice_rk (by decide) ordd_rk (fun a => ⟨_, _, rfl⟩) l _ (.inl rfl)
def sbF (rows : List (List W)) (w : W) : List (List W) := rows ++ rows.map (· ++ [w])
theorem sb_props : ∀ (l pre : List W) (rows : List (List W)), (∀ r ∈ rows, r.Sublist pre) → (∀ r ∈ l.foldl sbF rows, r.Sublist (pre ++ l)) ∧ (l.foldl sbF rows).length = rows.length * 2 ^ l.length
  | [], pre, rows, h => ⟨by simpa using h, by simp⟩
  | w :: l, pre, rows, h => by
    rw [List.foldl_cons]
    obtain ⟨a, b⟩ := sb_props l (pre ++ [w]) (sbF rows w) (fun r hr => by
      rcases List.mem_append.mp hr with hr | hr
      · exact (h r hr).trans (List.sublist_append_left _ _)
      · obtain ⟨q, hq, rfl⟩ := List.mem_map.mp hr
        exact (h q hq).append (List.Sublist.refl _))
    refine ⟨fun r hr => by have := a r hr; simpa using this, ?_⟩
    rw [b, sbF, List.length_append, List.length_map, List.length_cons, Nat.pow_succ, ← Nat.mul_two, Nat.mul_assoc, Nat.mul_comm 2]
theorem e_subsets (ws : List W) (h7 : ws.length ≤ 7) : ∃ R : List (List W), Ph__law_subsets [.tuple (ws.map wD)] = some (.list (R.map tW)) ∧ ∀ r ∈ R, r.Sublist ws := by
  have hlen := line_ge
  refine ⟨((((ws.foldl sbF [[]]).map fun r => ((r.length : Int), r)).mergeSort fun a b => !rkt b a).map (·.2)), ?_, fun r hr => ?_⟩
  · simp -implicitDefEqProofs [Ph__law_subsets, b__law_subsets]
    obtain ⟨ρ', q1, x2, q2⟩ := forL_all (step := turnD (sN 2) L__law_subsets_1) (xs := ws) (mk := wD)
      (fun pre (ρ : Rho) => ∃ x2, ρ = [.im (.tuple (ws.map wD)), .im (.list ((pre.foldl sbF [[]]).map tW)), x2, .un])
      [.im (.tuple (ws.map wD)), .im (.list [.tuple []]), .un, .un] ⟨_, rfl⟩ (by
      rintro pre post ρ w ⟨z2, rfl⟩ hx
      have hpl := split_len hx
      obtain ⟨a, b⟩ := sb_props pre [] [[]] (fun r hr => by rw [List.mem_singleton.mp hr]; exact List.Sublist.refl _)
      have hpow : 2 ^ pre.length ≤ 2 ^ 7 := Nat.pow_le_pow_right (by omega) (by omega)
      rw [List.foldl_append, List.foldl_cons, List.foldl_nil]
      generalize pre.foldl sbF [[]] = R at *
      have c1 : fLc (fI (vF 1)) (sN 3) (fYes) (f2 addD (vF 3) (fTup (aCons (vF 2) (aNil)))) [3] [.im (.tuple (ws.map wD)), .im (.list (R.map tW)), .im (wD w), .un] = some (.list ((R.map (· ++ [w])).map tW)) := by
        simp -implicitDefEqProofs
        rw [lcL_all (g := fun r => tW (r ++ [w])) (by simp) (fun r hr => by
          have hrl := (a r hr).length_le
          have e3 : addD (tW r) (.tuple [wD w]) = some (tW (r ++ [w])) := by
            unfold tW
            rw [List.map_append]
            exact if_pos (by simp at hrl ⊢; omega)
          simp [e3]), Option.bind_some, lcB_small (by simp at b ⊢; omega)]
        rfl
      refine ⟨_, .inl ?_, .im (wD w), rfl⟩
      have hs : (R.map tW).length + ((R.map (· ++ [w])).map tW).length ≤ sizeLine := by simp at b ⊢; omega
      unfold sbF
      rw [List.map_append]
      generalize (R.map (· ++ [w])).map tW = R2 at *
      generalize R.map tW = R1 at *
      simp -implicitDefEqProofs [L__law_subsets_1, ↓c1, hs])
    rw [q1]
    subst q2
    obtain ⟨a, b⟩ := sb_props ws [] [[]] (fun r hr => by rw [List.mem_singleton.mp hr]; exact List.Sublist.refl _)
    have hpow : 2 ^ ws.length ≤ 2 ^ 7 := Nat.pow_le_pow_right (by omega) (by omega)
    generalize ws.foldl sbF [[]] = R at *
    have sk := sorted_rk (R.map fun r => ((r.length : Int), r))
    have hml : ((R.map fun r => ((r.length : Int), r)).mergeSort fun a b => !rkt b a).length = R.length := by rw [List.length_mergeSort, List.length_map]
    generalize ((R.map fun r => ((r.length : Int), r)).mergeSort fun a b => !rkt b a) = M at *
    simp -implicitDefEqProofs
    rw [lcL_all (g := fun r => rkD ((r.length : Int), r)) (by simp) (fun r hr => by
      have hrl := (a r hr).length_le
      have e5 : lenD [tW r] = some (.int (r.length : Nat)) := by
        have := hlen
        simp [tW]
      simp [e5, rkD]), Option.bind_some, lcB_small (by simp at b ⊢; omega)]
    have e6 : (R.map fun r => rkD ((r.length : Int), r)) = (R.map fun r => ((r.length : Int), r)).map rkD := by rw [List.map_map]; rfl
    rw [e6]
    rw [List.map_map] at sk
    simp -implicitDefEqProofs [sk]
    rw [lcL_all (g := fun p => tW p.2) (by simp) (fun p hp => by
      have : ixD (rkD p) (.int 1) = some (tW p.2) := rfl
      simp [this]), Option.bind_some, Function.comp, lcB_small (by simp at b ⊢; omega)]
    rfl
  · obtain ⟨p, hp, rfl⟩ := List.mem_map.mp hr
    have hp := (List.mergeSort_perm _ _).mem_iff.mp hp
    obtain ⟨q, hq, rfl⟩ := List.mem_map.mp hp
    have := (sb_props ws [] [[]] (fun r hr => by rw [List.mem_singleton.mp hr]; exact List.Sublist.refl _)).1 q hq
    simpa using this
end Hd
end

/-! part: K36n -/
section
set_option Elab.async false
set_option linter.all false
set_option maxRecDepth 100000
set_option maxHeartbeats 400000
namespace Hd
open PySem PySem.Spec Q
def oI : Option Int → D
  | none => .none
  | some i => .int i
def lmin : List Int → Option Int
  | [] => none
  | x :: xs => some (leastBy (fun a b => decide (a < b)) x xs)
theorem minA_i (l : List Int) (h : l ≠ []) : minA [.list (l.map .int)] = some (oI (lmin l)) := by
  cases l with
  | nil => exact absurd rfl h
  | cons x xs =>
    have := minOf_nice nice_int (by decide) ordd_int x xs
    rw [List.map_cons] at this ⊢
    exact this
theorem flatMap_len {α β : Type} (f : α → List β) (c : Nat) : ∀ (l : List α), (∀ x ∈ l, (f x).length ≤ c) → (l.flatMap f).length ≤ l.length * c
  | [], _ => by simp
  | x :: l, h => by
    rw [List.flatMap_cons, List.length_append, List.length_cons, Nat.succ_mul]
    have := flatMap_len f c l fun y hy => h y (List.mem_cons_of_mem _ hy)
    have := h x List.mem_cons_self
    omega

/-! least of all -/
section
variable {α : Type} {lt : α → α → Bool}
theorem leastBy_le (tr : ∀ a b c, lt b a = false → lt c b = false → lt c a = false) (irr : ∀ a, lt a a = false) (as : ∀ a b, lt a b = true → lt b a = false) : ∀ (xs : List α) (x : α), ∀ y ∈ x :: xs, lt y (leastBy lt x xs) = false
  | [], x, y, hy => by
    rw [List.mem_singleton.mp hy]
    exact irr x
  | z :: xs, x, y, hy => by
    unfold leastBy
    rw [List.foldl_cons]
    have ih := leastBy_le tr irr as xs (if lt z x then z else x)
    unfold leastBy at ih
    have h0 := ih _ List.mem_cons_self
    rcases List.mem_cons.mp hy with rfl | hy
    · cases c : lt z y with
      | true =>
        rw [c] at h0; simp only [if_true, Bool.false_eq_true, if_false] at h0 ⊢
        exact tr _ _ _ h0 (as _ _ c)
      | false =>
        rw [c] at h0; simp only [if_true, Bool.false_eq_true, if_false] at h0 ⊢
        exact h0
    · rcases List.mem_cons.mp hy with rfl | hy
      · cases c : lt y x with
        | true =>
          rw [c] at h0; simp only [if_true, Bool.false_eq_true, if_false] at h0 ⊢
          exact h0
        | false =>
          rw [c] at h0; simp only [if_true, Bool.false_eq_true, if_false] at h0 ⊢
          exact tr _ _ _ h0 c
      · exact ih y (List.mem_cons_of_mem _ hy)
end
theorem lmin_some {l : List Int} {m : Int} (h : lmin l = some m) : m ∈ l ∧ ∀ y ∈ l, m ≤ y := by
  cases l with
  | nil => cases h
  | cons x xs =>
    have e : leastBy (fun a b => decide (a < b)) x xs = m := Option.some.inj h
    refine ⟨by rw [← e]; exact leastBy_mem xs x, fun y hy => ?_⟩
    have := leastBy_le (lt := fun a b : Int => decide (a < b)) (fun a b c h1 h2 => by simp at *; omega) (fun a => by simp) (fun a b h => by simp at *; omega) xs x y hy
    rw [e] at this
    simp at this
    exact this
theorem lmin_ne {l : List Int} (h : l ≠ []) : ∃ m, lmin l = some m := by
  cases l with
  | nil => exact absurd rfl h
  | cons x xs => exact ⟨_, rfl⟩
def slF : W → List W → List Int
  | _, [] => []
  | w, v :: r => gp w v :: slF v r

def lm (l : List Int) : Int := (lmin l).getD 0
theorem minA_lm {l : List Int} (h : l ≠ []) : minA [.list (l.map .int)] = some (.int (lm l)) := by
  rw [minA_i l h]
  obtain ⟨m, hm⟩ := lmin_ne h
  unfold lm
  rw [hm]
  rfl
theorem lm_spec {l : List Int} (h : l ≠ []) : lm l ∈ l ∧ ∀ y ∈ l, lm l ≤ y := by
  obtain ⟨m, hm⟩ := lmin_ne h
  have := lmin_some hm
  unfold lm
  rw [hm]
  exact this
theorem lm_ext {l m : List Int} (h : l ≠ []) (e : ∀ y, y ∈ l ↔ y ∈ m) : lm l = lm m := by
  obtain ⟨a1, a2⟩ := lm_spec h
  have hm : m ≠ [] := fun z => by
    have := (e _).mp a1
    rw [z] at this; cases this
  obtain ⟨b1, b2⟩ := lm_spec hm
  have := a2 _ ((e _).mpr b1)
  have := b2 _ ((e _).mp a1)
  omega
def pD2 (p : W × W) : D := .tuple [wD p.1, wD p.2]
def gp2 (p : W × W) : Int := gp p.1 p.2
def upI (ws : List W) (k : Nat) : List (W × W) := (List.range k).flatMap fun i => (ws.drop (i + 1)).map fun b => (ws.getD i [], b)
theorem upI_s (ws : List W) (k : Nat) : upI ws (k + 1) = upI ws k ++ (ws.drop (k + 1)).map fun b => (ws.getD k [], b) := by
  unfold upI
  rw [List.range_succ, List.flatMap_append]
  simp
theorem upI_len (ws : List W) (h : ws.length ≤ 7) (k : Nat) : (upI ws k).length ≤ k * 7 := by
  have := flatMap_len (fun i => (ws.drop (i + 1)).map fun b => (ws.getD i [], b)) 7 (List.range k) fun x _ => by simp; omega
  rw [List.length_range] at this
  exact this
theorem e_web (ws : List W) (m : Int) (hws : okS ws) (h7 : ws.length ≤ 7) (hp : ws.Pairwise (fun a b => wlt a b = true)) (hm : 0 ≤ m ∧ m ≤ 8) (d : D) (hd : d = .tuple (ws.map wD) ∨ d = .list (ws.map wD)) :
    Ph_web [d, .int m] = some (.tuple (((upI ws ws.length).filter fun p => decide (gp2 p ≤ m)).map pD2)) := by
  have hlen := line_ge
  have e1 := e_to_words ws hws.1 hws.2 (hso_of hp) d hd
  have en := enum_mk (mk := wD) [] ws (.tuple (ws.map wD)) (.inr rfl)
  simp -implicitDefEqProofs [Ph_web, b_web, e1, e_need_t, e_need_within _ _ _ _ hm]
  rw [en]
  obtain ⟨ρ', q1, x3, x4, q2⟩ := forL_all (step := turnD (sT 2 (sCons (sN 3) (sCons (sN 4) sNil))) L_web_1) (xs := List.range ws.length) (mk := fun (i : Nat) => .tuple [.int (i : Nat), wD (ws.getD i [])])
    (fun pre (ρ : Rho) => ∃ x3 x4, ρ = [.im (.tuple (ws.map wD)), .im (.int m), .ow (.list (((upI ws pre.length).filter fun p => decide (gp2 p ≤ m)).map pD2)), x3, x4, .un])
    [.im (.tuple (ws.map wD)), .im (.int m), .ow (.list []), .un, .un, .un] ⟨_, _, rfl⟩ (by
    rintro pre post ρ i ⟨z3, z4, rfl⟩ hx
    obtain ⟨rfl, hi, _⟩ := range_split hx
    rw [List.length_append, List.length_singleton, upI_s]
    have ul := upI_len ws h7 pre.length
    generalize pre.length = i at *
    have hcut : cutL (ws.map wD) (some ((i : Int) + 1)) none = (ws.drop (i + 1)).map wD := by
      have h0 : ¬ ((i : Int) + 1) < 0 := by omega
      unfold cutL HT.sIx
      have e : ((i : Int) + 1).toNat = i + 1 := by omega
      simp only [if_neg h0, e, List.length_map, Nat.min_eq_left (show i + 1 ≤ ws.length by omega)]
      rw [List.take_of_length_le (by simp), List.map_drop]
    have hv : okW (ws.getD i []) := getD_ok hws.2 hi
    have hsub : ∀ b ∈ ws.drop (i + 1), okW b := fun b hb => hws.2 b (List.mem_of_mem_drop hb)
    have hdl : (ws.drop (i + 1)).length ≤ 7 := by simp; omega
    generalize ws.getD i [] = v at *
    generalize ws.drop (i + 1) = R at *
    have hfl : ((upI ws i).filter fun p => decide (gp2 p ≤ m)).length ≤ 50 := by
      have : ((upI ws i).filter fun p => decide (gp2 p ≤ m)).length ≤ (upI ws i).length := List.length_filter_le ..
      omega
    have c1 : fLc (fI (fSl (vF 0) (oIs (f2 addD (vF 3) (cD (.int 1)))) (oNo))) (sN 5) (fT (f2 leD (fB (Ph_gap_of) (aCons (vF 4) (aCons (vF 5) (aNil)))) (vF 1))) (fTup (aCons (vF 4) (aCons (vF 5) (aNil)))) [5]
        [.im (.tuple (ws.map wD)), .im (.int m), .ow (.list (((upI ws i).filter fun p => decide (gp2 p ≤ m)).map pD2)), .im (.int (i : Nat)), .im (wD v), .un] = some (.list (((R.map fun b => (v, b)).filter fun p => decide (gp2 p ≤ m)).map pD2)) := by
      generalize ((upI ws i).filter fun p => decide (gp2 p ≤ m)).map pD2 = T at *
      simp -implicitDefEqProofs [hcut]
      rw [lcL_map (p := fun b => decide (gp v b ≤ m)) (g := fun b => pD2 (v, b)) (fun b hb => by
        have e7 := e_gap_of v b (okW_len hv) (okW_len (hsub b hb))
        simp [e7]) (fun b hb hq => by simp [pD2]), Option.bind_some, lcB_small (by
          have : (R.filter fun b => decide (gp v b ≤ m)).length ≤ R.length := List.length_filter_le ..
          simp only [List.length_map]; omega)]
      rw [List.filter_map, List.map_map]
      rfl
    refine ⟨_, .inl ?_, .im (.int (i : Nat)), .im (wD v), rfl⟩
    have hs1 : (((upI ws i).filter fun p => decide (gp2 p ≤ m)).map pD2).length + ((((R.map fun b => (v, b)).filter fun p => decide (gp2 p ≤ m)).map pD2)).length ≤ sizeLine := by
      have : ((R.map fun b => (v, b)).filter fun p => decide (gp2 p ≤ m)).length ≤ (R.map fun b => (v, b)).length := List.length_filter_le ..
      rw [List.length_map] at this
      rw [List.length_map, List.length_map]
      omega
    rw [List.filter_append, List.map_append]
    generalize ((upI ws i).filter fun p => decide (gp2 p ≤ m)).map pD2 = T at *
    generalize ((R.map fun b => (v, b)).filter fun p => decide (gp2 p ≤ m)).map pD2 = T2 at *
    simp -implicitDefEqProofs [L_web_1, ↓c1, hs1])
  rw [Option.bind_some, q1]
  subst q2
  rw [List.length_range]
  simp -implicitDefEqProofs
end Hd
end

/-! part: K36o -/
section
set_option Elab.async false
set_option linter.all false
set_option maxRecDepth 100000
set_option maxHeartbeats 400000
namespace Hd
open PySem PySem.Spec Q
def dpL (ws : List W) : List Int := ws.flatMap fun a => (ws.filter fun b => !decide (a = b)).map fun b => gp a b
def gaL (ws : List W) : List Int := (upI ws ws.length).map gp2
theorem up_mem (ws : List W) (p : W × W) : p ∈ upI ws ws.length ↔ ∃ i j, i < j ∧ j < ws.length ∧ p = (ws.getD i [], ws.getD j []) := by
  unfold upI
  rw [List.mem_flatMap]
  constructor
  · rintro ⟨i, hi, h⟩
    obtain ⟨b, hb, rfl⟩ := List.mem_map.mp h
    obtain ⟨k, hk⟩ := List.mem_iff_getElem?.mp hb
    rw [List.getElem?_drop] at hk
    have hl := (List.getElem?_eq_some_iff.mp hk).1
    exact ⟨i, i + 1 + k, by omega, hl, by rw [List.getD_eq_getElem?_getD (i := i + 1 + k), hk]; rfl⟩
  · rintro ⟨i, j, h1, h2, rfl⟩
    refine ⟨i, List.mem_range.mpr (by omega), List.mem_map.mpr ⟨ws.getD j [], ?_, rfl⟩⟩
    rw [List.mem_iff_getElem?]
    refine ⟨j - (i + 1), ?_⟩
    rw [List.getElem?_drop, show i + 1 + (j - (i + 1)) = j by omega]
    simp [h2]
theorem sorted_at {ws : List W} (hp : ws.Pairwise (fun a b => wlt a b = true)) {i j : Nat} (hij : i < j) (hj : j < ws.length) : wlt (ws.getD i []) (ws.getD j []) = true := by
  have := List.pairwise_iff_getElem.mp hp i j (by omega) hj hij
  have hi : i < ws.length := by omega
  simpa [List.getD_eq_getElem?_getD, hi, hj] using this
theorem mem_at {ws : List W} {a : W} (h : a ∈ ws) : ∃ i, i < ws.length ∧ ws.getD i [] = a := by
  obtain ⟨i, hi, e⟩ := List.getElem_of_mem h
  exact ⟨i, hi, by simp [hi, e]⟩
theorem at_mem {ws : List W} {i : Nat} (h : i < ws.length) : ws.getD i [] ∈ ws := by simp [h]
theorem dp_mem (ws : List W) (y : Int) : y ∈ dpL ws ↔ ∃ a ∈ ws, ∃ b ∈ ws, a ≠ b ∧ y = gp a b := by
  unfold dpL
  rw [List.mem_flatMap]
  constructor
  · rintro ⟨a, ha, h⟩
    obtain ⟨b, hb, rfl⟩ := List.mem_map.mp h
    obtain ⟨h1, h2⟩ := List.mem_filter.mp hb
    exact ⟨a, ha, b, h1, by simpa using h2, rfl⟩
  · rintro ⟨a, ha, b, hb, h, rfl⟩
    exact ⟨a, ha, List.mem_map.mpr ⟨b, List.mem_filter.mpr ⟨hb, by simpa using h⟩, rfl⟩⟩
theorem dp_ga (ws : List W) (hp : ws.Pairwise (fun a b => wlt a b = true)) (y : Int) : y ∈ gaL ws ↔ y ∈ dpL ws := by
  rw [dp_mem]
  unfold gaL
  rw [List.mem_map]
  constructor
  · rintro ⟨p, h, rfl⟩
    obtain ⟨i, j, h1, h2, rfl⟩ := (up_mem ws p).mp h
    refine ⟨_, at_mem (show i < ws.length by omega), _, at_mem h2, fun z => ?_, rfl⟩
    have := sorted_at hp h1 h2
    rw [z, wlt_irr] at this
    cases this
  · rintro ⟨a, ha, b, hb, h, rfl⟩
    obtain ⟨i, hi, rfl⟩ := mem_at ha
    obtain ⟨j, hj, rfl⟩ := mem_at hb
    rcases Nat.lt_trichotomy i j with c | c | c
    · exact ⟨_, (up_mem ws _).mpr ⟨i, j, c, hj, rfl⟩, rfl⟩
    · subst c; exact absurd rfl h
    · exact ⟨_, (up_mem ws _).mpr ⟨j, i, c, hi, rfl⟩, gp_symm ..⟩
theorem ga_ne (ws : List W) (h : 2 ≤ ws.length) : gaL ws ≠ [] := fun z => by
  have := (up_mem ws (ws.getD 0 [], ws.getD 1 [])).mpr ⟨0, 1, by omega, by omega, rfl⟩
  unfold gaL at z
  rw [List.map_eq_nil_iff.mp z] at this
  cases this
theorem ga_1 (ws : List W) (h : ws.length = 1) : gaL ws = [] := by
  unfold gaL
  rw [List.map_eq_nil_iff, List.eq_nil_iff_forall_not_mem]
  intro p hp
  obtain ⟨i, j, h1, h2, _⟩ := (up_mem ws p).mp hp
  omega
def sfF (ws : List W) : Int := if gaL ws = [] then 8 else (lm (gaL ws) - 1) / 2
theorem e_safe (ws : List W) (hws : okS ws) (h7 : ws.length ≤ 7) (hp : ws.Pairwise (fun a b => wlt a b = true)) : Ph_safe [.tuple (ws.map wD)] = some (.int (sfF ws)) := by
  have hlen := line_ge
  have e1 := e_to_words ws hws.1 hws.2 (hso_of hp) _ (.inl rfl)
  by_cases c : ws.length = 1
  · have e2 : ((ws.length : Int) == 1) = true := by simp [c]
    have e3 : (ws.length : Int) = 1 := by omega
    rw [sfF, if_pos (ga_1 ws c)]
    simp -implicitDefEqProofs [Ph_safe, b_safe, e1, e_need_t, e2, e3]
  · have h2 : 2 ≤ ws.length := by have := hws.1.1; omega
    have hne := ga_ne ws h2
    have hlm := lm_ext hne (dp_ga ws hp)
    have hdn : dpL ws ≠ [] := fun z => by
      obtain ⟨a1, _⟩ := lm_spec hne
      have := (dp_ga ws hp _).mp a1
      rw [z] at this
      cases this
    rw [sfF, if_neg hne, hlm]
    have hdl : (dpL ws).length ≤ ws.length * 7 := by
      refine flatMap_len _ 7 ws fun a _ => ?_
      rw [List.length_map]
      exact Nat.le_trans (List.length_filter_le ..) h7
    have mn := minA_lm hdn
    have c1 : fLc2 (fI (vF 0)) (sN 1) (fYes) (fI (vF 0)) (sN 2) (fT (f2 neD (vF 1) (vF 2))) (fB (Ph_gap_of) (aCons (vF 1) (aCons (vF 2) (aNil)))) [1, 2] [2] [.im (.tuple (ws.map wD)), .un, .un] = some (.list ((dpL ws).map .int)) := by
      simp -implicitDefEqProofs
      rw [lcM_mk (g := fun a => (ws.filter fun b => !decide (a = b)).map fun b => .int (gp a b)) (fun a ha => by
        simp -implicitDefEqProofs
        rw [lcL_map (p := fun b => !decide (a = b)) (g := fun b => .int (gp a b)) (fun b hb => by
          have := nice_w.ne (by decide) a b
          simp [this]) (fun b hb hq => by
          have e7 := e_gap_of a b (okW_len (hws.2 a ha)) (okW_len (hws.2 b hb))
          simp [e7])]), Option.bind_some, lcB_small ?_]
      · unfold dpL
        rw [List.map_flatMap]
        congr 3
        funext a
        rw [List.map_map]
        rfl
      · have : ((ws.flatMap fun a => (ws.filter fun b => !decide (a = b)).map fun b => PyData.int (gp a b))).length ≤ ws.length * 7 := by
          refine flatMap_len _ 7 ws fun a _ => ?_
          rw [List.length_map]
          exact Nat.le_trans (List.length_filter_le ..) h7
        omega
    have e2 : ((ws.length : Int) == 1) = false := by simp; omega
    have e3 : ¬ (ws.length : Int) = 1 := by omega
    have e4 : ¬ ws.length = 1 := c
    generalize (dpL ws).map PyData.int = DL at *
    simp -implicitDefEqProofs [Ph_safe, b_safe, e1, e_need_t, e2, e3, e4, ↓c1, mn]
/-! pairs of a number and a word -/
def pW (p : Int × W) : D := .tuple [.int p.1, wD p.2]
def ptW (p q : Int × W) : Bool := if p.1 = q.1 then wlt p.2 q.2 else decide (p.1 < q.1)
theorem nice_pW : Nice 1 pW := nice_pair nice_int nice_w
theorem ordd_pW : Ordd pW ptW := ordd_pair nice_int nice_w ordd_int ordd_w wlt_irr
def bsW : List (Int × W) → Int × W
  | [] => (0, [])
  | x :: xs => leastBy ptW x xs
theorem minA_pW {l : List (Int × W)} (h : l ≠ []) : minA [.list (l.map pW)] = some (pW (bsW l)) := by
  cases l with
  | nil => exact absurd rfl h
  | cons x xs => exact minOf_nice nice_pW (by decide) ordd_pW x xs
theorem ptW_le {a b : Int × W} (h : ptW b a = false) : a.1 ≤ b.1 := by
  unfold ptW at h
  split at h
  · rename_i e; omega
  · have := of_decide_eq_false h; omega
theorem bsW_spec {l : List (Int × W)} (h : l ≠ []) : bsW l ∈ l ∧ ∀ y ∈ l, (bsW l).1 ≤ y.1 := by
  cases l with
  | nil => exact absurd rfl h
  | cons x xs =>
    refine ⟨leastBy_mem xs x, fun y hy => ?_⟩
    have key : ∀ (xs : List (Int × W)) (x : Int × W), ∀ y ∈ x :: xs, (leastBy ptW x xs).1 ≤ y.1 := by
      intro xs
      induction xs with
      | nil => intro x y hy; rw [List.mem_singleton.mp hy]; exact Int.le_refl _
      | cons z xs ih =>
        intro x y hy
        have e : leastBy ptW x (z :: xs) = leastBy ptW (if ptW z x then z else x) xs := by
          unfold leastBy
          rw [List.foldl_cons]
        rw [e]
        have h0 := ih (if ptW z x then z else x) _ List.mem_cons_self
        have hzx : (if ptW z x then z else x).1 ≤ x.1 ∧ (if ptW z x then z else x).1 ≤ z.1 := by
          cases c : ptW z x with
          | true =>
            have : z.1 ≤ x.1 := by
              unfold ptW at c
              split at c
              · rename_i e; omega
              · have := of_decide_eq_true c; omega
            exact ⟨this, Int.le_refl _⟩
          | false => exact ⟨Int.le_refl _, ptW_le c⟩
        rcases List.mem_cons.mp hy with rfl | hy
        · omega
        · rcases List.mem_cons.mp hy with rfl | hy
          · omega
          · exact ih _ y (List.mem_cons_of_mem _ hy)
    exact key xs x y hy
def nrL (ws : List W) (s : W) : List (Int × W) := ws.map fun w => (gp w s, w)
def haF (ws : List W) (s : W) : D := .tuple [.int (lm (ws.map fun w => gp w s)), .tuple ((ws.filter fun w => decide (gp w s = lm (ws.map fun w => gp w s))).map wD)]
theorem near_min (ws : List W) (s : W) (h : ws ≠ []) : (bsW (nrL ws s)).1 = lm (ws.map fun w => gp w s) := by
  have h1 : nrL ws s ≠ [] := by simpa [nrL] using h
  have h2 : (ws.map fun w => gp w s) ≠ [] := by simpa using h
  obtain ⟨a1, a2⟩ := bsW_spec h1
  obtain ⟨b1, b2⟩ := lm_spec h2
  obtain ⟨w, hw, e⟩ := List.mem_map.mp a1
  obtain ⟨v, hv, e2⟩ := List.mem_map.mp b1
  have := a2 (gp v s, v) (List.mem_map.mpr ⟨v, hv, rfl⟩)
  have := b2 (gp w s) (List.mem_map.mpr ⟨w, hw, rfl⟩)
  rw [← e] at *
  dsimp only at *
  omega
theorem e_heard_as (ws : List W) (s : W) (hws : okS ws) (hp : ws.Pairwise (fun a b => wlt a b = true)) (hs : okW s) : Ph_heard_as [.tuple (ws.map wD), wD s] = some (haF ws s) := by
  have hlen := line_ge
  have e1 := e_to_words ws hws.1 hws.2 (hso_of hp) _ (.inl rfl)
  have hww := hws.1
  have hne : (ws.map fun w => gp w s) ≠ [] := fun z => by
    have := List.map_eq_nil_iff.mp z
    rw [this] at hww
    simp at hww
  have mn := minA_lm hne
  have c1 : fLc (fI (vF 0)) (sN 3) (fYes) (fB (Ph_gap_of) (aCons (vF 3) (aCons (vF 1) (aNil)))) [3] [.im (.tuple (ws.map wD)), .im (wD s), .un, .un] = some (.list ((ws.map fun w => gp w s).map .int)) := by
    simp -implicitDefEqProofs
    rw [lcL_all (g := fun w => .int (gp w s)) (by simp) (fun w hw => by
      have e7 := e_gap_of w s (okW_len (hws.2 w hw)) (okW_len hs)
      simp [e7]), Option.bind_some, lcB_small (by simp; omega)]
    rfl
  unfold haF
  generalize lm (ws.map fun w => gp w s) = m at *
  have c2 : fLc (fI (vF 0)) (sN 3) (fT (f2 eqD (fB (Ph_gap_of) (aCons (vF 3) (aCons (vF 1) (aNil)))) (vF 2))) (vF 3) [3] [.im (.tuple (ws.map wD)), .im (wD s), .im (.int m), .un] = some (.list ((ws.filter fun w => decide (gp w s = m)).map wD)) := by
    simp -implicitDefEqProofs
    rw [lcL_map (p := fun w => decide (gp w s = m)) (g := wD) (fun w hw => by
      have e7 := e_gap_of w s (okW_len (hws.2 w hw)) (okW_len hs)
      by_cases c : gp w s = m <;> simp [e7, c]) (fun w hw hq => by simp), Option.bind_some, lcB_small (by
        have : (ws.filter fun w => decide (gp w s = m)).length ≤ ws.length := List.length_filter_le ..
        simp only [List.length_map]; omega)]
  generalize (ws.map fun w => gp w s).map PyData.int = GL at *
  generalize (ws.filter fun w => decide (gp w s = m)).map wD = FL at *
  simp -implicitDefEqProofs [Ph_heard_as, b_heard_as, e1, e_need_t, e_to_word s hs, e_need_w, ↓c1, mn, ↓c2]
/-! starts -/
def smL (ws : List W) (hs : List (Option W)) : List (Int × W) := ws.map fun w => ((floorF w hs).sum, w)
theorem e_nearest (ws : List W) (hs : List (Option W)) (hws : okS ws) (hp : ws.Pairwise (fun a b => wlt a b = true)) (hh : okH hs) (d : D) (hd : d = .tuple (hs.map oD) ∨ d = .list (hs.map oD)) :
    Ph_nearest_start [.tuple (ws.map wD), d] = some (pW (bsW (smL ws hs))) := by
  have hlen := line_ge
  have e1 := e_to_words ws hws.1 hws.2 (hso_of hp) _ (.inl rfl)
  have e2 := e_to_heard hs hh d hd
  have hww := hws.1
  have hne : smL ws hs ≠ [] := fun z => by
    have := List.map_eq_nil_iff.mp z
    rw [this] at hww
    simp at hww
  have mn := minA_pW hne
  have c1 : fLc (fI (vF 0)) (sN 2) (fYes) (fTup (aCons (fB sumD (aCons (fB (Ph_floor_of) (aCons (vF 2) (aCons (vF 1) (aNil)))) (aNil))) (aCons (vF 2) (aNil)))) [2] [.im (.tuple (ws.map wD)), .im (.tuple (hs.map oD)), .un] = some (.list ((smL ws hs).map pW)) := by
    simp -implicitDefEqProofs
    rw [lcL_all (g := fun w => pW ((floorF w hs).sum, w)) (by simp) (fun w hw => by
      have e7 := e_floor_of w hs (hws.2 w hw) hh
      simp [e7, pW]), Option.bind_some, lcB_small (by simp; omega)]
    unfold smL
    rw [List.map_map]
    rfl
  generalize (smL ws hs).map pW = SL at *
  simp -implicitDefEqProofs [Ph_nearest_start, b_nearest_start, e1, e_need_t, e2, ↓c1, mn]
theorem e_started (ws : List W) (hs : List (Option W)) (m : Int) (hws : okS ws) (hp : ws.Pairwise (fun a b => wlt a b = true)) (hh : okH hs) (hm : 0 ≤ m ∧ m ≤ 80) :
    Ph_started [.tuple (ws.map wD), .tuple (hs.map oD), .int m] = some (.tuple (((smL ws hs).filter fun p => decide (p.1 ≤ m)).map fun p => wD p.2)) := by
  have hlen := line_ge
  have e1 := e_to_words ws hws.1 hws.2 (hso_of hp) _ (.inl rfl)
  have e2 := e_to_heard hs hh _ (.inl rfl)
  have hww := hws.1
  have c1 : fLc (fI (vF 0)) (sN 3) (fT (f2 leD (fB sumD (aCons (fB (Ph_floor_of) (aCons (vF 3) (aCons (vF 1) (aNil)))) (aNil))) (vF 2))) (vF 3) [3] [.im (.tuple (ws.map wD)), .im (.tuple (hs.map oD)), .im (.int m), .un] = some (.list (((smL ws hs).filter fun p => decide (p.1 ≤ m)).map fun p => wD p.2)) := by
    simp -implicitDefEqProofs
    rw [lcL_map (p := fun w => decide ((floorF w hs).sum ≤ m)) (g := wD) (fun w hw => by
      have e7 := e_floor_of w hs (hws.2 w hw) hh
      simp [e7]) (fun w hw hq => by simp), Option.bind_some, lcB_small (by
        have : (ws.filter fun w => decide ((floorF w hs).sum ≤ m)).length ≤ ws.length := List.length_filter_le ..
        simp only [List.length_map]; omega)]
    unfold smL
    rw [List.filter_map, List.map_map]
    rfl
  generalize ((smL ws hs).filter fun p => decide (p.1 ≤ m)).map (fun p => wD p.2) = SL at *
  simp -implicitDefEqProofs [Ph_started, b_started, e1, e_need_t, e2, e_need_within _ _ _ _ hm, ↓c1]
end Hd
end

/-! part: K36p -/
section
set_option Elab.async false
set_option linter.all false
set_option maxRecDepth 100000
set_option maxHeartbeats 400000
namespace Hd
open PySem PySem.Spec Q
/-! the longest row of letters that both have -/
def lcR (b : W) (row : Nat → Int) (c : Fin 3) : Nat → Int
  | 0 => 0
  | j + 1 => if c = b.getD j 0 then row j + 1 else max (row (j + 1)) (lcR b row c j)
def RF (f : Nat → Int) (n : Nat) : List D := (List.range (n + 1)).map fun j => .int (f j)
theorem RF_len (f : Nat → Int) (n : Nat) : (RF f n).length = n + 1 := by simp [RF]
theorem RF_at (f : Nat → Int) {k n : Nat} (h : k ≤ n) : L2.atI (RF f n) (k : Int) = some (.int (f k)) := by
  unfold RF
  have := at_mk (mk := fun (j : Nat) => PyData.int (f j)) (List.range (n + 1)) (k := k) 0 (by simp; omega)
  rw [this]
  have hk : k < n + 1 := by omega
  simp [hk]
theorem RF_at1 (f : Nat → Int) {k n : Nat} (h : k + 1 ≤ n) : L2.atI (RF f n) ((k : Int) + 1) = some (.int (f (k + 1))) := by
  rw [show (k : Int) + 1 = ((k + 1 : Nat) : Int) by omega]
  exact RF_at f h
theorem RF_last (f : Nat → Int) (n : Nat) : L2.atI (RF f n) (-1) = some (.int (f n)) := by
  unfold RF
  have := at_neg (mk := fun (j : Nat) => PyData.int (f j)) (List.range (n + 1)) 0 (by simp)
  rw [this]
  simp [List.range_succ]
theorem RF_s (f : Nat → Int) (k : Nat) : RF f k ++ [.int (f (k + 1))] = RF f (k + 1) := by
  unfold RF
  rw [List.range_succ (n := k + 1), List.map_append]
  rfl
theorem sh_in (a b : W) (c : Fin 3) (f : Nat → Int) (k : Nat) (hb : b.length ≤ 1000) (hk : k < b.length) (s5 s6 : Sl) :
    turnD (sT 2 (sCons (sN 5) (sCons (sN 6) sNil))) L_shared_1 (.tuple [.int (k : Nat), sgn (b.getD k 0)]) [.im (wD a), .im (wD b), .im (.list (RF f b.length)), .im (sgn c), .ow (.list (RF (lcR b f c) k)), s5, s6] =
      some (.nx [.im (wD a), .im (wD b), .im (.list (RF f b.length)), .im (sgn c), .ow (.list (RF (lcR b f c) (k + 1))), .im (.int (k : Nat)), .im (sgn (b.getD k 0))]) := by
  have hl := line_ge
  have e1 := RF_at f (n := b.length) (k := k) (by omega)
  have e2 := RF_at1 f (n := b.length) (k := k) (by omega)
  have e3 := RF_at (lcR b f c) (n := k) (k := k) (by omega)
  have e5 : (RF (lcR b f c) k).length < sizeLine := by rw [RF_len]; omega
  have e6 := RF_s (lcR b f c) k
  rw [← e6, lcR]
  by_cases h : c = b.getD k 0
  · rw [if_pos h, ← h]
    simp -implicitDefEqProofs [L_shared_1, sgn_eq, e1, e5]
  · rw [if_neg h]
    generalize b.getD k 0 = d at *
    simp -implicitDefEqProofs [L_shared_1, sgn_eq, e2, e3, e5, h]
theorem lsh_in (a b : W) (c : Fin 3) (f : Nat → Int) (k : Nat) (hb : b.length ≤ 1000) (hk : k < b.length) (s5 : Sl) :
    turnD (sN 5) L__law_shared_1 (.int (k : Nat)) [.im (wD a), .im (wD b), .im (.list (RF f b.length)), .im (sgn c), .ow (.list (RF (lcR b f c) k)), s5] =
      some (.nx [.im (wD a), .im (wD b), .im (.list (RF f b.length)), .im (sgn c), .ow (.list (RF (lcR b f c) (k + 1))), .im (.int (k : Nat))]) := by
  have hl := line_ge
  have e0 := ix_w b k hk hb
  have e1 := RF_at f (n := b.length) (k := k) (by omega)
  have e2 := RF_at1 f (n := b.length) (k := k) (by omega)
  have e3 := RF_at (lcR b f c) (n := k) (k := k) (by omega)
  have e5 : (RF (lcR b f c) k).length < sizeLine := by rw [RF_len]; omega
  have e6 := RF_s (lcR b f c) k
  rw [← e6, lcR]
  by_cases h : c = b.getD k 0
  · rw [if_pos h]
    rw [← h] at e0
    simp -implicitDefEqProofs [L__law_shared_1, e0, sgn_eq, e1, e5]
  · rw [if_neg h]
    have h' : ¬ b.getD k 0 = c := fun z => h z.symm
    generalize b.getD k 0 = d at *
    have hm : max (lcR b f c k) (f (k + 1)) = max (f (k + 1)) (lcR b f c k) := Int.max_comm ..
    simp -implicitDefEqProofs [L__law_shared_1, e0, sgn_eq, e2, e3, e5, h', hm]
def shF (a b : W) : Nat → Int := a.foldl (lcR b) fun _ => 0
theorem walk_w (w : W) : walkD (wD w) = some (w.map sgn) := by
  rw [← signs_w]; rfl
theorem rep_0 (n : Nat) (h : n ≤ 1000) : repLD (.list [.int 0]) (.int ((n : Int) + 1)) = some (.list (RF (fun _ => 0) n)) := by
  have := rep_1 (.int 0) (n + 1) (by omega)
  rw [show ((n + 1 : Nat) : Int) = (n : Int) + 1 by omega] at this
  rw [this]
  refine congrArg some (congrArg PyData.list (List.ext_getElem (by simp [RF]) ?_))
  intro i h1 h2
  simp [RF]
theorem e_shared (a b : W) (ha : okW a) (hb : okW b) : Ph_shared [wD a, wD b] = some (.int (shF a b b.length)) := by
  have hbl := okW_len hb
  have hr := rep_0 b.length hbl
  have eb := lenD_w b hbl
  have ebs := enumS_w b
  simp -implicitDefEqProofs [Ph_shared, b_shared, e_to_word a ha, e_to_word b hb, e_need_w, eb, hr, walk_w]
  obtain ⟨ρ', q1, x3, x4, x5, x6, q2⟩ := forL_all (step := turnD (sN 3) L_shared_2) (xs := a) (mk := sgn)
    (fun pre (ρ : Rho) => ∃ x3 x4 x5 x6, ρ = [.im (wD a), .im (wD b), .im (.list (RF (shF pre b) b.length)), x3, x4, x5, x6])
    [.im (wD a), .im (wD b), .im (.list (RF (fun _ => 0) b.length)), .un, .un, .un, .un] ⟨_, _, _, _, rfl⟩ (by
    rintro pre post ρ c ⟨z3, z4, z5, z6, rfl⟩ hx
    have hs : shF (pre ++ [c]) b = lcR b (shF pre b) c := by
      unfold shF
      rw [List.foldl_append]
      rfl
    rw [hs]
    generalize shF pre b = f at *
    obtain ⟨ρ2, h1, x5, x6, h2⟩ := forL_all (step := turnD (sT 2 (sCons (sN 5) (sCons (sN 6) sNil))) L_shared_1) (xs := List.range b.length) (mk := fun i => .tuple [.int (i : Nat), sgn (b.getD i 0)])
      (fun pre (ρ : Rho) => ∃ x5 x6, ρ = [.im (wD a), .im (wD b), .im (.list (RF f b.length)), .im (sgn c), .ow (.list (RF (lcR b f c) pre.length)), x5, x6])
      [.im (wD a), .im (wD b), .im (.list (RF f b.length)), .im (sgn c), .ow (.list (RF (lcR b f c) 0)), z5, z6] ⟨_, _, rfl⟩ (by
      rintro pre post ρ k ⟨y5, y6, rfl⟩ hx
      obtain ⟨g1, g2, g3⟩ := range_split hx
      subst g1
      refine ⟨_, .inl (sh_in a b c f pre.length hbl g2 y5 y6), ?_⟩
      rw [List.length_append]
      exact ⟨_, _, rfl⟩)
    subst h2
    rw [List.length_range] at h1
    have h0 : RF (lcR b f c) 0 = [.int 0] := rfl
    rw [h0] at h1
    refine ⟨[.im (wD a), .im (wD b), .im (.list (RF (lcR b f c) b.length)), .im (sgn c), .im (.list (RF (lcR b f c) b.length)), x5, x6], .inl ?_, _, _, _, _, rfl⟩
    simp -implicitDefEqProofs [L_shared_2, ebs]
    simp only [← List.getD_eq_getElem?_getD]
    rw [h1]
    rfl)
  subst q2
  rw [q1]
  simp -implicitDefEqProofs [RF_last]
theorem e_law_shared (a b : W) (hbl : b.length ≤ 1000) : Ph__law_shared [wD a, wD b] = some (.int (shF a b b.length)) := by
  have hr := rep_0 b.length hbl
  have eb := lenD_w b hbl
  have r2 := rg1_n (k := b.length) (by omega)
  simp -implicitDefEqProofs [Ph__law_shared, b__law_shared, eb, hr, walk_w]
  obtain ⟨ρ', q1, x3, x4, x5, q2⟩ := forL_all (step := turnD (sN 3) L__law_shared_2) (xs := a) (mk := sgn)
    (fun pre (ρ : Rho) => ∃ x3 x4 x5, ρ = [.im (wD a), .im (wD b), .im (.list (RF (shF pre b) b.length)), x3, x4, x5])
    [.im (wD a), .im (wD b), .im (.list (RF (fun _ => 0) b.length)), .un, .un, .un] ⟨_, _, _, rfl⟩ (by
    rintro pre post ρ c ⟨z3, z4, z5, rfl⟩ hx
    have hs : shF (pre ++ [c]) b = lcR b (shF pre b) c := by
      unfold shF
      rw [List.foldl_append]
      rfl
    rw [hs]
    generalize shF pre b = f at *
    obtain ⟨ρ2, h1, x5, h2⟩ := forL_all (step := turnD (sN 5) L__law_shared_1) (xs := List.range b.length) (mk := fun i => .int (i : Nat))
      (fun pre (ρ : Rho) => ∃ x5, ρ = [.im (wD a), .im (wD b), .im (.list (RF f b.length)), .im (sgn c), .ow (.list (RF (lcR b f c) pre.length)), x5])
      [.im (wD a), .im (wD b), .im (.list (RF f b.length)), .im (sgn c), .ow (.list (RF (lcR b f c) 0)), z5] ⟨_, rfl⟩ (by
      rintro pre post ρ k ⟨y5, rfl⟩ hx
      obtain ⟨g1, g2, g3⟩ := range_split hx
      subst g1
      refine ⟨_, .inl (lsh_in a b c f pre.length hbl g2 y5), ?_⟩
      rw [List.length_append]
      exact ⟨_, rfl⟩)
    subst h2
    rw [List.length_range] at h1
    have h0 : RF (lcR b f c) 0 = [.int 0] := rfl
    rw [h0] at h1
    refine ⟨[.im (wD a), .im (wD b), .im (.list (RF (lcR b f c) b.length)), .im (sgn c), .im (.list (RF (lcR b f c) b.length)), x5], .inl ?_, _, _, _, rfl⟩
    simp -implicitDefEqProofs [L__law_shared_2, eb, r2]
    rw [h1]
    rfl)
  subst q2
  rw [q1]
  simp -implicitDefEqProofs [RF_last]
end Hd
end

/-! part: K36q -/
section
set_option Elab.async false
set_option linter.all false
set_option maxRecDepth 100000
set_option maxHeartbeats 400000
namespace Hd
open PySem PySem.Spec Q
/-! texts by their letters -/
def zD (l : List Nat) : D := .str ⟨l.toArray⟩
theorem wD_z (w : W) : wD w = zD (w.map lc) := rfl
theorem lenD_z (l : List Nat) (h : l.length ≤ 1000) : lenD [zD l] = some (.int (l.length : Nat)) := by
  have hl := line_ge
  have e : (⟨l.toArray⟩ : Str).length = l.length := by show l.toArray.size = _; simp
  rw [zD, lenD, if_pos (by rw [e]; omega), e]
theorem walk_z (l : List Nat) : walkD (zD l) = some (l.map fun c => .str ⟨#[c]⟩) := by
  show some (signsD ⟨l.toArray⟩) = _
  unfold signsD
  rw [List.toList_toArray]
theorem add_z (a b : List Nat) (h : a.length + b.length ≤ 1000) : addD (zD a) (zD b) = some (zD (a ++ b)) := by
  have hl := line_ge
  have e : ∀ l : List Nat, (⟨l.toArray⟩ : Str).length = l.length := fun l => by show l.toArray.size = _; simp
  have e2 : ((⟨a.toArray⟩ : Str) ++ ⟨b.toArray⟩) = ⟨(a ++ b).toArray⟩ := by
    show (⟨a.toArray ++ b.toArray⟩ : Str) = _
    simp
  show (if (⟨a.toArray⟩ : Str).length + (⟨b.toArray⟩ : Str).length ≤ sizeLine then some (PyData.str ((⟨a.toArray⟩ : Str) ++ ⟨b.toArray⟩)) else none) = _
  rw [if_pos (by rw [e, e]; omega), e2]
  rfl
theorem cut_z1 (l : List Nat) (p : Nat) (hp : p ≤ l.length) (h : l.length ≤ 1000) : cutD (zD l) none (some (p : Int)) = some (zD (l.take p)) := by
  have hl := line_ge
  have e : (⟨l.toArray⟩ : Str).length = l.length := by show l.toArray.size = _; simp
  show (if (⟨l.toArray⟩ : Str).length ≤ sizeLine then some (PyData.str (L2.cutS ⟨l.toArray⟩ none (some (p : Int)))) else none) = _
  rw [if_pos (by rw [e]; omega)]
  unfold L2.cutS
  rw [e]
  have h0 : ¬ (p : Int) < 0 := by omega
  unfold HT.sIx
  simp only [if_neg h0, List.drop_zero, Nat.sub_zero, Int.toNat_natCast, Nat.min_eq_left hp, List.toList_toArray]
  rfl
theorem cut_z2 (l : List Nat) (p : Nat) (hp : p ≤ l.length) (h : l.length ≤ 1000) : cutD (zD l) (some (p : Int)) none = some (zD (l.drop p)) := by
  have hl := line_ge
  have e : (⟨l.toArray⟩ : Str).length = l.length := by show l.toArray.size = _; simp
  show (if (⟨l.toArray⟩ : Str).length ≤ sizeLine then some (PyData.str (L2.cutS ⟨l.toArray⟩ (some (p : Int)) none)) else none) = _
  rw [if_pos (by rw [e]; omega)]
  unfold L2.cutS
  rw [e]
  have h0 : ¬ (p : Int) < 0 := by omega
  unfold HT.sIx
  simp only [if_neg h0, Int.toNat_natCast, Nat.min_eq_left hp, List.toList_toArray]
  rw [List.take_of_length_le (by simp)]
  rfl
theorem e_is_nameZ (l : List Nat) (h : 1 ≤ l.length ∧ l.length ≤ 8) (ha : ∀ c ∈ l, isT (sgnD id (.str ⟨#[c]⟩) (.str "abcdefghijklmnopqrstuvwxyz")) = true) : Ph_is_name [zD l] = some (.bool true) := by
  obtain ⟨h1, h2⟩ := h
  have l1 := lenD_z l (by omega)
  have isi : isiD "str" (zD l) = some (.bool true) := rfl
  have c1 : (1 : Int) ≤ (l.length : Nat) := by omega
  have c2 : ((l.length : Nat) : Int) ≤ 8 := by omega
  simp -implicitDefEqProofs [Ph_is_name, b_is_name, isi, l1, walk_z, c1, c2]
  rw [lcL_all (g := fun _ => .bool true) (by simp) (fun c hc => by simp [isT_eq (ha c hc)]), Option.bind_some, lcB_small (by simp; omega)]
  have e0 : (l.map fun _ => PyData.bool true) = (l.map fun _ => true).map .bool := by rw [List.map_map]; rfl
  simp [e0]
/-! slips -/
abbrev Sp := Fin 3 × Nat × Fin 3
def soD : Fin 3 → D
  | 0 => .str "out"
  | 1 => .str "in"
  | 2 => .str "change"
def lx (c : Fin 3) : Nat := if c = 0 then 120 else if c = 1 then 121 else 122
def leL (s : Sp) : D := if s.1 = 0 then .none else zD [lx s.2.2]
def sp3 (s : Sp) : List D := [soD s.1, .int (s.2.1 : Nat), leL s]
def spT (s : Sp) : D := .tuple (sp3 s)
def spL (s : Sp) : D := .list (sp3 s)
theorem so_out : ∀ k : Fin 3, eqD (soD k) (.str "out") = some (.bool (decide (k = 0)))
  | 0 => by with_unfolding_all rfl
  | 1 => by with_unfolding_all rfl
  | 2 => by with_unfolding_all rfl
theorem so_in : ∀ k : Fin 3, eqD (soD k) (.str "in") = some (.bool (decide (k = 1)))
  | 0 => by with_unfolding_all rfl
  | 1 => by with_unfolding_all rfl
  | 2 => by with_unfolding_all rfl
theorem so_ch : ∀ k : Fin 3, eqD (soD k) (.str "change") = some (.bool (decide (k = 2)))
  | 0 => by with_unfolding_all rfl
  | 1 => by with_unfolding_all rfl
  | 2 => by with_unfolding_all rfl
theorem so_eq : ∀ a b : Fin 3, eqD (soD a) (soD b) = some (.bool (decide (a = b)))
  | a, 0 => so_out a
  | a, 1 => so_in a
  | a, 2 => so_ch a
theorem so_isi (b : String) : ∀ k : Fin 3, isiD b (soD k) = isiD b (.str "")
  | 0 => rfl
  | 1 => rfl
  | 2 => rfl
theorem so_nn : ∀ k : Fin 3, isND (soD k) .none = some (.bool false)
  | 0 => rfl
  | 1 => rfl
  | 2 => rfl
theorem lx_in : ∀ c : Fin 3, isT (sgnD id (.str ⟨#[lx c]⟩) (.str "abcdefghijklmnopqrstuvwxyz")) = true := by decide +kernel
theorem told_so (n : Nat) (a b : Fin 3) : Ph_is_told (n + 1) [soD a, soD b] = some (.bool (decide (a = b))) := by
  have e1 : isiD "bool" (.str "") = some (.bool false) := rfl
  have e2 : isiD "int" (.str "") = some (.bool false) := rfl
  have e3 : isiD "str" (.str "") = some (.bool true) := rfl
  simp -implicitDefEqProofs [Ph_is_told, b_is_told, so_nn, so_isi, e1, e2, e3, so_eq]
theorem e_member_so (k : Fin 3) : Ph_to_member [soD k, .tuple [.str "out", .str "in", .str "change"]] = some (soD k) := by
  have e := fun b => told_so 3 k b
  have h0 : PyData.tuple [.str "out", .str "in", .str "change"] = .tuple [soD 0, soD 1, soD 2] := rfl
  rw [h0]
  match k with
  | 0 => simp -implicitDefEqProofs [Ph_to_member, b_to_member, L_to_member_1, e, forL]
  | 1 => simp -implicitDefEqProofs [Ph_to_member, b_to_member, L_to_member_1, e, forL]
  | 2 => simp -implicitDefEqProofs [Ph_to_member, b_to_member, L_to_member_1, e, forL]
/-! one slip -/
def apL (l : List Nat) (s : Sp) : List Nat := if s.1 = 0 then l.take s.2.1 ++ l.drop (s.2.1 + 1) else l.take s.2.1 ++ [lx s.2.2] ++ l.drop (if s.1 = 2 then s.2.1 + 1 else s.2.1)
def okP (l : List Nat) (s : Sp) : Prop := if s.1 = 1 then s.2.1 ≤ l.length else s.2.1 < l.length
theorem ap_len (l : List Nat) (s : Sp) (h : okP l s) : (apL l s).length = if s.1 = 0 then l.length - 1 else if s.1 = 1 then l.length + 1 else l.length := by
  obtain ⟨k, p, c⟩ := s
  unfold okP at h
  unfold apL
  dsimp only at h ⊢
  match k, h with
  | 0, h =>
    have h : p < l.length := h
    simp
    omega
  | 1, h =>
    have h : p ≤ l.length := h
    simp
    omega
  | 2, h =>
    have h : p < l.length := h
    simp
    omega
theorem ix_0 (s : Sp) : ixD (spT s) (.int 0) = some (soD s.1) := rfl
theorem ix_1 (s : Sp) : ixD (spT s) (.int 1) = some (.int (s.2.1 : Nat)) := rfl
theorem ix_2 (s : Sp) : ixD (spT s) (.int 2) = some (leL s) := rfl
theorem e_is_slip (l : List Nat) (s : Sp) (h : okP l s) (hl : l.length ≤ 500) : Ph_is_slip [zD l, spT s] = some (.bool true) := by
  obtain ⟨k, p, c⟩ := s
  have h0 := ix_0 (k, p, c)
  have h1 := ix_1 (k, p, c)
  have h2 := ix_2 (k, p, c)
  have l1 := lenD_z l (by omega)
  have e1 := e_member_so k
  have e2 := e_is_nameZ [lx c] (by simp) (fun x hx => by rw [List.mem_singleton.mp hx]; exact lx_in c)
  have l2 := lenD_z [lx c] (by simp)
  unfold okP at h
  dsimp only at h h0 h1 h2
  generalize hsp : spT (k, p, c) = sp at *
  match k, h, h0, h2, e1 with
  | 0, h, h0, h2, e1 =>
    have h : p < l.length := h
    have h2 : ixD sp (.int 2) = some .none := h2
    have g1 : (p : Int) ≤ (l.length : Int) - 1 := by omega
    have g0 : (0 : Int) ≤ p := by omega
    have q1 := so_out 0
    have q2 := so_in 0
    have q3 := so_nn 0
    generalize soD 0 = so at *
    generalize zD l = z at *
    simp -implicitDefEqProofs [Ph_is_slip, b_is_slip, h0, h1, h2, e1, q1, q2, q3, l1, e_is_within, g1, g0]
  | 1, h, h0, h2, e1 =>
    have h : p ≤ l.length := h
    have h2 : ixD sp (.int 2) = some (zD [lx c]) := h2
    have g1 : (p : Int) ≤ (l.length : Int) := by omega
    have g0 : (0 : Int) ≤ p := by omega
    have q1 := so_out 1
    have q2 := so_in 1
    have q3 := so_nn 1
    generalize zD [lx c] = y at *
    generalize soD 1 = so at *
    generalize zD l = z at *
    simp -implicitDefEqProofs [Ph_is_slip, b_is_slip, h0, h1, h2, e1, q1, q2, q3, l1, e_is_within, g1, g0, e2, l2]
  | 2, h, h0, h2, e1 =>
    have h : p < l.length := h
    have h2 : ixD sp (.int 2) = some (zD [lx c]) := h2
    have g1 : (p : Int) ≤ (l.length : Int) - 1 := by omega
    have g0 : (0 : Int) ≤ p := by omega
    have q1 := so_out 2
    have q2 := so_in 2
    have q3 := so_nn 2
    generalize zD [lx c] = y at *
    generalize soD 2 = so at *
    generalize zD l = z at *
    simp -implicitDefEqProofs [Ph_is_slip, b_is_slip, h0, h1, h2, e1, q1, q2, q3, l1, e_is_within, g1, g0, e2, l2]
theorem e_slipped (l : List Nat) (s : Sp) (h : okP l s) (hl : l.length ≤ 500) : Ph_slipped [zD l, spT s] = some (zD (apL l s)) := by
  obtain ⟨k, p, c⟩ := s
  unfold okP at h
  unfold apL spT sp3 leL
  dsimp only at h ⊢
  match k, h with
  | 0, h =>
    have h : p < l.length := h
    have c1 := cut_z1 l p (by omega) (by omega)
    have c2 := cut_z2 l (p + 1) (by omega) (by omega)
    rw [show ((p + 1 : Nat) : Int) = (p : Int) + 1 by omega] at c2
    have a1 := add_z (l.take p) (l.drop (p + 1)) (by simp; omega)
    have q1 := so_out 0
    rw [if_pos rfl, if_pos rfl]
    generalize soD 0 = so at *
    generalize zD (l.take p ++ l.drop (p + 1)) = r at *
    generalize zD (l.take p) = r1 at *
    generalize zD (l.drop (p + 1)) = r2 at *
    generalize zD l = z at *
    simp -implicitDefEqProofs [Ph_slipped, b_slipped, q1, c1, c2, a1]
  | 1, h =>
    have h : p ≤ l.length := h
    have c1 := cut_z1 l p (by omega) (by omega)
    have c2 := cut_z2 l p (by omega) (by omega)
    have a1 := add_z (l.take p) [lx c] (by simp; omega)
    have a2 := add_z (l.take p ++ [lx c]) (l.drop p) (by simp; omega)
    have q1 := so_out 1
    have q2 := so_ch 1
    rw [if_neg (by decide), if_neg (by decide), if_neg (by decide)]
    generalize soD 1 = so at *
    generalize zD (l.take p ++ [lx c] ++ l.drop p) = r at *
    generalize zD (l.take p ++ [lx c]) = r0 at *
    generalize zD (l.take p) = r1 at *
    generalize zD (l.drop p) = r2 at *
    generalize zD [lx c] = y at *
    generalize zD l = z at *
    simp -implicitDefEqProofs [Ph_slipped, b_slipped, q1, q2, c1, c2, a1, a2]
  | 2, h =>
    have h : p < l.length := h
    have c1 := cut_z1 l p (by omega) (by omega)
    have c2 := cut_z2 l (p + 1) (by omega) (by omega)
    rw [show ((p + 1 : Nat) : Int) = (p : Int) + 1 by omega] at c2
    have a1 := add_z (l.take p) [lx c] (by simp; omega)
    have a2 := add_z (l.take p ++ [lx c]) (l.drop (p + 1)) (by simp; omega)
    have q1 := so_out 2
    have q2 := so_ch 2
    rw [if_neg (by decide), if_neg (by decide), if_pos rfl]
    generalize soD 2 = so at *
    generalize zD (l.take p ++ [lx c] ++ l.drop (p + 1)) = r at *
    generalize zD (l.take p ++ [lx c]) = r0 at *
    generalize zD (l.take p) = r1 at *
    generalize zD (l.drop (p + 1)) = r2 at *
    generalize zD [lx c] = y at *
    generalize zD l = z at *
    simp -implicitDefEqProofs [Ph_slipped, b_slipped, q1, q2, c1, c2, a1, a2]
end Hd
end

/-! part: K36r -/
section
set_option Elab.async false
set_option linter.all false
set_option maxRecDepth 100000
set_option maxHeartbeats 400000
namespace Hd
open PySem PySem.Spec Q
def okC : List Nat → List Sp → Prop
  | _, [] => True
  | l, s :: t => okP l s ∧ okC (apL l s) t
theorem okC_split : ∀ (pre : List Sp) (l : List Nat) (s : Sp) (post : List Sp), okC l (pre ++ s :: post) → okP (pre.foldl apL l) s ∧ (pre.foldl apL l).length ≤ l.length + pre.length
  | [], l, s, post, h => ⟨h.1, Nat.le_refl _⟩
  | a :: pre, l, s, post, h => by
    obtain ⟨h1, h2⟩ := h
    obtain ⟨a1, a2⟩ := okC_split pre (apL l a) s post h2
    refine ⟨a1, ?_⟩
    rw [List.foldl_cons]
    have := ap_len l a h1
    simp only [List.length_cons]
    split at this
    · omega
    · split at this <;> omega
theorem okC_snoc : ∀ (ss : List Sp) (l : List Nat) (s : Sp), okC l ss → okP (ss.foldl apL l) s → okC l (ss ++ [s])
  | [], l, s, _, h => ⟨h, trivial⟩
  | a :: ss, l, s, h, h2 => ⟨h.1, okC_snoc ss _ s h.2 h2⟩
def rdS (st : List Nat × List (List Nat)) (s : Sp) : List Nat × List (List Nat) := (apL st.1 s, st.2 ++ [apL st.1 s])
def rdN (l : List Nat) (ss : List Sp) : List Nat × List (List Nat) := ss.foldl rdS (l, [l])
theorem rdN_s (l : List Nat) (ss : List Sp) (s : Sp) : rdN l (ss ++ [s]) = rdS (rdN l ss) s := by unfold rdN; rw [List.foldl_append]; rfl
theorem rd_props (l : List Nat) : ∀ (ss : List Sp) (st : List Nat × List (List Nat)), st.2.getLastD [] = st.1 → st.2 ≠ [] → (ss.foldl rdS st).1 = ss.foldl apL st.1 ∧ (ss.foldl rdS st).2.getLastD [] = (ss.foldl rdS st).1 ∧ (ss.foldl rdS st).2 ≠ [] ∧ (ss.foldl rdS st).2.length = st.2.length + ss.length
  | [], st, h, h2 => ⟨rfl, h, h2, rfl⟩
  | s :: ss, st, h, h2 => by
    rw [List.foldl_cons, List.foldl_cons]
    obtain ⟨a1, a2, a3, a4⟩ := rd_props l ss (rdS st s) (by simp [rdS]) (by simp [rdS])
    refine ⟨a1, a2, a3, ?_⟩
    rw [a4]
    simp [rdS]
    omega
theorem e_row3 (s : Sp) (m : D) (hm : m = spT s ∨ m = spL s) : Ph_to_row [m, .int 3, .int 3] = some (spT s) := by
  rcases hm with rfl | rfl
  · exact e_to_row_t _ 3 3 (by simp [sp3])
  · exact e_to_row_l _ 3 3 (by simp [sp3])
theorem spT_nn (s : Sp) : isND (spT s) .none = some (.bool false) := rfl
theorem e_told_on (l : List Nat) (ss : List Sp) (mk : Sp → D) (hmk : ∀ s, mk s = spT s ∨ mk s = spL s) (hl : l.length ≤ 100) (hs : ss.length ≤ 20) (hc : okC l ss) :
    Ph_told_on [zD l, .list (ss.map mk)] = some (.list ((rdN l ss).2.map zD)) := by
  have hlen := line_ge
  have e1 : Ph_to_row [.list (ss.map mk), .int 0, .int 20] = some (.tuple (ss.map mk)) := e_to_row_l _ 0 20 (by simp; omega)
  have e2 : isND (.tuple (ss.map mk)) .none = some (.bool false) := rfl
  simp -implicitDefEqProofs [Ph_told_on, b_told_on, e1, e2]
  obtain ⟨ρ', q1, x4, x5, q2⟩ := forL_all (step := turnD (sN 4) L_told_on_1) (xs := ss) (mk := mk)
    (fun pre (ρ : Rho) => ∃ x4 x5, ρ = [.im (zD l), .im (.list (ss.map mk)), .im (.tuple (ss.map mk)), .ow (.list ((rdN l pre).2.map zD)), x4, x5])
    [.im (zD l), .im (.list (ss.map mk)), .im (.tuple (ss.map mk)), .ow (.list [zD l]), .un, .un] ⟨_, _, rfl⟩ (by
    rintro pre post ρ s ⟨z4, z5, rfl⟩ hx
    rw [hx] at hc
    obtain ⟨h1, h2⟩ := okC_split pre l s post hc
    have hpl := split_len hx
    obtain ⟨p1, p2, p3, p4⟩ := rd_props l pre (l, [l]) rfl (by simp)
    rw [rdN_s]
    have hrd : pre.foldl rdS (l, [l]) = rdN l pre := rfl
    rw [hrd] at p1 p2 p3 p4
    dsimp only at p1 p4
    rw [← p1] at h1 h2
    generalize rdN l pre = st at *
    obtain ⟨cur, T⟩ := st
    dsimp only at p1 p2 p3 p4 h1 h2 ⊢
    have a1 := at_neg (mk := zD) T [] p3
    rw [p2] at a1
    have e3 := e_row3 s (mk s) (hmk s)
    have e4 := e_is_slip cur s h1 (by omega)
    have e5 := e_slipped cur s h1 (by omega)
    have e6 := spT_nn s
    have hT : (T.map zD).length < sizeLine := by simp at p4 ⊢; omega
    refine ⟨_, .inl ?_, .im (mk s), .im (spT s), rfl⟩
    unfold rdS
    rw [List.map_append, List.map_singleton]
    generalize mk s = ms at *
    generalize spT s = sp at *
    generalize zD (apL cur s) = z2 at *
    generalize zD cur = z1 at *
    generalize zD l = z0 at *
    generalize T.map zD = TD at *
    generalize ss.map mk = SM at *
    simp -implicitDefEqProofs [L_told_on_1, e3, e6, a1, e4, e5, hT])
  rw [q1]
  subst q2
  simp -implicitDefEqProofs
def okLn (l : List Nat) : Bool := decide (1 ≤ l.length) && decide (l.length ≤ 8)
def rnF (l : List Nat) (ss : List Sp) : D := if (rdN l ss).2.all okLn = true then zD (rdN l ss).1 else .none
theorem e_rounds (w : W) (hw : okW w) (ss : List Sp) (mk : Sp → D) (hmk : ∀ s, mk s = spT s ∨ mk s = spL s) (hs : ss.length ≤ 20) (hc : okC (w.map lc) ss) :
    Ph_rounds [wD w, .list (ss.map mk)] = some (rnF (w.map lc) ss) := by
  have hlen := line_ge
  have hwl : (w.map lc).length ≤ 4 := by rw [List.length_map]; exact hw.2
  have e1 := e_told_on (w.map lc) ss mk hmk (by omega) hs hc
  rw [← wD_z] at e1
  obtain ⟨p1, p2, p3, p4⟩ := rd_props (w.map lc) ss (w.map lc, [w.map lc]) rfl (by simp)
  have hrd : ss.foldl rdS (w.map lc, [w.map lc]) = rdN (w.map lc) ss := rfl
  rw [hrd] at p1 p2 p3 p4
  have hln : ∀ t ∈ (rdN (w.map lc) ss).2, t.length ≤ 100 := by
    have key : ∀ (ss : List Sp) (l : List Nat) (T : List (List Nat)) (n : Nat), okC l ss → l.length ≤ n → (∀ t ∈ T, t.length ≤ n + ss.length) → ∀ t ∈ (ss.foldl rdS (l, T)).2, t.length ≤ n + ss.length := by
      intro ss
      induction ss with
      | nil => intro l T n _ _ h; exact h
      | cons s ss ih =>
        intro l T n hc hl h
        rw [List.foldl_cons]
        have ha := ap_len l s hc.1
        have hal : (apL l s).length ≤ n + 1 := by
          split at ha
          · omega
          · split at ha <;> omega
        have := ih (apL l s) (T ++ [apL l s]) (n + 1) hc.2 hal (fun t ht => by
          rcases List.mem_append.mp ht with ht | ht
          · have := h t ht
            simp only [List.length_cons] at this
            omega
          · rw [List.mem_singleton.mp ht]; omega)
        intro t ht
        have := this t ht
        simp only [List.length_cons]
        omega
    intro t ht
    have := key ss (w.map lc) [w.map lc] 4 hc hwl (fun t ht => by rw [List.mem_singleton.mp ht]; omega) t ht
    omega
  unfold rnF
  generalize rdN (w.map lc) ss = st at *
  obtain ⟨cur, T⟩ := st
  dsimp only at p1 p2 p3 p4 hln ⊢
  have a1 := at_neg (mk := zD) T [] p3
  rw [p2] at a1
  have c1 : fLc (fI (vF 2)) (sN 3) (fYes) (f3 leD leD (cD (.int 1)) (fB lenD (aCons (vF 3) (aNil))) (cD (.int 8))) [3] [.im (wD w), .im (.list (ss.map mk)), .im (.list (T.map zD)), .un] = some (.list (T.map fun t => PyData.bool (okLn t))) := by
    generalize ss.map mk = SM at *
    simp -implicitDefEqProofs
    rw [lcL_all (g := fun t => .bool (okLn t)) (by simp) (fun t ht => by
      have l1 := lenD_z t (by have := hln t ht; omega)
      unfold okLn
      by_cases c : 1 ≤ t.length
      · have c1 : (1 : Int) ≤ (t.length : Nat) := by omega
        simp -implicitDefEqProofs [f3, l1, c1, c]
        omega
      · have c1 : ¬ (1 : Int) ≤ (t.length : Nat) := by omega
        simp -implicitDefEqProofs [f3, l1, c1, c]), Option.bind_some, lcB_small (by simp at p4 ⊢; omega)]
  have e3 : allD [.list (T.map fun t => PyData.bool (okLn t))] = some (.bool (T.all okLn)) := by
    simp
  have e4 : ∀ k, Ph_need [k, .list (T.map zD)] = some (.list (T.map zD)) := fun k => by
    have : isND (.list (T.map zD)) .none = some (.bool false) := rfl
    simp -implicitDefEqProofs [Ph_need, b_need, this]
  generalize T.map zD = TD at *
  generalize T.map (fun t => PyData.bool (okLn t)) = TB at *
  generalize T.all okLn = ok at *
  generalize ss.map mk = SM at *
  simp -implicitDefEqProofs [Ph_rounds, b_rounds, e_to_word w hw, e_need_w, e1, e4, ↓c1, e3, a1]
  cases ok <;> simp
theorem g3 (s : Sp) : itemsD (spT s) = some [soD s.1, .int (s.2.1 : Nat), leL s] := rfl
theorem lr_step (l : List Nat) (s : Sp) (g : Bool) (h : okP l s) (hl : l.length ≤ 100) (y1 y3 y4 y5 : Sl) :
    L__law_rounds_1 [.im (zD l), y1, .im (.bool g), .im (soD s.1), .im (.int (s.2.1 : Nat)), .im (leL s)] =
      some (.nx [.im (zD (apL l s)), y1, .im (.bool (g && okLn (apL l s))), .im (soD s.1), .im (.int (s.2.1 : Nat)), .im (leL s)]) := by
  have hal : (apL l s).length ≤ 500 := by
    have := ap_len l s h
    split at this
    · omega
    · split at this <;> omega
  have l1 := lenD_z (apL l s) (by omega)
  have hc : ∀ z, l1 = l1 → z = zD (apL l s) → (lenD [z] = some (.int ((apL l s).length : Nat))) := fun z _ hz => by rw [hz]; exact l1
  have hch : ∀ g : Bool, (fAnd (vF 2) (f3 leD leD (cD (.int 1)) (fB lenD (aCons (vF 0) (aNil))) (cD (.int 8)))) [.im (zD (apL l s)), y1, .im (.bool g), .im (soD s.1), .im (.int (s.2.1 : Nat)), .im (leL s)] = some (.bool (g && okLn (apL l s))) := fun g => by
    unfold okLn
    generalize (apL l s).length = n at *
    generalize zD (apL l s) = z at *
    generalize soD s.1 = so at *
    generalize leL s = le at *
    cases g with
    | false => simp -implicitDefEqProofs
    | true =>
      by_cases c : 1 ≤ n
      · have c1 : (1 : Int) ≤ (n : Nat) := by omega
        simp -implicitDefEqProofs [l1, c1, c]
        omega
      · have c1 : ¬ (1 : Int) ≤ (n : Nat) := by omega
        simp -implicitDefEqProofs [l1, c1, c]
  obtain ⟨k, p, c⟩ := s
  unfold okP at h
  dsimp only at h hch ⊢
  have hle : leL (k, p, c) = if k = 0 then .none else zD [lx c] := rfl
  have hapd : apL l (k, p, c) = if k = 0 then l.take p ++ l.drop (p + 1) else l.take p ++ [lx c] ++ l.drop (if k = 2 then p + 1 else p) := rfl
  match k, h with
  | 0, h =>
    have h : p < l.length := h
    have c1 := cut_z1 l p (by omega) (by omega)
    have c2 := cut_z2 l (p + 1) (by omega) (by omega)
    rw [show ((p + 1 : Nat) : Int) = (p : Int) + 1 by omega] at c2
    have a1 := add_z (l.take p) (l.drop (p + 1)) (by simp; omega)
    have q1 := so_out 0
    rw [if_pos rfl] at hapd
    rw [← hapd] at a1
    generalize okLn (apL l (0, p, c)) = ok at *
    generalize zD (apL l (0, p, c)) = r at *
    generalize leL (0, p, c) = le at *
    generalize soD 0 = so at *
    generalize zD (l.take p) = r1 at *
    generalize zD (l.drop (p + 1)) = r2 at *
    generalize zD l = z at *
    simp -implicitDefEqProofs [L__law_rounds_1, q1, c1, c2, a1, ↓hch]
  | 1, h =>
    have h : p ≤ l.length := h
    have c1 := cut_z1 l p (by omega) (by omega)
    have c2 := cut_z2 l p (by omega) (by omega)
    have a1 := add_z (l.take p) [lx c] (by simp; omega)
    have a2 := add_z (l.take p ++ [lx c]) (l.drop p) (by simp; omega)
    have q1 := so_out 1
    have q2 := so_in 1
    rw [if_neg (by decide), if_neg (by decide)] at hapd
    rw [← hapd] at a2
    rw [if_neg (by decide)] at hle
    rw [← hle] at a1
    generalize okLn (apL l (1, p, c)) = ok at *
    generalize zD (apL l (1, p, c)) = r at *
    generalize leL (1, p, c) = le at *
    generalize soD 1 = so at *
    generalize zD (l.take p ++ [lx c]) = r0 at *
    generalize zD (l.take p) = r1 at *
    generalize zD (l.drop p) = r2 at *
    generalize zD l = z at *
    simp -implicitDefEqProofs [L__law_rounds_1, q1, q2, c1, c2, a1, a2, ↓hch]
  | 2, h =>
    have h : p < l.length := h
    have c1 := cut_z1 l p (by omega) (by omega)
    have c2 := cut_z2 l (p + 1) (by omega) (by omega)
    rw [show ((p + 1 : Nat) : Int) = (p : Int) + 1 by omega] at c2
    have a1 := add_z (l.take p) [lx c] (by simp; omega)
    have a2 := add_z (l.take p ++ [lx c]) (l.drop (p + 1)) (by simp; omega)
    have q1 := so_out 2
    have q2 := so_in 2
    rw [if_neg (by decide), if_pos rfl] at hapd
    rw [← hapd] at a2
    rw [if_neg (by decide)] at hle
    rw [← hle] at a1
    generalize okLn (apL l (2, p, c)) = ok at *
    generalize zD (apL l (2, p, c)) = r at *
    generalize leL (2, p, c) = le at *
    generalize soD 2 = so at *
    generalize zD (l.take p ++ [lx c]) = r0 at *
    generalize zD (l.take p) = r1 at *
    generalize zD (l.drop (p + 1)) = r2 at *
    generalize zD l = z at *
    simp -implicitDefEqProofs [L__law_rounds_1, q1, q2, c1, c2, a1, a2, ↓hch]
theorem rd_all (l : List Nat) : ∀ (ss : List Sp), (rdN l (ss)).2.all okLn = (okLn l && (ss.foldl (fun (st : List Nat × Bool) s => (apL st.1 s, st.2 && okLn (apL st.1 s))) (l, true)).2) ∧ (ss.foldl (fun (st : List Nat × Bool) s => (apL st.1 s, st.2 && okLn (apL st.1 s))) (l, true)).1 = (rdN l ss).1 := by
  have key : ∀ (ss : List Sp) (cur : List Nat) (T : List (List Nat)) (g g0 : Bool), T.all okLn = (g0 && g) →
      (ss.foldl rdS (cur, T)).2.all okLn = (g0 && (ss.foldl (fun (st : List Nat × Bool) s => (apL st.1 s, st.2 && okLn (apL st.1 s))) (cur, g)).2) ∧ (ss.foldl (fun (st : List Nat × Bool) s => (apL st.1 s, st.2 && okLn (apL st.1 s))) (cur, g)).1 = (ss.foldl rdS (cur, T)).1 := by
    intro ss
    induction ss with
    | nil => intro cur T g g0 h; exact ⟨h, rfl⟩
    | cons s ss ih =>
      intro cur T g g0 h
      rw [List.foldl_cons, List.foldl_cons]
      refine ih (apL cur s) (T ++ [apL cur s]) (g && okLn (apL cur s)) g0 ?_
      rw [List.all_append, h]
      simp [Bool.and_assoc]
  intro ss
  exact key ss l [l] true (okLn l) (by simp)
theorem e_law_rounds (w : W) (hw : okW w) (ss : List Sp) (hs : ss.length ≤ 20) (hc : okC (w.map lc) ss) : Ph__law_rounds [wD w, .list (ss.map spT)] = some (rnF (w.map lc) ss) := by
  have hwl : (w.map lc).length ≤ 4 := by rw [List.length_map]; exact hw.2
  have hw1 : okLn (w.map lc) = true := by
    unfold okLn
    have := hw.1
    have := hw.2
    simp
    omega
  obtain ⟨r1, r2⟩ := rd_all (w.map lc) ss
  rw [hw1, Bool.true_and] at r1
  unfold rnF
  rw [r1]
  rw [wD_z]
  generalize hl0 : w.map lc = l at *
  simp -implicitDefEqProofs [Ph__law_rounds, b__law_rounds]
  obtain ⟨ρ', q1, x3, x4, x5, q2⟩ := forL_all (step := turnD (sT 3 (sCons (sN 3) (sCons (sN 4) (sCons (sN 5) sNil)))) L__law_rounds_1) (xs := ss) (mk := spT)
    (fun pre (ρ : Rho) => ∃ x3 x4 x5, ρ = [.im (zD (pre.foldl (fun (st : List Nat × Bool) s => (apL st.1 s, st.2 && okLn (apL st.1 s))) (l, true)).1), .im (.list (ss.map spT)), .im (.bool (pre.foldl (fun (st : List Nat × Bool) s => (apL st.1 s, st.2 && okLn (apL st.1 s))) (l, true)).2), x3, x4, x5])
    [.im (zD l), .im (.list (ss.map spT)), .im (.bool true), .un, .un, .un] ⟨_, _, _, rfl⟩ (by
    rintro pre post ρ s ⟨z3, z4, z5, rfl⟩ hx
    rw [hx] at hc
    obtain ⟨h1, h2⟩ := okC_split pre l s post hc
    have hpl := split_len hx
    have p1 := (rd_props l pre (l, [l]) rfl (by simp)).1
    have hrd : pre.foldl rdS (l, [l]) = rdN l pre := rfl
    rw [hrd] at p1
    have p2 := (rd_all l pre).2
    dsimp only at p1
    rw [← p1, ← p2] at h1 h2
    rw [List.foldl_append, List.foldl_cons, List.foldl_nil]
    generalize pre.foldl (fun (st : List Nat × Bool) s => (apL st.1 s, st.2 && okLn (apL st.1 s))) (l, true) = st at *
    obtain ⟨cur, g⟩ := st
    dsimp only at h1 h2 ⊢
    have st := lr_step cur s g h1 (by omega) (.im (.list (ss.map spT))) z3 z4 z5
    refine ⟨_, .inl ?_, .im (soD s.1), .im (.int (s.2.1 : Nat)), .im (leL s), rfl⟩
    rw [turnD_e]
    have hsT : sT 3 (sCons (sN 3) (sCons (sN 4) (sCons (sN 5) sNil))) (spT s) [.im (zD cur), .im (.list (ss.map spT)), .im (.bool g), z3, z4, z5] = some [.im (zD cur), .im (.list (ss.map spT)), .im (.bool g), .im (soD s.1), .im (.int (s.2.1 : Nat)), .im (leL s)] := rfl
    rw [hsT, Option.bind_some]
    exact st)
  rw [q1]
  subst q2
  rw [r2]
  generalize (ss.foldl (fun (st : List Nat × Bool) s => (apL st.1 s, st.2 && okLn (apL st.1 s))) (l, true)).2 = ok at *
  cases ok <;> simp -implicitDefEqProofs
end Hd
end

/-! part: K36s -/
section
set_option Elab.async false
set_option linter.all false
set_option maxRecDepth 100000
set_option maxHeartbeats 400000
namespace Hd
open PySem PySem.Spec Q
theorem so_at (i : Int) : ixD (.list [.str "out", .str "in", .str "change"]) (.int (i % 3)) = some (soD (lt3 i)) := by
  have h1 := Int.emod_nonneg i (show (3 : Int) ≠ 0 by decide)
  have h2 := Int.emod_lt_of_pos i (show (0 : Int) < 3 by decide)
  unfold lt3
  generalize i % 3 = j at *
  have : j = 0 ∨ j = 1 ∨ j = 2 := by omega
  rcases this with rfl | rfl | rfl <;> with_unfolding_all rfl
theorem lx_at (i : Int) : ixD (.str "xyz") (.int (i % 3)) = some (zD [lx (lt3 i)]) := by
  have h1 := Int.emod_nonneg i (show (3 : Int) ≠ 0 by decide)
  have h2 := Int.emod_lt_of_pos i (show (0 : Int) < 3 by decide)
  unfold lt3
  generalize i % 3 = j at *
  have : j = 0 ∨ j = 1 ∨ j = 2 := by omega
  rcases this with rfl | rfl | rfl <;> with_unfolding_all rfl
def mkK (n : Int) (sz : Nat) : Fin 3 := if sz > 0 then lt3 n else 1
def mkSl (n : Int) (sz : Nat) : Sp := (mkK n sz, (n / 3 % ((if mkK n sz = 1 then sz + 1 else sz : Nat) : Int)).toNat, lt3 (n / 12))
theorem mk_pos (n : Int) (sz : Nat) : 0 < (if mkK n sz = 1 then sz + 1 else sz : Nat) := by
  split
  · omega
  · rename_i h
    unfold mkK at h
    split at h
    · omega
    · exact absurd rfl h
theorem mk_ok (n : Int) (l : List Nat) : okP l (mkSl n l.length) := by
  have hp := mk_pos n l.length
  have h1 := Int.emod_nonneg (n / 3) (show (((if mkK n l.length = 1 then l.length + 1 else l.length : Nat)) : Int) ≠ 0 by omega)
  have h2 := Int.emod_lt_of_pos (n / 3) (show (0 : Int) < (((if mkK n l.length = 1 then l.length + 1 else l.length : Nat)) : Int) by omega)
  unfold okP mkSl
  dsimp only
  by_cases c : mkK n l.length = 1
  · rw [if_pos c] at h1 h2 ⊢
    rw [if_pos c]
    omega
  · rw [if_neg c] at h1 h2 ⊢
    rw [if_neg c]
    omega
def mdS (l : List Nat) (ss : List Sp) (n : Int) : List Sp := ss ++ [mkSl n (ss.foldl apL l).length]
def mdF (l : List Nat) (ns : List Int) : List Sp := ns.foldl (mdS l) []
theorem md_props (l : List Nat) : ∀ (ns : List Int) (ss : List Sp), okC l ss → okC l (ns.foldl (mdS l) ss) ∧ (ns.foldl (mdS l) ss).length = ss.length + ns.length
  | [], ss, h => ⟨h, rfl⟩
  | n :: ns, ss, h => by
    rw [List.foldl_cons]
    obtain ⟨a, b⟩ := md_props l ns (mdS l ss n) (okC_snoc ss l _ h (mk_ok n _))
    refine ⟨a, ?_⟩
    rw [b]
    simp [mdS]
    omega
theorem fold_len : ∀ (ss : List Sp) (l : List Nat), okC l ss → (ss.foldl apL l).length ≤ l.length + ss.length
  | [], l, _ => Nat.le_refl _
  | s :: ss, l, h => by
    rw [List.foldl_cons]
    have := fold_len ss (apL l s) h.2
    have ha := ap_len l s h.1
    simp only [List.length_cons]
    split at ha
    · omega
    · split at ha <;> omega
theorem md_step (w : D) (ns : D) (n : Int) (cur : List Nat) (SS : List D) (hl : cur.length ≤ 500) (hS : SS.length < sizeLine) (y4 y5 : Sl) :
    turnD (sN 4) L__law_made_1 (.int n) [.im w, .im ns, .ow (.list SS), .im (.int (cur.length : Nat)), y4, y5] =
      some (.nx [.im w, .im ns, .ow (.list (SS ++ [spT (mkSl n cur.length)])), .im (.int ((apL cur (mkSl n cur.length)).length : Nat)), .im (.int n), .im (soD (mkK n cur.length))]) := by
  have hok := mk_ok n cur
  have ha := ap_len cur _ hok
  have hp := mk_pos n cur.length
  have hmod : modD (.int (n / 3)) (.int (((if mkK n cur.length = 1 then cur.length + 1 else cur.length : Nat)) : Int)) = some (.int (n / 3 % (((if mkK n cur.length = 1 then cur.length + 1 else cur.length : Nat)) : Int))) := mod_pos (by omega)
  have hnn := Int.emod_nonneg (n / 3) (show (((if mkK n cur.length = 1 then cur.length + 1 else cur.length : Nat)) : Int) ≠ 0 by omega)
  have e1 : fIf (fT (f2 gtD (vF 3) (cD (.int 0)))) (f2 ixD (fLst (aCons (cD (.str "out")) (aCons (cD (.str "in")) (aCons (cD (.str "change")) (aNil))))) (f2 modD (fB intD (aCons (vF 4) (aNil))) (cD (.int 3)))) (cD (.str "in"))
      [.im w, .im ns, .ow (.list SS),   .im (.int (cur.length : Nat)), .im (.int n), y5] = some (soD (mkK n cur.length)) := by
    have h1 := so_at n
    unfold mkK
    by_cases c : cur.length > 0
    · have c2 : 0 < cur.length := c
      rw [if_pos c]
      generalize soD (lt3 n) = so at *
      generalize cur.length = m at *
      simp -implicitDefEqProofs [c2, h1]
    · have c2 : ¬ 0 < cur.length := c
      rw [if_neg c]
      generalize cur.length = m at *
      simp -implicitDefEqProofs [c2]
      rfl
  have hix := lx_at (n / 12)
  have hsp : spT (mkSl n cur.length) = .tuple [soD (mkK n cur.length), .int (n / 3 % (((if mkK n cur.length = 1 then cur.length + 1 else cur.length : Nat)) : Int)), if mkK n cur.length = 0 then .none else zD [lx (lt3 (n / 12))]] := by
    unfold spT sp3 mkSl leL
    dsimp only
    rw [Int.toNat_of_nonneg hnn]
  rw [hsp, ha]
  have hmk : (mkSl n cur.length).1 = mkK n cur.length := rfl
  rw [hmk]
  clear ha hsp hmk hnn hok
  generalize zD [lx (lt3 (n / 12))] = z at *
  generalize mkK n cur.length = k at *
  have q1 := so_out k
  have q2 := so_in k
  by_cases c1 : k = 1
  · subst c1
    rw [if_pos rfl] at hmod ⊢
    rw [if_neg (by decide), if_neg (by decide)]
    rw [show ((cur.length + 1 : Nat) : Int) = (cur.length : Int) + 1 by omega] at hmod ⊢
    generalize cur.length = m at *
    generalize soD 1 = so at *
    generalize n / 3 % ((m : Int) + 1) = r at *
    simp -implicitDefEqProofs [L__law_made_1, ↓e1, q1, q2, hmod, hix, hS]
  · rw [if_neg c1] at hmod ⊢
    by_cases c0 : k = 0
    · subst c0
      rw [if_pos rfl, if_pos rfl]
      rw [if_neg (by decide)] at hp
      have hm : ((cur.length - 1 : Nat) : Int) = (cur.length : Int) - 1 := by omega
      rw [hm]
      generalize cur.length = m at *
      generalize soD 0 = so at *
      generalize n / 3 % (m : Int) = r at *
      simp -implicitDefEqProofs [L__law_made_1, ↓e1, q1, q2, hmod, hS]
      omega
    · rw [if_neg c0, if_neg c0]
      generalize cur.length = m at *
      simp only [c0, c1, decide_false] at q1 q2
      generalize soD k = so at *
      generalize n / 3 % (m : Int) = r at *
      simp -implicitDefEqProofs [L__law_made_1, ↓e1, q1, q2, hmod, hix, hS]
theorem e_law_made (w : W) (hw : okW w) (ns : List Int) (hn : ns.length ≤ 20) : Ph__law_made [wD w, .list (ns.map .int)] = some (.list ((mdF (w.map lc) ns).map spT)) := by
  have hlen := line_ge
  have l1 := lenD_w w (okW_len hw)
  have hwl : (w.map lc).length ≤ 4 := by rw [List.length_map]; exact hw.2
  simp -implicitDefEqProofs [Ph__law_made, b__law_made, l1]
  obtain ⟨ρ', q1, x4, x5, q2⟩ := forL_all (step := turnD (sN 4) L__law_made_1) (xs := ns) (mk := .int)
    (fun pre (ρ : Rho) => ∃ x4 x5, ρ = [.im (wD w), .im (.list (ns.map .int)), .ow (.list ((mdF (w.map lc) pre).map spT)), .im (.int (((mdF (w.map lc) pre).foldl apL (w.map lc)).length : Nat)), x4, x5])
    [.im (wD w), .im (.list (ns.map .int)), .ow (.list []), .im (.int (w.length : Nat)), .un, .un] ⟨_, _, by simp [mdF]; exact ⟨rfl, rfl⟩⟩ (by
    rintro pre post ρ n ⟨z4, z5, rfl⟩ hx
    have hpl := split_len hx
    obtain ⟨p1, p2⟩ := md_props (w.map lc) pre [] trivial
    have hms : mdF (w.map lc) (pre ++ [n]) = mdS (w.map lc) (mdF (w.map lc) pre) n := by
      unfold mdF
      rw [List.foldl_append]
      rfl
    have hmf : pre.foldl (mdS (w.map lc)) [] = mdF (w.map lc) pre := rfl
    rw [hmf] at p1 p2
    have p3 := fold_len _ _ p1
    rw [hms, mdS]
    generalize mdF (w.map lc) pre = ss at *
    have st := md_step (wD w) (.list (ns.map .int)) n (ss.foldl apL (w.map lc)) (ss.map spT) (by simp at p2; omega) (by rw [List.length_map]; simp at p2; omega) z4 z5
    refine ⟨_, .inl st, .im (.int n), .im (soD (mkK n (ss.foldl apL (w.map lc)).length)), ?_⟩
    rw [List.map_append, List.foldl_append]
    rfl)
  rw [q1]
  subst q2
  simp -implicitDefEqProofs
end Hd
end

/-! part: K36t -/
section
set_option Elab.async false
set_option linter.all false
set_option maxRecDepth 100000
set_option maxHeartbeats 400000
namespace Hd
open PySem PySem.Spec Q
def T6_law : Bd := bSeq (bAsg 13 (fB (Ph__law_made) (aCons (vF 6) (aCons (fB (Ph__law_numbers) (aCons (vF 0) (aCons (cD (.int 6)) (aCons (f2 modD (fB (Ph__law_cell) (aCons (vF 0) (aCons (cD (.int 7)) (aNil)))) (cD (.int 5))) (aNil))))) (aNil))))) (bSeq (bIf (fNotT (fTr (fB (Ph__law_same 4) (aCons (fB (Ph_rounds) (aCons (vF 6) (aCons (fB (Ph__law_listed 4) (aCons (fB tupD (aCons (vF 13) (aNil))) (aNil))) (aNil)))) (aCons (fB (Ph__law_rounds) (aCons (vF 6) (aCons (vF 13) (aNil)))) (aNil)))))) (bRet (cD (.bool false))) (bNext)) (bSeq (bAsg 14 (f2 repLD (fLst (aCons (fTup (aCons (cD (.str "in")) (aCons (cD (.int 0)) (aCons (cD (.str "x")) (aNil))))) (aNil))) (f2 addD (cD (.int 1)) (f2 modD (fB (Ph__law_cell) (aCons (vF 0) (aCons (cD (.int 8)) (aNil)))) (cD (.int 9)))))) (bSeq (bIf (fNotT (fTr (fB (Ph__law_same 4) (aCons (fB (Ph_rounds) (aCons (vF 6) (aCons (f2 addD (vF 14) (fLst (aCons (fTup (aCons (cD (.str "out")) (aCons (cD (.int 0)) (aCons (cD .none) (aNil))))) (aNil)))) (aNil)))) (aCons (fB (Ph__law_rounds) (aCons (vF 6) (aCons (f2 addD (vF 14) (fLst (aCons (fTup (aCons (cD (.str "out")) (aCons (cD (.int 0)) (aCons (cD .none) (aNil))))) (aNil)))) (aNil)))) (aNil)))))) (bRet (cD (.bool false))) (bNext)) (bRet (fAnd (f2 eqD (fB (Ph_backwards) (aCons (vF 6) (aNil))) (f2 revTD (vF 6) (f1 negD (cD (.int 1))))) (f2 eqD (fB (Ph_shared) (aCons (vF 6) (aCons (f2 ixD (vF 1) (cD (.int 0))) (aNil)))) (fB (Ph__law_shared) (aCons (vF 6) (aCons (f2 ixD (vF 1) (cD (.int 0))) (aNil))))))))))
def T5_law : Bd := bSeq (bFor (fI (fB (Ph__law_subsets) (aCons (vF 1) (aNil)))) (sN 12) (L_law_6)) (bSeq (bIf (fT (f2 notBD (fB (Ph_ladders_closed) (aCons (vF 1) (aCons (fTup (aCons (f2 addD (f2 ixD (vF 1) (cD (.int 0))) (cD (.str "z"))) (aNil))) (aNil)))) (cD (.bool false)))) (bRet (cD (.bool false))) (bNext)) (T6_law))
def T4_law : Bd := bSeq (bFor (fI (fSl (vF 1) (oNo) (oIs (cD (.int 3))))) (sN 11) (L_law_5)) (T5_law)
def T3_law : Bd := bSeq (bAsg 8 (fB tupD (aCons (fLc (fI (fB (Ph__law_numbers) (aCons (vF 0) (aCons (cD (.int 4)) (aCons (f2 addD (cD (.int 1)) (f2 modD (fB (Ph__law_cell) (aCons (vF 0) (aCons (cD (.int 5)) (aNil)))) (cD (.int 4)))) (aNil)))))) (sN 19) (fYes) (fIf (fT (f2 gtD (f2 modD (fB intD (aCons (f2 fdivD (vF 19) (cD (.int 50))) (aNil))) (cD (.int 3))) (cD (.int 0)))) (fB (Ph__law_word) (aCons (fB intD (aCons (vF 19) (aNil))) (aNil))) (cD .none)) [19]) (aNil)))) (bSeq (bOwn 9 (fLst (aNil))) (bSeq (bFor (fI (vF 1)) (sN 10) (L_law_3)) (bSeq (bIf (fOrT (fNotT (fTr (fB (Ph__law_same 4) (aCons (fB (Ph_nearest_start) (aCons (vF 1) (aCons (fB (Ph__law_listed 4) (aCons (vF 8) (aNil))) (aNil)))) (aCons (fB minA (aCons (vP 9) (aNil))) (aNil)))))) (fNotT (fTr (fB (Ph__law_same 4) (aCons (fB (Ph_started) (aCons (vF 1) (aCons (vF 8) (aCons (f2 addD (vF 2) (cD (.int 2))) (aNil))))) (aCons (fB tupD (aCons (fLc (fI (vP 9)) (sN 21) (fT (f2 leD (f2 ixD (vF 21) (cD (.int 0))) (f2 addD (vF 2) (cD (.int 2))))) (f2 ixD (vF 21) (cD (.int 1))) [21]) (aNil))) (aNil))))))) (bRet (cD (.bool false))) (bNext)) (T4_law))))
def T2_law : Bd := bSeq (bAsg 6 (fB (Ph__law_word) (aCons (f2 modD (fB (Ph__law_cell) (aCons (vF 0) (aCons (cD (.int 3)) (aNil)))) (f2 powD (cD (.int 10)) (cD (.int 6)))) (aNil)))) (bSeq (bAsg 7 (fLc (fI (vF 1)) (sN 10) (fYes) (fTup (aCons (fB (Ph__law_gap) (aCons (vF 10) (aCons (vF 6) (aNil)))) (aCons (vF 10) (aNil)))) [10])) (bSeq (bIf (fNotT (fTr (fB (Ph__law_same 4) (aCons (fB (Ph_heard_as) (aCons (vF 1) (aCons (vF 6) (aNil)))) (aCons (fTup (aCons (f2 ixD (fB minA (aCons (vF 7) (aNil))) (cD (.int 0))) (aCons (fB tupD (aCons (fLc (fI (vF 7)) (sT 2 (sCons (sN 22) (sCons (sN 10) (sNil)))) (fT (f2 eqD (vF 22) (f2 ixD (fB minA (aCons (vF 7) (aNil))) (cD (.int 0))))) (vF 10) [22, 10]) (aNil))) (aNil)))) (aNil)))))) (bRet (cD (.bool false))) (bNext)) (T3_law)))
def T1_law : Bd := bSeq (bOwn 3 (fLst (aNil))) (bSeq (bOwn 4 (fLst (aNil))) (bSeq (bFor (fIs rg1D (aCons (fB lenD (aCons (vF 1) (aNil))) (aNil))) (sN 5) (L_law_2)) (bSeq (bIf (fOrT (fNotT (fTr (fB (Ph__law_same 4) (aCons (fB (Ph_web) (aCons (fB (Ph__law_listed 4) (aCons (vF 1) (aNil))) (aCons (vF 2) (aNil)))) (aCons (fB tupD (aCons (vP 3) (aNil))) (aNil)))))) (fT (f2 neD (fB (Ph_safe) (aCons (vF 1) (aNil))) (fIf (fT (f2 neD (vP 4) (fLst (aNil)))) (fB intD (aCons (f2 fdivD (f2 subD (fB minA (aCons (vP 4) (aNil))) (cD (.int 1))) (cD (.int 2))) (aNil))) (cD (.int 8)))))) (bRet (cD (.bool false))) (bNext)) (T2_law))))
def b_law2 : Bd := bSeq (bAsg 1 (fB (Ph__law_words) (aCons (fB (Ph__law_numbers) (aCons (vF 0) (aCons (cD (.int 0)) (aCons (f2 addD (cD (.int 1)) (f2 modD (fB (Ph__law_cell) (aCons (vF 0) (aCons (cD (.int 1)) (aNil)))) (cD (.int 7)))) (aNil))))) (aNil)))) (bSeq (bAsg 2 (f2 modD (fB (Ph__law_cell) (aCons (vF 0) (aCons (cD (.int 2)) (aNil)))) (cD (.int 4)))) (T1_law))
theorem b_law_eq : b_law = b_law2 := rfl
theorem tame_w (n : Nat) (w : W) : tame (n + 1) (wD w) = true := nice_w.lay w
theorem tame_tW (n : Nat) (r : List W) (h : r.length ≤ 1000) : tame (n + 2) (tW r) = true := tame_mk (tame_w n) r h
theorem li_w (ws : List W) (h : ws.length ≤ 1000) : Ph__law_listed 4 [.tuple (ws.map wD)] = some (.list (ws.map wD)) := by
  rw [e_listed_g 4 _ (tame_mk (n := 3) (tame_w 2) ws h), lstd_mk (mk' := wD) (n := 3) (fun z => rfl)]
theorem zlay (l : List Nat) (h : ∀ c ∈ l, c < 0x110000) : (zD l).canLay0 = true := by
  show PyData.strOk ⟨l.toArray⟩ = true
  simp only [PyData.strOk]
  rw [Array.all_eq_true]
  intro i hi
  simp only [List.getElem_toArray, decide_eq_true_eq]
  exact h _ (List.getElem_mem _)
theorem lc_small : ∀ c : Fin 3, lc c < 0x110000 := by decide
theorem lx_small : ∀ c : Fin 3, lx c < 0x110000 := by decide
theorem ap_small {l : List Nat} (s : Sp) (h : ∀ c ∈ l, c < 0x110000) : ∀ c ∈ apL l s, c < 0x110000 := by
  intro c hc
  unfold apL at hc
  split at hc
  · rcases List.mem_append.mp hc with hc | hc
    · exact h c (List.mem_of_mem_take hc)
    · exact h c (List.mem_of_mem_drop hc)
  · rcases List.mem_append.mp hc with hc | hc
    · rcases List.mem_append.mp hc with hc | hc
      · exact h c (List.mem_of_mem_take hc)
      · rw [List.mem_singleton.mp hc]; exact lx_small _
    · exact h c (List.mem_of_mem_drop hc)
theorem fold_small : ∀ (ss : List Sp) (l : List Nat), (∀ c ∈ l, c < 0x110000) → ∀ c ∈ ss.foldl apL l, c < 0x110000
  | [], _, h => h
  | s :: ss, l, h => by
    rw [List.foldl_cons]
    exact fold_small ss _ (ap_small s h)
theorem w_small (w : W) : ∀ c ∈ w.map lc, c < 0x110000 := fun c hc => by
  obtain ⟨x, _, rfl⟩ := List.mem_map.mp hc
  exact lc_small x
theorem same_rn (w : W) (ss : List Sp) : Ph__law_same 4 [rnF (w.map lc) ss, rnF (w.map lc) ss] = some (.bool true) := by
  refine e_same_r 4 _ ?_
  unfold rnF
  split
  · have p1 := (rd_props (w.map lc) ss (w.map lc, [w.map lc]) rfl (by simp)).1
    have hrd : ss.foldl rdS (w.map lc, [w.map lc]) = rdN (w.map lc) ss := rfl
    rw [hrd] at p1
    rw [p1]
    exact zlay _ (fold_small ss _ (w_small w))
  · rfl
theorem tame_sp (n : Nat) (s : Sp) : tame (n + 2) (spT s) = true := by
  obtain ⟨k, p, c⟩ := s
  have h1 : tame (n + 1) (soD k) = true := by
    match k with
    | 0 => with_unfolding_all rfl
    | 1 => with_unfolding_all rfl
    | 2 => with_unfolding_all rfl
  have h2 : tame (n + 1) (leL (k, p, c)) = true := by
    unfold leL
    split
    · rfl
    · exact zlay _ (fun x hx => by rw [List.mem_singleton.mp hx]; exact lx_small _)
  unfold spT sp3
  rw [tame]
  simp [h1, h2]
  rfl
theorem li_sp (ss : List Sp) (h : ss.length ≤ 1000) : Ph__law_listed 4 [.tuple (ss.map spT)] = some (.list (ss.map spL)) := by
  rw [e_listed_g 4 _ (tame_mk (n := 3) (tame_sp 1) ss h), lstd_mk (mk := spT) (mk' := spL) (n := 3) (fun s => by
    obtain ⟨k, p, c⟩ := s
    have h1 : lstd 2 (soD k) = soD k := by
      match k with
      | 0 => rfl
      | 1 => rfl
      | 2 => rfl
    have h2 : lstd 2 (leL (k, p, c)) = leL (k, p, c) := by
      unfold leL
      split <;> rfl
    unfold spT spL sp3
    rw [lstd]
    simp only [List.map_cons, List.map_nil, h1, h2]
    rfl)]
theorem okC_app : ∀ (a b : List Sp) (l : List Nat), okC l (a ++ b) ↔ okC l a ∧ okC (a.foldl apL l) b
  | [], b, l => by simp [okC]
  | s :: a, b, l => by
    rw [List.cons_append, okC, okC, okC_app a b, List.foldl_cons, and_assoc]
theorem okC_long (l : List Nat) (h : 1 ≤ l.length) : ∀ m : Nat, okC l (List.replicate m (1, 0, 0)) ∧ l.length ≤ ((List.replicate m ((1, 0, 0) : Sp)).foldl apL l).length
  | 0 => ⟨trivial, Nat.le_refl _⟩
  | m + 1 => by
    have hk : okP l (1, 0, 0) := by
      unfold okP
      rw [if_pos rfl]
      exact Nat.zero_le _
    have ha := ap_len l (1, 0, 0) hk
    rw [if_neg (by decide), if_pos rfl] at ha
    have ih := okC_long (apL l (1, 0, 0)) (by omega) m
    rw [List.replicate_succ, List.foldl_cons]
    exact ⟨⟨hk, ih.1⟩, by omega⟩
theorem law_T6 (ns : List Int) (ws : List W) (s : W) (hws : okS ws) (hs : okW s) (y2 y3 y4 y5 y7 y8 y9 y10 y11 y12 y13 y14 y15 y16 y17 y18 y19 y20 y21 y22 : Sl) :
    T6_law [.im (.list (ns.map .int)), .im (.tuple (ws.map wD)), y2, y3, y4, y5, .im (wD s), y7, y8, y9, y10, y11, y12, y13, y14, y15, y16, y17, y18, y19, y20, y21, y22] = some (.rt (.bool true)) := by
  have hlen := line_ge
  have hc7 : Ph__law_cell [.list (ns.map .int), .int 7] = some (.int (ns[7]?.getD 0)) := by have := e_cell ns 7; simpa using this
  have hc8 : Ph__law_cell [.list (ns.map .int), .int 8] = some (.int (ns[8]?.getD 0)) := by have := e_cell ns 8; simpa using this
  obtain ⟨k, hk, hk2⟩ := mod_nat (ns[7]?.getD 0) (show (0 : Int) < 5 by decide)
  obtain ⟨m, hm, hm2⟩ := mod_nat (ns[8]?.getD 0) (show (0 : Int) < 9 by decide)
  obtain ⟨l, hl, hn⟩ := e_numbers ns 6 k (by omega)
  have hn : Ph__law_numbers [.list (ns.map .int), .int 6, .int (k : Int)] = some (.list (l.map .int)) := hn
  have em := e_law_made s hs l (by omega)
  obtain ⟨p1, p2⟩ := md_props (s.map lc) l [] trivial
  have hmf : l.foldl (mdS (s.map lc)) [] = mdF (s.map lc) l := rfl
  rw [hmf] at p1 p2
  have hsl : (mdF (s.map lc) l).length ≤ 20 := by simp at p2; omega
  have e1 := li_sp (mdF (s.map lc) l) (by omega)
  have e2 := e_rounds s hs (mdF (s.map lc) l) spL (fun s => .inr rfl) hsl p1
  have e3 := e_law_rounds s hs (mdF (s.map lc) l) hsl p1
  have e4 := same_rn s (mdF (s.map lc) l)
  generalize mdF (s.map lc) l = ss at *
  generalize rnF (s.map lc) ss = r1 at *
  -- long
  have hsp : PyData.tuple [.str "in", .int 0, .str "x"] = spT (1, 0, 0) := by with_unfolding_all rfl
  have hsp0 : PyData.tuple [.str "out", .int 0, .none] = spT (0, 0, 0) := by with_unfolding_all rfl
  have hrep := rep_1 (spT (1, 0, 0)) (m + 1) (by omega)
  rw [show ((m + 1 : Nat) : Int) = 1 + (m : Int) by omega] at hrep
  have hLL : List.replicate (m + 1) (spT (1, 0, 0)) ++ [spT (0, 0, 0)] = (List.replicate (m + 1) ((1, 0, 0) : Sp) ++ [(0, 0, 0)]).map spT := by
    rw [List.map_append, List.map_replicate]
    rfl
  have hsz : (List.replicate (m + 1) (spT (1, 0, 0))).length + 1 ≤ sizeLine := by simp; omega
  have hsw : 1 ≤ (s.map lc).length := by rw [List.length_map]; exact hs.1
  have hokl : okC (s.map lc) (List.replicate (m + 1) (1, 0, 0) ++ [(0, 0, 0)]) := by
    obtain ⟨a, b⟩ := okC_long (s.map lc) hsw (m + 1)
    rw [okC_app]
    refine ⟨a, ⟨?_, trivial⟩⟩
    unfold okP
    rw [if_neg (by decide)]
    show 0 < _
    omega
  have hll : (List.replicate (m + 1) ((1, 0, 0) : Sp) ++ [(0, 0, 0)]).length ≤ 20 := by simp; omega
  have e5 := e_rounds s hs _ spT (fun s => .inl rfl) hll hokl
  have e6 := e_law_rounds s hs _ hll hokl
  have e7 := same_rn s (List.replicate (m + 1) (1, 0, 0) ++ [(0, 0, 0)])
  generalize rnF (s.map lc) (List.replicate (m + 1) (1, 0, 0) ++ [(0, 0, 0)]) = r2 at *
  generalize (List.replicate (m + 1) ((1, 0, 0) : Sp) ++ [(0, 0, 0)]).map spT = LL at *
  -- backwards, shared
  have hz : revTD (wD s) (.int (-1)) = some (.str (revS (wS s))) := by
    show (if (-1 : Int) = -1 ∧ (wS s).length ≤ sizeLine then some (PyData.str (revS (wS s))) else none) = _
    rw [if_pos ⟨rfl, by rw [wS_len]; have := hs.2; omega⟩]
  have hlr : PyData.canLay0 (.str (revS (wS s))) = true := by
    have : (PyData.str (revS (wS s))) = zD (s.map lc).reverse := by
      show PyData.str ⟨((s.map lc).toArray.toList.reverse).toArray⟩ = _
      rw [List.toList_toArray]
      rfl
    rw [this]
    exact zlay _ (fun c hc => w_small s c (List.mem_reverse.mp hc))
  have e8 := eq_str hlr
  have e9 : Ph_backwards [wD s] = some (.str (revS (wS s))) := by
    generalize PyData.str (revS (wS s)) = z at *
    simp -implicitDefEqProofs [Ph_backwards, b_backwards, e_to_word s hs, e_need_w, hz]
  have h0w : 0 < ws.length := by have := hws.1.1; omega
  have a0 : L2.atI (ws.map wD) 0 = some (wD (ws.getD 0 [])) := at_mk (mk := wD) ws (k := 0) [] h0w
  have hw0 := getD_ok hws.2 h0w
  have e10 := e_shared s (ws.getD 0 []) hs hw0
  have e11 := e_law_shared s (ws.getD 0 []) (okW_len hw0)
  generalize shF s (ws.getD 0 []) (ws.getD 0 []).length = q at *
  generalize ws.getD 0 [] = w0 at *
  generalize PyData.str (revS (wS s)) = z at *
  clear hlr hokl hll p1 p2 hsl
  generalize hS1 : ss.map spT = S1 at *
  generalize ss.map spL = S2 at *
  generalize spT (1, 0, 0) = sp1 at *
  generalize spT (0, 0, 0) = sp0 at *
  generalize List.replicate (m + 1) sp1 = RR at *
  simp -implicitDefEqProofs [T6_law, hc7, hc8]
  rw [hk]
  simp -implicitDefEqProofs [hn, em, e1, e2, e3, e4, hc8]
  rw [hm, hsp]
  simp -implicitDefEqProofs [hrep]
  rw [hsp0]
  simp -implicitDefEqProofs [hsz, hLL, e5, e6, e7, e9, hz, e8, a0, e10, e11]
end Hd
end

/-! part: K36u -/
section
set_option Elab.async false
set_option linter.all false
set_option maxRecDepth 100000
set_option maxHeartbeats 400000
namespace Hd
open PySem PySem.Spec Q
def ldF (ws some_ : List W) : List W := some_.filter fun w => !decide ((ws.filter fun o => !decide (o ∈ some_) && adW w o) = [])
theorem cl_ld (ws some_ : List W) : clF ws some_ = decide (ldF ws some_ = []) := by
  rw [Bool.eq_iff_iff, decide_eq_true_eq]
  unfold clF ldF
  rw [List.all_eq_true, List.filter_eq_nil_iff]
  constructor
  · intro h w hw
    simp only [Bool.not_eq_true', decide_eq_false_iff_not, Decidable.not_not]
    rw [List.filter_eq_nil_iff]
    intro o ho hc
    simp only [Bool.and_eq_true, Bool.not_eq_true', decide_eq_false_iff_not] at hc
    have := h o ho
    rw [Bool.or_eq_true, decide_eq_true_eq] at this
    rcases this with h1 | h1
    · exact hc.1 h1
    · rw [Bool.not_eq_true', List.any_eq_false] at h1
      exact h1 w hw hc.2
  · intro h o ho
    rw [Bool.or_eq_true, decide_eq_true_eq]
    by_cases c : o ∈ some_
    · exact .inl c
    · right
      rw [Bool.not_eq_true', List.any_eq_false]
      intro w hw ha
      have := h w hw
      simp only [Bool.not_eq_true', decide_eq_false_iff_not, Decidable.not_not] at this
      rw [List.filter_eq_nil_iff] at this
      exact this o ho (by simp [c, ha])
theorem ld_turn (ns : List Int) (ws : List W) (hws : okS ws) (h7 : ws.length ≤ 7) (hp : ws.Pairwise (fun a b => wlt a b = true)) (some_ : List W) (hs : some_.Sublist ws) (y2 y3 y4 y5 y6 y7 y8 y9 y10 y11 y12 y13 y14 y15 y16 y17 y18 y19 y20 y21 y22 : Sl) :
    ∃ z18, turnD (sN 12) L_law_6 (tW some_) [.im (.list (ns.map .int)), .im (.tuple (ws.map wD)), y2, y3, y4, y5, y6, y7, y8, y9, y10, y11, y12, y13, y14, y15, y16, y17, y18, y19, y20, y21, y22] =
      some (.nx [.im (.list (ns.map .int)), .im (.tuple (ws.map wD)), y2, y3, y4, y5, y6, y7, y8, y9, y10, y11, .im (tW some_), y13, y14, y15, y16, y17, z18, y19, y20, y21, y22]) := by
  have hlen := line_ge
  have hsl := hs.length_le
  have hso : ∀ w ∈ some_, okW w := fun w hw => hws.2 w (hs.subset hw)
  have e1 := e_closed ws hws some_ hs hp (.list (some_.map wD)) (.inr rfl)
  have e2 : Ph__law_listed 4 [tW some_] = some (.list (some_.map wD)) := li_w some_ (by omega)
  have c1 : fLc (fI (vF 12)) (sN 10) (fT (f2 neD (fLc (fI (vF 1)) (sN 17) (fAndT (fT (f2 notInD (vF 17) (vF 12))) (fT (f2 eqD (fB (Ph__law_gap) (aCons (vF 10) (aCons (vF 17) (aNil)))) (cD (.int 1))))) (vF 17) [17]) (fLst (aNil)))) (vF 10) [10]
      [.im (.list (ns.map .int)), .im (.tuple (ws.map wD)), y2, y3, y4, y5, y6, y7, y8, y9, y10, y11, .im (tW some_), y13, y14, y15, y16, y17, y18, y19, y20, y21, y22] = some (.list ((ldF ws some_).map wD)) := by
    have hwk : walkD (tW some_) = some (some_.map wD) := rfl
    simp -implicitDefEqProofs [hwk]
    rw [lcL_map (p := fun w => !decide ((ws.filter fun o => !decide (o ∈ some_) && adW w o) = [])) (g := wD) (fun w hw => by
      rw [lcL_map (p := fun o => !decide (o ∈ some_) && adW w o) (g := wD) (fun o ho => by
        have e4 : notInD (wD o) (tW some_) = _ := nice_w.notIn_t (by decide) o some_
        have e7 := e_law_gap w o (okW_len (hso w hw)) (okW_len (hws.2 o ho))
        by_cases c : o ∈ some_
        · simp only [c, decide_true, Bool.not_true] at e4
          simp [e4, c]
        · simp only [c, decide_false, Bool.not_false] at e4
          by_cases c2 : gp w o = 1 <;> simp [e4, e7, c, c2, adW]) (fun o ho hq => by simp), Option.bind_some, lcB_small (by
            have : (ws.filter fun o => !decide (o ∈ some_) && adW w o).length ≤ ws.length := List.length_filter_le ..
            simp only [List.length_map]; omega), Option.bind_some]
      have hne := (nice_lst nice_w).ne (by decide) (ws.filter fun o => !decide (o ∈ some_) && adW w o) []
      rw [List.map_nil] at hne
      rw [hne]
      rfl) (fun w hw hq => by simp), Option.bind_some, lcB_small (by
        have : (some_.filter fun w => !decide ((ws.filter fun o => !decide (o ∈ some_) && adW w o) = [])).length ≤ some_.length := List.length_filter_le ..
        simp only [List.length_map]; omega)]
    rfl
  have e3 := (nice_lst nice_w).eq (by decide) (ldF ws some_) []
  rw [List.map_nil] at e3
  have e3 : eqD (.list ((ldF ws some_).map wD)) (.list []) = some (.bool (clF ws some_)) := by
    rw [e3, cl_ld]
  have e5 : Ph__law_same 4 [.bool (clF ws some_), .bool (clF ws some_)] = some (.bool true) := e_same_r 4 _ rfl
  refine ⟨.im (.list ((ldF ws some_).map wD)), ?_⟩
  generalize (ldF ws some_).map wD = L at *
  generalize clF ws some_ = b at *
  generalize some_.map wD = S at *
  generalize tW some_ = T at *
  simp -implicitDefEqProofs [L_law_6, ↓c1, e2, e1, e3, e5]
theorem mem_z (ws : List W) (q : List Nat) (h : 122 ∈ q) : memD (zD q) (ws.map wD) = false := by
  unfold memD
  rw [List.any_eq_false]
  intro d hd
  obtain ⟨w, _, rfl⟩ := List.mem_map.mp hd
  have hne : ¬ wS w = (⟨q.toArray⟩ : Str) := fun z => by
    have h1 : w.map lc = q := by
      have := congrArg (fun s : Str => s.cps.toList) z
      simpa [wS] using this
    rw [← h1] at h
    obtain ⟨c, _, hc⟩ := List.mem_map.mp h
    have : ∀ c : Fin 3, lc c ≠ 122 := by decide
    exact this c hc
  show ¬ PyData.eqv (.str (wS w)) (.str ⟨q.toArray⟩) = true
  rw [PyData.eqv]
  simp [hne]
theorem lc_in : ∀ c : Fin 3, isT (sgnD id (.str ⟨#[lc c]⟩) (.str "abcdefghijklmnopqrstuvwxyz")) = true := by decide +kernel
theorem z_in : isT (sgnD id (.str ⟨#[122]⟩) (.str "abcdefghijklmnopqrstuvwxyz")) = true := by decide +kernel
theorem e_closed_z (ws : List W) (hws : okS ws) (hp : ws.Pairwise (fun a b => wlt a b = true)) (w : W) (hw : okW w) : Ph_ladders_closed [.tuple (ws.map wD), .tuple [zD (w.map lc ++ [122])]] = some (.bool false) := by
  have hlen := line_ge
  have hww := hws.1
  have e1 := e_to_words ws hws.1 hws.2 (hso_of hp) _ (.inl rfl)
  have hq : (w.map lc ++ [122]).length ≤ 5 := by simp; have := hw.2; omega
  have en := e_is_nameZ (w.map lc ++ [122]) (by simp; have := hw.2; omega) (fun c hc => by
    rcases List.mem_append.mp hc with hc | hc
    · obtain ⟨x, _, rfl⟩ := List.mem_map.mp hc
      exact lc_in x
    · rw [List.mem_singleton.mp hc]; exact z_in)
  have em := mem_z ws (w.map lc ++ [122]) (by simp)
  have hlay := zlay (w.map lc ++ [122]) (fun c hc => by
    rcases List.mem_append.mp hc with hc | hc
    · exact w_small w c hc
    · rw [List.mem_singleton.mp hc]; decide)
  have hsh : SeqAt.shaped (zD (w.map lc ++ [122])) = true := by
    unfold SeqAt.shaped
    rw [hlay]
    rfl
  have ein : inD (zD (w.map lc ++ [122])) (.tuple (ws.map wD)) = some (.bool false) := by
    rw [inD, items_t, Option.bind_some, if_pos ⟨hsh, (nice_tup nice_w).shp (by decide) ws⟩, em]
  have er : Ph_to_row [.tuple [zD (w.map lc ++ [122])], .int 0, .int (ws.length : Nat)] = some (.tuple [zD (w.map lc ++ [122])]) := e_to_row_t _ 0 _ (by simp; omega)
  have hrk : Ph_rank_key 4 [zD (w.map lc ++ [122])] = some (.tuple [.int 3, zD (w.map lc ++ [122])]) := by
    have f1 : isiD "bool" (zD (w.map lc ++ [122])) = some (.bool false) := rfl
    have f2 : isiD "int" (zD (w.map lc ++ [122])) = some (.bool false) := rfl
    have f3 : isiD "str" (zD (w.map lc ++ [122])) = some (.bool true) := rfl
    have f4 : isND (zD (w.map lc ++ [122])) .none = some (.bool false) := rfl
    simp -implicitDefEqProofs [Ph_rank_key, b_rank_key, f1, f2, f3, f4]
  generalize zD (w.map lc ++ [122]) = z at *
  have er0 : rg1D [.int 0] = some [] := rfl
  have e3 : Ph_is_rising [.tuple [z]] = some (.bool true) := by
    have h1 : 1 ≤ sizeLine := by omega
    have h2 : blsOf [] = some [] := rfl
    simp -implicitDefEqProofs [Ph_is_rising, b_is_rising, er0, lcL, lcB, hrk, h1, h2]
  have e2 : Ph_to_names [.tuple [z], .int 0, .int (ws.length : Nat)] = some (.tuple [z]) := by
    have h1 : 1 ≤ sizeLine := by omega
    have h2 : blsOf [PyData.bool true] = some [true] := rfl
    simp -implicitDefEqProofs [Ph_to_names, b_to_names, er, lcL, lcB, en, h1, h2]
  have f4 : isND (.tuple [z]) .none = some (.bool false) := rfl
  have e4 : Ph_to_rising_names [.tuple [z], .int 0, .int (ws.length : Nat)] = some (.tuple [z]) := by
    simp -implicitDefEqProofs [Ph_to_rising_names, b_to_rising_names, e2, e3, f4]
  have e5 : Ph_to_closed [.tuple (ws.map wD), .tuple [z]] = some .none := by
    have h1 : 1 ≤ sizeLine := by omega
    have h2 : blsOf [PyData.bool false] = some [false] := rfl
    simp -implicitDefEqProofs [Ph_to_closed, b_to_closed, e4, f4, lcL, lcB, ein, h1, h2]
  simp -implicitDefEqProofs [Ph_ladders_closed, b_ladders_closed, e1, e_need_t, e5]
end Hd
end

/-! part: K36v -/
section
set_option Elab.async false
set_option linter.all false
set_option maxRecDepth 100000
set_option maxHeartbeats 400000
namespace Hd
open PySem PySem.Spec Q
section
variable (ns : List Int) (ws : List W) (s : W) (hws : okS ws) (h7 : ws.length ≤ 7) (hp : ws.Pairwise (fun a b => wlt a b = true)) (hs : okW s)
include hws h7 hp hs
theorem law_T5 (y2 y3 y4 y5 y7 y8 y9 y10 y11 y12 y13 y14 y15 y16 y17 y18 y19 y20 y21 y22 : Sl) :
    T5_law [.im (.list (ns.map .int)), .im (.tuple (ws.map wD)), y2, y3, y4, y5, .im (wD s), y7, y8, y9, y10, y11, y12, y13, y14, y15, y16, y17, y18, y19, y20, y21, y22] = some (.rt (.bool true)) := by
  have hlen := line_ge
  obtain ⟨R, e1, hR⟩ := e_subsets ws h7
  have h0w : 0 < ws.length := by have := hws.1.1; omega
  have a0 : L2.atI (ws.map wD) 0 = some (wD (ws.getD 0 [])) := at_mk (mk := wD) ws (k := 0) [] h0w
  have hw0 := getD_ok hws.2 h0w
  have ea : addD (wD (ws.getD 0 [])) (.str "z") = some (zD ((ws.getD 0 []).map lc ++ [122])) := by
    have hz : PyData.str "z" = zD [122] := by with_unfolding_all rfl
    rw [hz, wD_z]
    exact add_z _ _ (by simp only [List.length_map, List.length_singleton]; have := hw0.2; omega)
  have ez := e_closed_z ws hws hp (ws.getD 0 []) hw0
  have hT := fun z12 z18 => law_T6 ns ws s hws hs y2 y3 y4 y5 y7 y8 y9 y10 y11 z12 y13 y14 y15 y16 y17 z18 y19 y20 y21 y22
  obtain ⟨ρ', q1, x12, x18, q2⟩ := forL_all (step := turnD (sN 12) L_law_6) (xs := R) (mk := tW)
    (fun pre (ρ : Rho) => ∃ x12 x18, ρ = [.im (.list (ns.map .int)), .im (.tuple (ws.map wD)), y2, y3, y4, y5, .im (wD s), y7, y8, y9, y10, y11, x12, y13, y14, y15, y16, y17, x18, y19, y20, y21, y22])
    [.im (.list (ns.map .int)), .im (.tuple (ws.map wD)), y2, y3, y4, y5, .im (wD s), y7, y8, y9, y10, y11, y12, y13, y14, y15, y16, y17, y18, y19, y20, y21, y22] ⟨_, _, rfl⟩ (by
    rintro pre post ρ r ⟨z12, z18, rfl⟩ hx
    obtain ⟨w18, st⟩ := ld_turn ns ws hws h7 hp r (hR r (split_mem hx)) y2 y3 y4 y5 (.im (wD s)) y7 y8 y9 y10 y11 z12 y13 y14 y15 y16 y17 z18 y19 y20 y21 y22
    exact ⟨_, .inl st, _, _, rfl⟩)
  subst q2
  generalize zD ((ws.getD 0 []).map lc ++ [122]) = z at *
  generalize ws.getD 0 [] = w0 at *
  generalize R.map tW = RL at *
  simp -implicitDefEqProofs [T5_law, e1]
  rw [q1]
  simp -implicitDefEqProofs [a0, ea, ez, hT]
theorem go_len (g : W) : ∀ (t : Nat) (v : W) (r : List W), goL ws adW g t v = some r → r.length = t + 1
  | 0, v, r, h => by
    rw [goL] at h
    split at h
    · cases h; rfl
    · cases h
  | t + 1, v, r, h => by
    rw [goL] at h
    cases c : (ws.filter fun u => adW v u && (goL ws adW g t u).isSome).head? with
    | none => rw [c] at h; cases h
    | some u =>
      rw [c, Option.bind_some] at h
      cases e : goL ws adW g t u with
      | none => rw [e] at h; cases h
      | some q =>
        rw [e] at h
        cases h
        have := go_len g t u q e
        simp [this]
theorem same_lad (one g : W) : Ph__law_same 4 [oT (fsL ws adW g ws.length one), oT (fsL ws adW g ws.length one)] = some (.bool true) := by
  refine e_same_r 4 _ ?_
  cases c : fsL ws adW g ws.length one with
  | none => rfl
  | some r =>
    obtain ⟨t, ht, e⟩ := List.exists_of_findSome?_eq_some c
    have := go_len ws s hws h7 hp hs g t one r e
    have := List.mem_range.mp ht
    exact tame_tW 2 r (by omega)
theorem law_T4 (y2 y3 y4 y5 y7 y8 y9 y10 y11 y12 y13 y14 y15 y16 y17 y18 y19 y20 y21 y22 : Sl) :
    T4_law [.im (.list (ns.map .int)), .im (.tuple (ws.map wD)), y2, y3, y4, y5, .im (wD s), y7, y8, y9, y10, y11, y12, y13, y14, y15, y16, y17, y18, y19, y20, y21, y22] = some (.rt (.bool true)) := by
  have hn : ws.Nodup := hp.imp fun {a b} h e => by subst e; rw [wlt_irr] at h; cases h
  have cutk : ∀ k : Nat, cutL (ws.map wD) none (some (k : Int)) = (ws.take k).map wD := fun k => by
    have h0 : ¬ (k : Int) < 0 := by omega
    unfold cutL HT.sIx
    simp only [if_neg h0, List.drop_zero, Nat.sub_zero, Int.toNat_natCast, List.length_map]
    rw [← List.map_take]
    by_cases c : k ≤ ws.length
    · rw [Nat.min_eq_left c]
    · rw [Nat.min_eq_right (by omega), List.take_of_length_le (Nat.le_refl _), List.take_of_length_le (by omega)]
  have cut3 : cutL (ws.map wD) none (some 3) = (ws.take 3).map wD := cutk 3
  have cut4 : cutL (ws.map wD) none (some 4) = (ws.take 4).map wD := cutk 4
  have hT := fun z11 z17 => law_T5 ns ws s hws h7 hp hs y2 y3 y4 y5 y7 y8 y9 y10 z11 y12 y13 y14 y15 y16 z17 y18 y19 y20 y21 y22
  obtain ⟨ρ', q1, x11, x17, q2⟩ := forL_all (step := turnD (sN 11) L_law_5) (xs := ws.take 3) (mk := wD)
    (fun pre (ρ : Rho) => ∃ x11 x17, ρ = [.im (.list (ns.map .int)), .im (.tuple (ws.map wD)), y2, y3, y4, y5, .im (wD s), y7, y8, y9, y10, x11, y12, y13, y14, y15, y16, x17, y18, y19, y20, y21, y22])
    [.im (.list (ns.map .int)), .im (.tuple (ws.map wD)), y2, y3, y4, y5, .im (wD s), y7, y8, y9, y10, y11, y12, y13, y14, y15, y16, y17, y18, y19, y20, y21, y22] ⟨_, _, rfl⟩ (by
    rintro pre post ρ one ⟨z11, z17, rfl⟩ hx
    have h1 : one ∈ ws := List.mem_of_mem_take (split_mem hx)
    obtain ⟨ρ2, p1, w17, p2⟩ := forL_all (step := turnD (sN 17) L_law_4) (xs := ws.take 4) (mk := wD)
      (fun pre (ρ : Rho) => ∃ x17, ρ = [.im (.list (ns.map .int)), .im (.tuple (ws.map wD)), y2, y3, y4, y5, .im (wD s), y7, y8, y9, y10, .im (wD one), y12, y13, y14, y15, y16, x17, y18, y19, y20, y21, y22])
      [.im (.list (ns.map .int)), .im (.tuple (ws.map wD)), y2, y3, y4, y5, .im (wD s), y7, y8, y9, y10, .im (wD one), y12, y13, y14, y15, y16, z17, y18, y19, y20, y21, y22] ⟨_, rfl⟩ (by
      rintro pre post ρ g ⟨z17, rfl⟩ hx
      have hg : g ∈ ws := List.mem_of_mem_take (split_mem hx)
      have e1 := e_ladder ws one g hws hp h1 hg
      have e2 := e_law_ladder ws one g hws hn h1 hg
      have e3 := same_lad ws s hws h7 hp hs one g
      refine ⟨[.im (.list (ns.map .int)), .im (.tuple (ws.map wD)), y2, y3, y4, y5, .im (wD s), y7, y8, y9, y10, .im (wD one), y12, y13, y14, y15, y16, .im (wD g), y18, y19, y20, y21, y22], .inl ?_, _, rfl⟩
      generalize oT (fsL ws adW g ws.length one) = r at *
      simp -implicitDefEqProofs [L_law_4, e1, e2, e3])
    subst p2
    refine ⟨_, .inl ?_, .im (wD one), w17, rfl⟩
    have hT4 : (ws.take 4).map wD = (ws.take 4).map wD := rfl
    generalize (ws.take 4).map wD = W4 at *
    simp -implicitDefEqProofs [L_law_5, cut4]
    exact p1)
  subst q2
  generalize (ws.take 3).map wD = W3 at *
  simp -implicitDefEqProofs [T4_law, cut3]
  rw [q1]
  simp -implicitDefEqProofs [hT]
end
end Hd
end

/-! part: K36w -/
section
set_option Elab.async false
set_option linter.all false
set_option maxRecDepth 100000
set_option maxHeartbeats 400000
namespace Hd
open PySem PySem.Spec Q
def hrF (l : List Int) : List (Option W) := l.map fun n => if n / 50 % 3 > 0 then some (mkw n) else none
theorem hr_ok (l : List Int) (h : 1 ≤ l.length ∧ l.length ≤ 4) : okH (hrF l) := by
  refine ⟨by simpa [hrF] using h, fun w hw => ?_⟩
  obtain ⟨n, _, e⟩ := List.mem_map.mp hw
  split at e
  · injection e with e
    rw [← e]; exact mkw_ok n
  · cases e
theorem tame_o (n : Nat) (h : Option W) : tame (n + 1) (oD h) = true := by
  cases h with
  | none => rfl
  | some w => exact tame_w n w
theorem li_o (hs : List (Option W)) (h : hs.length ≤ 1000) : Ph__law_listed 4 [.tuple (hs.map oD)] = some (.list (hs.map oD)) := by
  rw [e_listed_g 4 _ (tame_mk (n := 3) (tame_o 2) hs h), lstd_mk (mk' := oD) (n := 3) (fun z => by cases z <;> rfl)]
theorem floor_sl (hs : List (Option W)) : ∀ (w : W) (l : List Int), (hs.foldl flSt (w, l)).2 = l ++ slF w (hs.filterMap id) := by
  induction hs with
  | nil => intro w l; simp [slF]
  | cons o hs ih =>
    intro w l
    rw [List.foldl_cons]
    cases o with
    | none => exact ih w l
    | some v =>
      have : flSt (w, l) (some v) = (v, l ++ [gp w v]) := rfl
      rw [this, ih v]
      simp [slF]
theorem sl_range : ∀ (r : List W) (w : W), (List.range r.length).map (fun k => gp ((w :: r).getD k []) (r.getD k [])) = slF w r
  | [], _ => rfl
  | v :: r, w => by
    rw [List.length_cons, List.range_succ_eq_map, List.map_cons, List.map_map, slF, ← sl_range r v]
    rfl
theorem fm_map (hs : List (Option W)) : ((hs.filter fun o => o.isSome).map oD) = (hs.filterMap id).map wD := by
  induction hs with
  | nil => rfl
  | cons o hs ih =>
    cases o with
    | none => simpa using ih
    | some v => simp [ih, oD_some]
theorem fm_len (hs : List (Option W)) : (hs.filterMap id).length ≤ hs.length := List.length_filterMap_le ..
section
variable (ns : List Int) (ws : List W) (s : W) (hws : okS ws) (h7 : ws.length ≤ 7) (hp : ws.Pairwise (fun a b => wlt a b = true)) (hs : okW s)
include hws h7 hp hs
theorem sm_turn (hd : List (Option W)) (hh : okH hd) (w : W) (hw : okW w) (S : List D) (hS : S.length < sizeLine) (y2 y3 y4 y5 y7 y10 y11 y12 y13 y14 y15 y16 y17 y18 y19 y20 y21 y22 : Sl) :
    ∃ z16, turnD (sN 10) L_law_3 (wD w) [.im (.list (ns.map .int)), .im (.tuple (ws.map wD)), y2, y3, y4, y5, .im (wD s), y7, .im (.tuple (hd.map oD)), .ow (.list S), y10, y11, y12, y13, y14, y15, y16, y17, y18, y19, y20, y21, y22] =
      some (.nx [.im (.list (ns.map .int)), .im (.tuple (ws.map wD)), y2, y3, y4, y5, .im (wD s), y7, .im (.tuple (hd.map oD)), .ow (.list (S ++ [pW ((floorF w hd).sum, w)])), .im (wD w), y11, y12, y13, y14, y15, z16, y17, y18, y19, y20, y21, y22]) := by
  have hlen := line_ge
  have hhl := hh.1.2
  have hfl := fm_len hd
  have hro : ∀ v ∈ hd.filterMap id, okW v := fun v hv => by
    obtain ⟨o, ho, e⟩ := List.mem_filterMap.mp hv
    have e : o = some v := e
    subst e
    exact hh.2 v ho
  have c1 : fLc (fI (vF 8)) (sN 11) (fT (f2 notND (vF 11) (cD .none))) (vF 11) [11]
      [.im (.list (ns.map .int)), .im (.tuple (ws.map wD)), y2, y3, y4, y5, .im (wD s), y7, .im (.tuple (hd.map oD)), .ow (.list S), .im (wD w), y11, y12, y13, y14, y15, y16, y17, y18, y19, y20, y21, y22] = some (.list ((hd.filterMap id).map wD)) := by
    simp -implicitDefEqProofs
    rw [lcL_map (p := fun o => o.isSome) (g := oD) (fun o ho => by
      have b5 := not_none o
      simp [b5]) (fun o ho hq => by simp), Option.bind_some, lcB_small (by
        have : (hd.filter fun o => o.isSome).length ≤ hd.length := List.length_filter_le ..
        rw [List.length_map]; omega), fm_map]
  have hfs : floorF w hd = slF w (hd.filterMap id) := by
    have := floor_sl hd w []
    simpa [floorF] using this
  rw [hfs]
  generalize hd.filterMap id = r at *
  have hch : .list (wD w :: r.map wD) = PyData.list ((w :: r).map wD) := rfl
  have hadd : 1 + r.length ≤ sizeLine := by omega
  have r2 := rg1_n (k := r.length) (by omega)
  have c2 : fLc (fIs rg1D (aCons (f2 subD (fB lenD (aCons (vF 16) (aNil))) (cD (.int 1))) (aNil))) (sN 20) (fYes) (fB (Ph__law_gap) (aCons (f2 ixD (vF 16) (vF 20)) (aCons (f2 ixD (vF 16) (f2 addD (vF 20) (cD (.int 1)))) (aNil)))) [20]
      [.im (.list (ns.map .int)), .im (.tuple (ws.map wD)), y2, y3, y4, y5, .im (wD s), y7, .im (.tuple (hd.map oD)), .ow (.list S), .im (wD w), y11, y12, y13, y14, y15, .im (.list (wD w :: r.map wD)), y17, y18, y19, y20, y21, y22] = some (.list ((slF w r).map .int)) := by
    have hat : ∀ k, k < (w :: r).length → L2.atI (wD w :: r.map wD) (k : Int) = some (wD ((w :: r).getD k [])) := fun k hk => at_mk (mk := wD) (w :: r) [] hk
    have hln : lenD [.list (wD w :: r.map wD)] = some (.int ((r.length : Int) + 1)) := by
      have h2 : (wD w :: r.map wD).length = r.length + 1 := by simp
      simp [h2]
    have hsl := sl_range r w
    have hg : ∀ k, k < r.length → (w :: r).getD (k + 1) [] = r.getD k [] := fun k _ => rfl
    have hwr : ∀ v ∈ w :: r, okW v := fun v hv => by
      rcases List.mem_cons.mp hv with rfl | hv
      · exact hw
      · exact hro v hv
    generalize hC : wD w :: r.map wD = C at *
    simp -implicitDefEqProofs [hln, r2]
    rw [lcL_all (g := fun k => .int (gp ((w :: r).getD k []) (r.getD k []))) (by simp) (fun k hk => by
      have hk' := List.mem_range.mp hk
      have a1 := hat k (by simp; omega)
      have a2 := hat (k + 1) (by simp; omega)
      rw [show ((k + 1 : Nat) : Int) = (k : Int) + 1 by omega, hg k hk'] at a2
      have a3 := e_law_gap ((w :: r).getD k []) (r.getD k []) (okW_len (getD_ok hwr (by simp; omega))) (okW_len (getD_ok hro hk'))
      generalize (w :: r).getD k [] = a at *
      generalize r.getD k [] = b at *
      simp [a1, a2, a3]), Option.bind_some, lcB_small (by simp; omega)]
    rw [← hsl, List.map_map]
    rfl
  refine ⟨.im (.list (wD w :: r.map wD)), ?_⟩
  have hrl : (r.map wD).length = r.length := by simp
  have hadd' : 1 + (r.map wD).length ≤ sizeLine := by omega
  generalize r.map wD = RD at *
  generalize slF w r = sl at *
  generalize hd.map oD = HD at *
  simp -implicitDefEqProofs [L_law_3, ↓c1, hadd', ↓c2, hS, pW]
theorem law_T3 (m : Int) (hm : 0 ≤ m ∧ m ≤ 3) (y3 y4 y5 y7 y8 y9 y10 y11 y12 y13 y14 y15 y16 y17 y18 y19 y20 y21 y22 : Sl) :
    T3_law [.im (.list (ns.map .int)), .im (.tuple (ws.map wD)), .im (.int m), y3, y4, y5, .im (wD s), y7, y8, y9, y10, y11, y12, y13, y14, y15, y16, y17, y18, y19, y20, y21, y22] = some (.rt (.bool true)) := by
  have hlen := line_ge
  have hc5 : Ph__law_cell [.list (ns.map .int), .int 5] = some (.int (ns[5]?.getD 0)) := by have := e_cell ns 5; simpa using this
  obtain ⟨k, hk, hk2⟩ := mod_nat (ns[5]?.getD 0) (show (0 : Int) < 4 by decide)
  have hn : ∃ l : List Int, l.length = k + 1 ∧ Ph__law_numbers [.list (ns.map .int), .int 4, .int (1 + (k : Int))] = some (.list (l.map .int)) := by
    obtain ⟨l, h1, h2⟩ := e_numbers ns 4 (k + 1) (by omega)
    exact ⟨l, h1, by rw [show (1 + (k : Int)) = ((k + 1 : Nat) : Int) by omega]; exact h2⟩
  obtain ⟨l, hll, hn⟩ := hn
  have c1 : ∀ y8, fLc (fI (fB (Ph__law_numbers) (aCons (vF 0) (aCons (cD (.int 4)) (aCons (f2 addD (cD (.int 1)) (f2 modD (fB (Ph__law_cell) (aCons (vF 0) (aCons (cD (.int 5)) (aNil)))) (cD (.int 4)))) (aNil)))))) (sN 19) (fYes) (fIf (fT (f2 gtD (f2 modD (fB intD (aCons (f2 fdivD (vF 19) (cD (.int 50))) (aNil))) (cD (.int 3))) (cD (.int 0)))) (fB (Ph__law_word) (aCons (fB intD (aCons (vF 19) (aNil))) (aNil))) (cD .none)) [19]
      [.im (.list (ns.map .int)), .im (.tuple (ws.map wD)), .im (.int m), y3, y4, y5, .im (wD s), y7, y8, y9, y10, y11, y12, y13, y14, y15, y16, y17, y18, y19, y20, y21, y22] = some (.list ((hrF l).map oD)) := fun y8 => by
    simp -implicitDefEqProofs [hc5]
    rw [hk]
    simp -implicitDefEqProofs [hn]
    rw [lcL_all (g := fun n => oD (if n / 50 % 3 > 0 then some (mkw n) else none)) (by simp) (fun n hn => by
      have e := e_word n
      by_cases c : n / 50 % 3 > 0
      · have c' : 0 < n / 50 % 3 := c
        simp [c', e, oD_some]
      · have c' : ¬ 0 < n / 50 % 3 := c
        simp [c', oD_none]), Option.bind_some, lcB_small (by simp; omega)]
    rw [hrF, List.map_map]
    rfl
  have hh := hr_ok l (by omega)
  generalize hrF l = hd at *
  have hh4 := hh.1.2
  have e1 := e_nearest ws hd hws hp hh (.list (hd.map oD)) (.inr rfl)
  have e2 := e_started ws hd (m + 2) hws hp hh (by omega)
  have e3 := li_o hd (by omega)
  have hne : smL ws hd ≠ [] := fun z => by
    have := List.map_eq_nil_iff.mp z
    have hww := hws.1
    rw [this] at hww
    simp at hww
  have mn := minA_pW hne
  have s1 : Ph__law_same 4 [pW (bsW (smL ws hd)), pW (bsW (smL ws hd))] = some (.bool true) := e_same_r 4 _ (tame_two rfl (tame_w 2 _))
  have hsml : (smL ws hd).length ≤ 7 := by simp [smL]; omega
  have hfl : ((smL ws hd).filter fun p => decide (p.1 ≤ m + 2)).length ≤ 7 := Nat.le_trans (List.length_filter_le ..) hsml
  have s2 : Ph__law_same 4 [.tuple (((smL ws hd).filter fun p => decide (p.1 ≤ m + 2)).map fun p => wD p.2), .tuple (((smL ws hd).filter fun p => decide (p.1 ≤ m + 2)).map fun p => wD p.2)] = some (.bool true) := e_same_r 4 _ (tame_mk (n := 3) (fun (p : Int × W) => tame_w 2 p.2) ((smL ws hd).filter fun p => decide (p.1 ≤ m + 2)) (by omega))
  have hT := fun z9 z10 z16 => law_T4 ns ws s hws h7 hp hs (.im (.int m)) y3 y4 y5 y7 (.im (.tuple (hd.map oD))) z9 z10 y11 y12 y13 y14 y15 z16 y17 y18 y19 y20 y21 y22
  obtain ⟨ρ', q1, x10, x16, q2⟩ := forL_all (step := turnD (sN 10) L_law_3) (xs := ws) (mk := wD)
    (fun pre (ρ : Rho) => ∃ x10 x16, ρ = [.im (.list (ns.map .int)), .im (.tuple (ws.map wD)), .im (.int m), y3, y4, y5, .im (wD s), y7, .im (.tuple (hd.map oD)), .ow (.list ((smL pre hd).map pW)), x10, y11, y12, y13, y14, y15, x16, y17, y18, y19, y20, y21, y22])
    [.im (.list (ns.map .int)), .im (.tuple (ws.map wD)), .im (.int m), y3, y4, y5, .im (wD s), y7, .im (.tuple (hd.map oD)), .ow (.list []), y10, y11, y12, y13, y14, y15, y16, y17, y18, y19, y20, y21, y22] ⟨_, _, rfl⟩ (by
    rintro pre post ρ w ⟨z10, z16, rfl⟩ hx
    have hw := hws.2 w (split_mem hx)
    have hpl := split_len hx
    obtain ⟨w16, st⟩ := sm_turn ns ws s hws h7 hp hs hd hh w hw ((smL pre hd).map pW) (by simp [smL]; omega) (.im (.int m)) y3 y4 y5 y7 z10 y11 y12 y13 y14 y15 z16 y17 y18 y19 y20 y21 y22
    refine ⟨_, .inl st, .im (wD w), w16, ?_⟩
    simp [smL])
  subst q2
  have c3 : ∀ y10 y16, fLc (fI (vP 9)) (sN 21) (fT (f2 leD (f2 ixD (vF 21) (cD (.int 0))) (f2 addD (vF 2) (cD (.int 2))))) (f2 ixD (vF 21) (cD (.int 1))) [21]
      [.im (.list (ns.map .int)), .im (.tuple (ws.map wD)), .im (.int m), y3, y4, y5, .im (wD s), y7, .im (.tuple (hd.map oD)), .ow (.list ((smL ws hd).map pW)), y10, y11, y12, y13, y14, y15, y16, y17, y18, y19, y20, y21, y22] = some (.list (((smL ws hd).filter fun p => decide (p.1 ≤ m + 2)).map fun p => wD p.2)) := fun y10 y16 => by
    generalize hd.map oD = HD at *
    generalize smL ws hd = SM at *
    simp -implicitDefEqProofs
    rw [lcL_map (p := fun p => decide (p.1 ≤ m + 2)) (g := fun p => wD p.2) (fun p hp => by
      have a0 : ixD (pW p) (.int 0) = some (.int p.1) := rfl
      simp [a0]) (fun p hp hq => by
      have a0 : ixD (pW p) (.int 1) = some (wD p.2) := rfl
      simp [a0]), Option.bind_some, lcB_small (by rw [List.length_map]; omega)]
  generalize (smL ws hd).map pW = SM at *
  generalize ((smL ws hd).filter fun p => decide (p.1 ≤ m + 2)).map (fun p => wD p.2) = ST at *
  generalize pW (bsW (smL ws hd)) = best at *
  generalize hd.map oD = HD at *
  simp -implicitDefEqProofs [T3_law, ↓c1]
  rw [q1]
  simp -implicitDefEqProofs [e3, e1, mn, s1, e2, ↓c3, s2, hT]
end
end Hd
end

/-! part: K36x -/
section
set_option Elab.async false
set_option linter.all false
set_option maxRecDepth 100000
set_option maxHeartbeats 400000
namespace Hd
open PySem PySem.Spec Q
section
variable (ns : List Int) (ws : List W) (hws : okS ws) (h7 : ws.length ≤ 7) (hp : ws.Pairwise (fun a b => wlt a b = true))
include hws h7 hp
theorem law_T2 (m : Int) (hm : 0 ≤ m ∧ m ≤ 3) (y3 y4 y5 y6 y7 y8 y9 y10 y11 y12 y13 y14 y15 y16 y17 y18 y19 y20 y21 y22 : Sl) :
    T2_law [.im (.list (ns.map .int)), .im (.tuple (ws.map wD)), .im (.int m), y3, y4, y5, y6, y7, y8, y9, y10, y11, y12, y13, y14, y15, y16, y17, y18, y19, y20, y21, y22] = some (.rt (.bool true)) := by
  have hlen := line_ge
  have hww := hws.1
  have hc3 : Ph__law_cell [.list (ns.map .int), .int 3] = some (.int (ns[3]?.getD 0)) := by have := e_cell ns 3; simpa using this
  have ew := e_word (ns[3]?.getD 0 % 1000000)
  have hs := mkw_ok (ns[3]?.getD 0 % 1000000)
  generalize mkw (ns[3]?.getD 0 % 1000000) = s at *
  have c1 : fLc (fI (vF 1)) (sN 10) (fYes) (fTup (aCons (fB (Ph__law_gap) (aCons (vF 10) (aCons (vF 6) (aNil)))) (aCons (vF 10) (aNil)))) [10]
      [.im (.list (ns.map .int)), .im (.tuple (ws.map wD)), .im (.int m), y3, y4, y5, .im (wD s), y7, y8, y9, y10, y11, y12, y13, y14, y15, y16, y17, y18, y19, y20, y21, y22] = some (.list ((nrL ws s).map pW)) := by
    simp -implicitDefEqProofs
    rw [lcL_all (g := fun w => pW (gp w s, w)) (by simp) (fun w hw => by
      have e7 := e_law_gap w s (okW_len (hws.2 w hw)) (okW_len hs)
      simp [e7, pW]), Option.bind_some, lcB_small (by simp; omega)]
    unfold nrL
    rw [List.map_map]
    rfl
  have hne : ws ≠ [] := fun z => by rw [z] at hww; simp at hww
  have hnr : nrL ws s ≠ [] := by simpa [nrL] using hne
  have mn := minA_pW hnr
  have nm := near_min ws s hne
  have a0 : ixD (pW (bsW (nrL ws s))) (.int 0) = some (.int (lm (ws.map fun w => gp w s))) := by
    show some (PyData.int (bsW (nrL ws s)).1) = _
    rw [nm]
  have e1 := e_heard_as ws s hws hp hs
  have hha : haF ws s = .tuple [.int (lm (ws.map fun w => gp w s)), .tuple ((ws.filter fun w => decide (gp w s = lm (ws.map fun w => gp w s))).map wD)] := rfl
  have hfl : (ws.filter fun w => decide (gp w s = lm (ws.map fun w => gp w s))).length ≤ ws.length := List.length_filter_le ..
  have s1 : Ph__law_same 4 [haF ws s, haF ws s] = some (.bool true) := e_same_r 4 _ (tame_two rfl (tame_mk (n := 2) (tame_w 1) _ (by omega)))
  have hfe : ((nrL ws s).filter fun p => decide (p.1 = lm (ws.map fun w => gp w s))).map (fun p => wD p.2) = (ws.filter fun w => decide (gp w s = lm (ws.map fun w => gp w s))).map wD := by
    unfold nrL
    rw [List.filter_map, List.map_map]
    rfl
  have hnl : (nrL ws s).length ≤ 7 := by simp [nrL]; omega
  have hT := fun z7 => law_T3 ns ws s hws h7 hp hs m hm y3 y4 y5 z7 y8 y9 y10 y11 y12 y13 y14 y15 y16 y17 y18 y19 y20 y21 y22
  have c2 : fLc (fI (vF 7)) (sT 2 (sCons (sN 22) (sCons (sN 10) (sNil)))) (fT (f2 eqD (vF 22) (f2 ixD (fB minA (aCons (vF 7) (aNil))) (cD (.int 0))))) (vF 10) [22, 10]
      [.im (.list (ns.map .int)), .im (.tuple (ws.map wD)), .im (.int m), y3, y4, y5, .im (wD s), .im (.list ((nrL ws s).map pW)), y8, y9, y10, y11, y12, y13, y14, y15, y16, y17, y18, y19, y20, y21, y22] = some (.list ((ws.filter fun w => decide (gp w s = lm (ws.map fun w => gp w s))).map wD)) := by
    rw [← hfe]
    clear c1 hT hfe s1 hfl hha e1 nm
    generalize lm (ws.map fun w => gp w s) = mm at *
    generalize pW (bsW (nrL ws s)) = best at *
    generalize hNL : nrL ws s = NL at *
    have hmn : minA [.list (NL.map pW)] = some best := mn
    generalize hNP : PyData.list (NL.map pW) = NP at *
    have hwk : walkD NP = some (NL.map pW) := by rw [← hNP]; rfl
    simp -implicitDefEqProofs [hwk]
    rw [lcL_map (p := fun p => decide (p.1 = mm)) (g := fun p => wD p.2) (fun p hp => by
      have hsT : ∀ ρ : Rho, sT 2 (sCons (sN 22) (sCons (sN 10) sNil)) (pW p) ρ = some ((ρ.set 22 (.im (.int p.1))).set 10 (.im (wD p.2))) := fun ρ => rfl
      by_cases c : p.1 = mm <;> simp [hsT, hmn, a0, c]) (fun p hp hq => by
      have hsT : ∀ ρ : Rho, sT 2 (sCons (sN 22) (sCons (sN 10) sNil)) (pW p) ρ = some ((ρ.set 22 (.im (.int p.1))).set 10 (.im (wD p.2))) := fun ρ => rfl
      simp [hsT]), Option.bind_some, lcB_small (by
        have : (NL.filter fun p => decide (p.1 = mm)).length ≤ NL.length := List.length_filter_le ..
        rw [List.length_map]; omega)]
  rw [hha] at e1 s1
  clear hha hfe
  generalize (ws.filter fun w => decide (gp w s = lm (ws.map fun w => gp w s))).map wD = FW at *
  generalize lm (ws.map fun w => gp w s) = mm at *
  generalize pW (bsW (nrL ws s)) = best at *
  generalize (nrL ws s).map pW = NP at *
  simp -implicitDefEqProofs [T2_law, hc3, ew, ↓c1, e1, mn, a0, ↓c2, s1, hT]
/-! pairs and gaps -/
def prD (m : Int) (L : List (W × W)) : D := .list ((L.filter fun p => decide (gp2 p ≤ m)).map pD2)
theorem pg_turn (m : Int) (L : List (W × W)) (hL : L.length ≤ 500) (i j : Nat) (hi : i < ws.length) (hj : j < ws.length) (y6 y7 y8 y9 y10 y11 y12 y13 y14 y15 y16 y17 y18 y19 y20 y21 y22 : Sl) :
    turnD (sN 15) L_law_1 (.int (j : Nat)) [.im (.list (ns.map .int)), .im (.tuple (ws.map wD)), .im (.int m), .ow (prD m L), .ow (.list ((L.map gp2).map .int)), .im (.int (i : Nat)), y6, y7, y8, y9, y10, y11, y12, y13, y14, y15, y16, y17, y18, y19, y20, y21, y22] =
      some (.nx [.im (.list (ns.map .int)), .im (.tuple (ws.map wD)), .im (.int m), .ow (prD m (L ++ [(ws.getD i [], ws.getD j [])])), .ow (.list (((L ++ [(ws.getD i [], ws.getD j [])]).map gp2).map .int)), .im (.int (i : Nat)), y6, y7, y8, y9, y10, y11, y12, y13, y14, .im (.int (j : Nat)), y16, y17, y18, y19, y20, y21, y22]) := by
  have hlen := line_ge
  have a1 := wget ws hi
  have a2 := wget ws hj
  have e7 := e_law_gap (ws.getD i []) (ws.getD j []) (okW_len (getD_ok hws.2 hi)) (okW_len (getD_ok hws.2 hj))
  have hfl : (L.filter fun p => decide (gp2 p ≤ m)).length ≤ L.length := List.length_filter_le ..
  generalize ws.getD i [] = a at *
  generalize ws.getD j [] = b at *
  have h1 : ((L.map gp2).map PyData.int).length < sizeLine := by simp; omega
  have h2 : ((L.filter fun p => decide (gp2 p ≤ m)).map pD2).length < sizeLine := by rw [List.length_map]; omega
  have h3 : ((L ++ [(a, b)]).map gp2).map PyData.int = (L.map gp2).map PyData.int ++ [.int (gp a b)] := by
    rw [List.map_append, List.map_append]; rfl
  have a3 : L2.atI ((L.map gp2).map PyData.int ++ [.int (gp a b)]) (-1) = some (.int (gp a b)) := by
    rw [← h3]
    have := at_neg (mk := PyData.int) ((L ++ [(a, b)]).map gp2) 0 (by simp)
    rw [this]
    simp [gp2]
  have h4 : (L ++ [(a, b)]).filter (fun p => decide (gp2 p ≤ m)) = L.filter (fun p => decide (gp2 p ≤ m)) ++ (if gp a b ≤ m then [(a, b)] else []) := by
    rw [List.filter_append]
    congr 1
    by_cases c : gp a b ≤ m
    · rw [if_pos c, List.filter_cons, if_pos (by exact decide_eq_true c)]; rfl
    · have c3 : ¬ decide (gp2 (a, b) ≤ m) = true := fun z => c (of_decide_eq_true z)
      rw [if_neg c, List.filter_cons, if_neg c3]; rfl
  unfold prD
  rw [h3, h4, List.map_append]
  generalize (L.map gp2).map PyData.int = G at *
  generalize (L.filter fun p => decide (gp2 p ≤ m)).map pD2 = P at *
  by_cases c : gp a b ≤ m
  · rw [if_pos c]
    have c2 : [(a, b)].map pD2 = [.tuple [wD a, wD b]] := rfl
    rw [c2]
    simp -implicitDefEqProofs [L_law_1, a1, a2, e7, h1, h2, a3, c]
  · rw [if_neg c]
    simp -implicitDefEqProofs [L_law_1, a1, a2, e7, h1, h2, a3, c]
theorem drop_take_s (i k : Nat) (h : i + 1 + k < ws.length) (v : W) : ((ws.drop (i + 1)).take (k + 1)).map (fun b => (v, b)) = ((ws.drop (i + 1)).take k).map (fun b => (v, b)) ++ [(v, ws.getD (i + 1 + k) [])] := by
  have hk : k < (ws.drop (i + 1)).length := by simp; omega
  rw [List.take_add_one, List.map_append]
  congr 1
  rw [List.getElem?_eq_getElem hk]
  simp [h]
theorem pg_row (m : Int) (i : Nat) (hi : i < ws.length) (y5 y6 y7 y8 y9 y10 y11 y12 y13 y14 y15 y16 y17 y18 y19 y20 y21 y22 : Sl) :
    ∃ z15, turnD (sN 5) L_law_2 (.int (i : Nat)) [.im (.list (ns.map .int)), .im (.tuple (ws.map wD)), .im (.int m), .ow (prD m (upI ws i)), .ow (.list (((upI ws i).map gp2).map .int)), y5, y6, y7, y8, y9, y10, y11, y12, y13, y14, y15, y16, y17, y18, y19, y20, y21, y22] =
      some (.nx [.im (.list (ns.map .int)), .im (.tuple (ws.map wD)), .im (.int m), .ow (prD m (upI ws (i + 1))), .ow (.list (((upI ws (i + 1)).map gp2).map .int)), .im (.int (i : Nat)), y6, y7, y8, y9, y10, y11, y12, y13, y14, z15, y16, y17, y18, y19, y20, y21, y22]) := by
  have ul := upI_len ws h7 i
  have r2 := rg2_n (lo := (i : Int) + 1) (hi := (ws.length : Nat)) (by omega) (by omega)
  have hcnt : (((ws.length : Nat) : Int) - ((i : Int) + 1)).toNat = ws.length - (i + 1) := by omega
  rw [hcnt] at r2
  obtain ⟨ρ', q1, x15, q2⟩ := forL_all (step := turnD (sN 15) L_law_1) (xs := List.range (ws.length - (i + 1))) (mk := fun k => .int ((i : Int) + 1 + (k : Nat)))
    (fun pre (ρ : Rho) => ∃ x15, ρ = [.im (.list (ns.map .int)), .im (.tuple (ws.map wD)), .im (.int m), .ow (prD m (upI ws i ++ ((ws.drop (i + 1)).take pre.length).map fun b => (ws.getD i [], b))), .ow (.list (((upI ws i ++ ((ws.drop (i + 1)).take pre.length).map fun b => (ws.getD i [], b)).map gp2).map .int)), .im (.int (i : Nat)), y6, y7, y8, y9, y10, y11, y12, y13, y14, x15, y16, y17, y18, y19, y20, y21, y22])
    [.im (.list (ns.map .int)), .im (.tuple (ws.map wD)), .im (.int m), .ow (prD m (upI ws i)), .ow (.list (((upI ws i).map gp2).map .int)), .im (.int (i : Nat)), y6, y7, y8, y9, y10, y11, y12, y13, y14, y15, y16, y17, y18, y19, y20, y21, y22] ⟨y15, by simp⟩ (by
    rintro pre post ρ k ⟨z15, rfl⟩ hx
    obtain ⟨g1, g2, g3⟩ := range_split hx
    rw [List.length_append, List.length_singleton, ← g1, drop_take_s ws hws h7 hp i k (by omega), ← List.append_assoc]
    have hll : (upI ws i ++ ((ws.drop (i + 1)).take k).map fun b => (ws.getD i [], b)).length ≤ 500 := by
      simp only [List.length_append, List.length_map, List.length_take, List.length_drop]
      omega
    generalize (upI ws i ++ ((ws.drop (i + 1)).take k).map fun b => (ws.getD i [], b)) = L at *
    have st := pg_turn ns ws hws h7 hp m L hll i (i + 1 + k) hi (by omega) y6 y7 y8 y9 y10 y11 y12 y13 y14 z15 y16 y17 y18 y19 y20 y21 y22
    rw [show ((i + 1 + k : Nat) : Int) = (i : Int) + 1 + (k : Nat) by omega] at st
    exact ⟨_, .inl st, _, rfl⟩)
  rw [List.length_range, List.take_of_length_le (by simp), ← upI_s] at q2
  subst q2
  refine ⟨x15, ?_⟩
  generalize prD m (upI ws i) = P1 at *
  generalize prD m (upI ws (i + 1)) = P2 at *
  generalize ((upI ws i).map gp2).map PyData.int = G1 at *
  generalize ((upI ws (i + 1)).map gp2).map PyData.int = G2 at *
  simp -implicitDefEqProofs [L_law_2, r2]
  exact q1
theorem law_T1 (m : Int) (hm : 0 ≤ m ∧ m ≤ 3) (y3 y4 y5 y6 y7 y8 y9 y10 y11 y12 y13 y14 y15 y16 y17 y18 y19 y20 y21 y22 : Sl) :
    T1_law [.im (.list (ns.map .int)), .im (.tuple (ws.map wD)), .im (.int m), y3, y4, y5, y6, y7, y8, y9, y10, y11, y12, y13, y14, y15, y16, y17, y18, y19, y20, y21, y22] = some (.rt (.bool true)) := by
  have hlen := line_ge
  have hww := hws.1
  have r2 := rg1_n (k := ws.length) (by omega)
  have lw := li_w ws (by omega)
  have e1 := e_web ws m hws h7 hp (by omega) (.list (ws.map wD)) (.inr rfl)
  have e2 := e_safe ws hws h7 hp
  have ul := upI_len ws h7 ws.length
  have hfl : ((upI ws ws.length).filter fun p => decide (gp2 p ≤ m)).length ≤ 49 := by
    have : ((upI ws ws.length).filter fun p => decide (gp2 p ≤ m)).length ≤ (upI ws ws.length).length := List.length_filter_le ..
    omega
  have s1 : Ph__law_same 4 [.tuple (((upI ws ws.length).filter fun p => decide (gp2 p ≤ m)).map pD2), .tuple (((upI ws ws.length).filter fun p => decide (gp2 p ≤ m)).map pD2)] = some (.bool true) := e_same_r 4 _ (tame_mk (n := 3) (fun (p : W × W) => tame_two (tame_w 1 p.1) (tame_w 1 p.2)) ((upI ws ws.length).filter fun p => decide (gp2 p ≤ m)) (by omega))
  have hT := fun z3 z4 z5 z15 => law_T2 ns ws hws h7 hp m hm z3 z4 z5 y6 y7 y8 y9 y10 y11 y12 y13 y14 z15 y16 y17 y18 y19 y20 y21 y22
  obtain ⟨ρ', q1, x5, x15, q2⟩ := forL_all (step := turnD (sN 5) L_law_2) (xs := List.range ws.length) (mk := fun i => .int (i : Nat))
    (fun pre (ρ : Rho) => ∃ x5 x15, ρ = [.im (.list (ns.map .int)), .im (.tuple (ws.map wD)), .im (.int m), .ow (prD m (upI ws pre.length)), .ow (.list (((upI ws pre.length).map gp2).map .int)), x5, y6, y7, y8, y9, y10, y11, y12, y13, y14, x15, y16, y17, y18, y19, y20, y21, y22])
    [.im (.list (ns.map .int)), .im (.tuple (ws.map wD)), .im (.int m), .ow (.list []), .ow (.list []), y5, y6, y7, y8, y9, y10, y11, y12, y13, y14, y15, y16, y17, y18, y19, y20, y21, y22] ⟨_, _, rfl⟩ (by
    rintro pre post ρ i ⟨z5, z15, rfl⟩ hx
    obtain ⟨g1, g2, g3⟩ := range_split hx
    subst g1
    obtain ⟨w15, st⟩ := pg_row ns ws hws h7 hp m pre.length g2 z5 y6 y7 y8 y9 y10 y11 y12 y13 y14 z15 y16 y17 y18 y19 y20 y21 y22
    refine ⟨_, .inl st, .im (.int (pre.length : Nat)), w15, ?_⟩
    rw [List.length_append, List.length_singleton])
  subst q2
  rw [List.length_range] at q1
  have hga : ((upI ws ws.length).map gp2) = gaL ws := rfl
  rw [hga] at q1
  unfold prD at q1
  by_cases c : gaL ws = []
  · have hsf : sfF ws = 8 := if_pos c
    rw [c, List.map_nil] at q1
    have e0 : neD (.list []) (.list []) = some (.bool false) := rfl
    rw [hsf] at e2
    generalize ((upI ws ws.length).filter fun p => decide (gp2 p ≤ m)).map pD2 = PL at *
    have hwl : (ws.map wD).length = ws.length := by simp
    generalize ws.length = n at *
    generalize ws.map wD = WD at *
    simp -implicitDefEqProofs [T1_law, hwl, r2]
    rw [q1]
    simp -implicitDefEqProofs [lw, e1, s1, e2, e0, hT]
  · have hsf : sfF ws = (lm (gaL ws) - 1) / 2 := if_neg c
    have h0 := (nice_lst nice_int).ne (by decide) (gaL ws) []
    rw [List.map_nil, decide_eq_false c] at h0
    have mn := minA_lm c
    rw [hsf] at e2
    generalize ((upI ws ws.length).filter fun p => decide (gp2 p ≤ m)).map pD2 = PL at *
    generalize lm (gaL ws) = g at *
    generalize (gaL ws).map PyData.int = GL at *
    have hwl : (ws.map wD).length = ws.length := by simp
    generalize ws.length = n at *
    generalize ws.map wD = WD at *
    simp -implicitDefEqProofs [T1_law, hwl, r2]
    rw [q1]
    simp -implicitDefEqProofs [lw, e1, s1, e2, h0, mn, hT]
end
theorem e_law (ns : List Int) : Ph_law [.list (ns.map .int)] = some (.bool true) := by
  have hlen := line_ge
  have hc1 : Ph__law_cell [.list (ns.map .int), .int 1] = some (.int (ns[1]?.getD 0)) := by have := e_cell ns 1; simpa using this
  have hc2 : Ph__law_cell [.list (ns.map .int), .int 2] = some (.int (ns[2]?.getD 0)) := by have := e_cell ns 2; simpa using this
  obtain ⟨k, hk, hk2⟩ := mod_nat (ns[1]?.getD 0) (show (0 : Int) < 7 by decide)
  have hn : ∃ l : List Int, l.length = k + 1 ∧ Ph__law_numbers [.list (ns.map .int), .int 0, .int (1 + (k : Int))] = some (.list (l.map .int)) := by
    obtain ⟨l, h1, h2⟩ := e_numbers ns 0 (k + 1) (by omega)
    exact ⟨l, h1, by rw [show (1 + (k : Int)) = ((k + 1 : Nat) : Int) by omega]; exact h2⟩
  obtain ⟨q, hq, hn⟩ := hn
  obtain ⟨hws, h7, hp⟩ := ws_props q (by omega)
  have ew := e_law_words q (by omega)
  generalize wsF q = ws at *
  have hm0 := Int.emod_nonneg (ns[2]?.getD 0) (show (4 : Int) ≠ 0 by decide)
  have hm1 := Int.emod_lt_of_pos (ns[2]?.getD 0) (show (0 : Int) < 4 by decide)
  have hT := law_T1 ns ws hws h7 hp (ns[2]?.getD 0 % 4) (by omega) .un .un .un .un .un .un .un .un .un .un .un .un .un .un .un .un .un .un .un .un
  rw [Ph_law, b_law_eq]
  simp -implicitDefEqProofs [b_law2, hc1, hc2]
  rw [hk]
  simp -implicitDefEqProofs [hn, ew, hc2, hT]
end Hd
end

theorem PySem.Challenge.cw_playground_k36_words_near_and_ladders_holds : PySem.Challenge.rw_playground_k36_words_near_and_ladders.Holds := by
  exact law_from fun ns _ => Hd.e_law ns
