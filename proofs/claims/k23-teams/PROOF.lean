import PyProof.Rows.All
import Wide.All
import OpenK.AllK
import Wide.FinOn
import HandS.ForMost
import HandS.Deep
import HandS.Conv
import HandS.Star
import HandS.TupAny
import HandS.Defaults
import HandS.IsInst
import HandS.Style
import HandS.Flow
import HandS.TupMul
import HandS.Strs
import KE.DataCmp
import KE.DataMinMax
import KE.SortData
import KE.DataAny
import KE.KTupSum
import HandS.Zip
import HandS.Rev
import KE.GoesEnum
import HandS.SetFor
import HandS.Head0
import HandS.Head1
import HandS.Head2
import HandS.HeadEnd
import HandS.HeadHook1
import HandS.HeadHook2
import KE.DataFind
import HandS.Gcd
import KE.GoesZip
import KE.GoesMore
import HandS.Text
import KE.KMathGC
import HandS.SortKw
import PyProof.MaxThree
import HandS.Dict
import PyProof.SliceStr2
import HandS.Small
import PyProof.Rows.SortShellAny
import KE.KStateDown
import HandS.ForExc
import HandS.More
import HandS.Head3
import PySem.Challenge.RW_playground_k23_teams_even_and_picked
/-! part: Q1 -/
section
set_option Elab.async false
set_option linter.all false
set_option maxRecDepth 100000
set_option maxHeartbeats 4000000
namespace Q
open PySem PySem.Spec PyProof.Rows L2
abbrev D := PyData

/-! ### representation -/
/-- a tuple whose object is known, or of the written part -/
def TupAt (K : PySem.W.Frag) (F : Hp) (a : Addr) (xs : List V) : Prop :=
  (∃ o, F a = some (.frz o (.tup xs)) ∧ o.cls = .type "tuple" ∧ o.dict = none) ∨
    ∃ (o : Obj) (its : Array Value) (n : Nat), K.lookup a = some o ∧ o.cls = .type "tuple" ∧ o.dict = none ∧ o.data = .seq its n ∧ its.size ≤ sizeLine ∧ Vals xs its.toList
theorem TupAt.sq {K : PySem.W.Frag} {F : Hp} {a : Addr} {xs : List V} (h : TupAt K F a xs) : SqT K F a xs := by
  rcases h with ⟨o, h, _⟩ | ⟨o, its, n, h1, h2, _, h4, h5, h6⟩
  · exact .inl (.inr ⟨o, h⟩)
  · exact .inr ⟨o, its, n, h1, h2, h4, h5, h6⟩
/-- a dict's key as a datum -/
def kD : Key → D
  | .inl i => .int i
  | .inr x => .str x
mutual
inductive Rep (K : PySem.W.Frag) (F : Hp) : V → D → Prop
  | non : Rep K F .non .none
  | bl (b : Bool) : Rep K F (.bl b) (.bool b)
  | int (i : Int) : Rep K F (.int i) (.int i)
  | str (x : Str) : Rep K F (.str x) (.str x)
  | lst {a : Addr} {xs : List V} {ds : List D} : SqL K F a xs → RepA K F xs ds → Rep K F (.ref a) (.list ds)
  | tup {a : Addr} {xs : List V} {ds : List D} : TupAt K F a xs → RepA K F xs ds → Rep K F (.ref a) (.tuple ds)
  | dct {a : Addr} {ks : List (Key × V)} {es : List (D × D)} : Rd F a (.dK ks) → RepK K F ks es → Rep K F (.ref a) (.dict es)
inductive RepA (K : PySem.W.Frag) (F : Hp) : List V → List D → Prop
  | nil : RepA K F [] []
  | cons {v : V} {vs : List V} {d : D} {ds : List D} : Rep K F v d → RepA K F vs ds → RepA K F (v :: vs) (d :: ds)
inductive RepK (K : PySem.W.Frag) (F : Hp) : List (Key × V) → List (D × D) → Prop
  | nil : RepK K F [] []
  | cons {k : Key} {v : V} {ks : List (Key × V)} {d : D} {es : List (D × D)} : Rep K F v d → RepK K F ks es → RepK K F ((k, v) :: ks) ((kD k, d) :: es)
end
theorem _root_.L2.Same.rd {H H' : Hp} {a : Addr} {u : HO} (e : Same H H') (h : Rd H a u) : Rd H' a u := by
  rcases h with h | ⟨o, h⟩
  · exact .inl (e _ _ h)
  · exact .inr ⟨o, e _ _ h⟩
/-! data without dicts -/
mutual
def nd : D → Bool
  | .dict _ => false
  | .list xs | .tuple xs => ndA xs
  | _ => true
def ndA : List D → Bool
  | [] => true
  | x :: xs => nd x && ndA xs
end
mutual
theorem nd_lay : ∀ d : D, d.canLay0 = true → nd d = true
  | .none, _ => by rw [nd] <;> intros <;> simp_all
  | .bool _, _ => by rw [nd] <;> intros <;> simp_all
  | .int _, _ => by rw [nd] <;> intros <;> simp_all
  | .str _, _ => by rw [nd] <;> intros <;> simp_all
  | .list xs, h => by rw [nd]; exact nd_layA xs (by simpa [PyData.canLay0] using h)
  | .tuple xs, h => by rw [nd]; exact nd_layA xs (by simpa [PyData.canLay0] using h)
  | .dict _, h => by simp [PyData.canLay0] at h
theorem nd_layA : ∀ ds : List D, PyData.canLayAll0 ds = true → ndA ds = true
  | [], _ => by rw [ndA]
  | x :: xs, h => by
    rw [ndA]
    rw [PyData.canLayAll0, Bool.and_eq_true] at h
    rw [nd_lay x h.1, nd_layA xs h.2]
    rfl
end
theorem nd_shaped {d : D} (h : SeqAt.shaped d = true) : nd d = true := nd_lay d (SeqAt.canLay_of_shaped h)
theorem _root_.L2.Same.sqT {K : PySem.W.Frag} {H H' : Hp} {a : Addr} {xs : List V} (e : Same H H') (h : SqT K H a xs) : SqT K H' a xs := by
  rcases h with (h | ⟨o, h⟩) | h
  · exact .inl (.inl (e _ _ h))
  · exact .inl (.inr ⟨o, e _ _ h⟩)
  · exact .inr h
theorem TupAt.mono {K : PySem.W.Frag} {H H' : Hp} {a : Addr} {xs : List V} (e : Same H H') (h : TupAt K H a xs) : TupAt K H' a xs := by
  rcases h with ⟨o, h, r⟩ | h
  · exact .inl ⟨o, e _ _ h, r⟩
  · exact .inr h
section
variable {K : PySem.W.Frag} {F F' : Hp}
mutual
theorem Rep.mono (e : Same F F') : ∀ {v : V} {d : D}, Rep K F v d → Rep K F' v d
  | _, _, .non => .non
  | _, _, .bl b => .bl b
  | _, _, .int i => .int i
  | _, _, .str x => .str x
  | _, _, .lst h r => .lst (e.seq h) (RepA.mono e r)
  | _, _, .tup h r => .tup (h.mono e) (RepA.mono e r)
  | _, _, .dct h r => .dct (e.rd h) (RepK.mono e r)
theorem RepA.mono (e : Same F F') : ∀ {vs : List V} {ds : List D}, RepA K F vs ds → RepA K F' vs ds
  | _, _, .nil => .nil
  | _, _, .cons h r => .cons (Rep.mono e h) (RepA.mono e r)
theorem RepK.mono (e : Same F F') : ∀ {ks : List (Key × V)} {es : List (D × D)}, RepK K F ks es → RepK K F' ks es
  | _, _, .nil => .nil
  | _, _, .cons h r => .cons (Rep.mono e h) (RepK.mono e r)
end
mutual
theorem Rep.dp : ∀ {v : V} {d : D}, Rep K F v d → nd d = true → Dp K F v d
  | _, _, .non, _ => .non
  | _, _, .bl b, _ => .bl b
  | _, _, .int i, _ => .int i
  | _, _, .str x, _ => .str x
  | _, _, .lst h r, n => .lst h (RepA.dp r (by rw [nd] at n; exact n))
  | _, _, .tup h r, n => .tup h.sq (RepA.dp r (by rw [nd] at n; exact n))
  | _, _, .dct h r, n => by rw [nd] at n; cases n
theorem RepA.dp : ∀ {vs : List V} {ds : List D}, RepA K F vs ds → ndA ds = true → DpAll K F vs ds
  | _, _, .nil, _ => .nil
  | _, _, .cons h r, n => .cons (Rep.dp h (by rw [ndA, Bool.and_eq_true] at n; exact n.1)) (RepA.dp r (by rw [ndA, Bool.and_eq_true] at n; exact n.2))
end
theorem RepA.length : ∀ {vs : List V} {ds : List D}, RepA K F vs ds → vs.length = ds.length
  | _, _, .nil => rfl
  | _, _, .cons _ r => congrArg Nat.succ (RepA.length r)
theorem RepA.get : ∀ {vs : List V} {ds : List D} {i : Nat} {d : D}, RepA K F vs ds → ds[i]? = some d → ∃ v, vs[i]? = some v ∧ Rep K F v d
  | _, _, _, _, .nil, e => by simp at e
  | _, _, 0, _, .cons h _, e => by simp at e; subst e; exact ⟨_, rfl, h⟩
  | _, _, i + 1, _, .cons _ r, e => by
    obtain ⟨v, h1, h2⟩ := RepA.get (i := i) r (by simpa using e)
    exact ⟨v, by simpa using h1, h2⟩
theorem RepA.getV : ∀ {vs : List V} {ds : List D} {i : Nat} {v : V}, RepA K F vs ds → vs[i]? = some v → ∃ d, ds[i]? = some d ∧ Rep K F v d
  | _, _, _, _, .nil, e => by simp at e
  | _, _, 0, _, .cons h _, e => by simp at e; subst e; exact ⟨_, rfl, h⟩
  | _, _, i + 1, _, .cons _ r, e => by
    obtain ⟨v, h1, h2⟩ := RepA.getV (i := i) r (by simpa using e)
    exact ⟨v, by simpa using h1, h2⟩
theorem RepA.append : ∀ {vs ws : List V} {ds es : List D}, RepA K F vs ds → RepA K F ws es → RepA K F (vs ++ ws) (ds ++ es)
  | _, _, _, _, .nil, s => s
  | _, _, _, _, .cons h r, s => .cons h (RepA.append r s)
theorem RepA.take : ∀ {vs : List V} {ds : List D} (n : Nat), RepA K F vs ds → RepA K F (vs.take n) (ds.take n)
  | _, _, 0, _ => by simp only [List.take_zero]; exact .nil
  | _, _, _ + 1, .nil => .nil
  | _, _, n + 1, .cons h r => .cons h (RepA.take n r)
theorem RepA.drop : ∀ {vs : List V} {ds : List D} (n : Nat), RepA K F vs ds → RepA K F (vs.drop n) (ds.drop n)
  | _, _, 0, r => by simpa using r
  | _, _, _ + 1, .nil => .nil
  | _, _, n + 1, .cons _ r => RepA.drop n r
theorem RepA.set : ∀ {vs : List V} {ds : List D} {v : V} {d : D} (i : Nat), RepA K F vs ds → Rep K F v d → RepA K F (vs.set i v) (ds.set i d)
  | _, _, _, _, _, .nil, _ => .nil
  | _, _, _, _, 0, .cons _ r, q => .cons q r
  | _, _, _, _, i + 1, .cons h r, q => .cons h (RepA.set i r q)
theorem RepA.eraseIdx : ∀ {vs : List V} {ds : List D} (i : Nat), RepA K F vs ds → RepA K F (vs.eraseIdx i) (ds.eraseIdx i)
  | _, _, _, .nil => .nil
  | _, _, 0, .cons _ r => r
  | _, _, i + 1, .cons h r => .cons h (RepA.eraseIdx i r)
theorem RepA.dropLast : ∀ {vs : List V} {ds : List D}, RepA K F vs ds → RepA K F vs.dropLast ds.dropLast
  | _, _, .nil => .nil
  | _, _, .cons _ .nil => .nil
  | _, _, .cons h (.cons h' r) => .cons h (RepA.dropLast (.cons h' r))
theorem RepA.reverse {vs : List V} {ds : List D} (h : RepA K F vs ds) : RepA K F vs.reverse ds.reverse := by
  match h with
  | .nil => exact .nil
  | .cons q r => rw [List.reverse_cons, List.reverse_cons]; exact RepA.append (RepA.reverse r) (.cons q .nil)
end
section
variable {K : PySem.W.Frag} {F F' : Hp}
theorem Rep.int_of {v : V} {i : Int} (h : Rep K F v (.int i)) : v = .int i := by cases h; rfl
theorem Rep.bl_of {v : V} {b : Bool} (h : Rep K F v (.bool b)) : v = .bl b := by cases h; rfl
theorem Rep.str_of {v : V} {x : Str} (h : Rep K F v (.str x)) : v = .str x := by cases h; rfl
theorem Rep.non_of {v : V} (h : Rep K F v .none) : v = .non := by cases h; rfl
theorem RepA.ints : ∀ {vs : List V} {ns : List Int}, RepA K F vs (ns.map .int) → vs = ns.map V.int
  | _, [], h => by cases h; rfl
  | _, n :: ns, h => by
    cases h with
    | cons h r => rw [Rep.int_of h, RepA.ints r]; rfl
theorem RepA.of_ints : ∀ (ns : List Int), RepA K F (ns.map V.int) (ns.map .int)
  | [] => .nil
  | n :: ns => .cons (.int n) (RepA.of_ints ns)
theorem RepA.bls : ∀ {vs : List V} {ns : List Bool}, RepA K F vs (ns.map .bool) → vs = ns.map V.bl
  | _, [], h => by cases h; rfl
  | _, n :: ns, h => by
    cases h with
    | cons h r => rw [Rep.bl_of h, RepA.bls r]; rfl
theorem RepA.strs : ∀ {vs : List V} {ns : List Str}, RepA K F vs (ns.map .str) → vs = ns.map V.str
  | _, [], h => by cases h; rfl
  | _, n :: ns, h => by
    cases h with
    | cons h r => rw [Rep.str_of h, RepA.strs r]; rfl
end

/-! ### slots, modes -/
/-- what holds the lists -/
inductive Kd where
  | l
  | t
  | d (ks : List Key)
inductive Sl where
  | un
  | im (d : D)
  | ow (d : D)
  /-- lists within a list, a tuple or a dict, all of them owned -/
  | dp (dss : Kd × List (List D))
abbrev Rho := List Sl
inductive Md where
  | pk | fz | fr
/-- a changing object at a, its parts frozen -/
def Own (K : PySem.W.Frag) (F H : Hp) (a : Addr) : D → Prop
  | .list ds => ∃ vs, H a = some (.lst vs) ∧ RepA K F vs ds
  | .dict es => ∃ ks, H a = some (.dK ks) ∧ RepK K F ks es
  | _ => False
structure Bs where
  F0 : Hp
  G : Hp
/-- F' adds to F only what H does not have -/
def New (F F' H : Hp) : Prop := ∀ a, F' a ≠ none → F a ≠ none ∨ H a = none
structure Ext (F H F' H' : Hp) : Prop where
  f : Same F F'
  h : Same H H'
  n : New F F' H
  s : Same F' H'
theorem New.refl {F H : Hp} : New F F H := fun _ h => .inl h
theorem Ext.refl {F H : Hp} (h : Same F H) : Ext F H F H := ⟨.refl _, .refl _, .refl, h⟩
theorem Ext.trans {F H F1 H1 F2 H2 : Hp} (a : Ext F H F1 H1) (b : Ext F1 H1 F2 H2) : Ext F H F2 H2 :=
  ⟨a.f.trans b.f, a.h.trans b.h, fun c q => (b.n c q).elim (a.n c) fun z => .inr (a.h.free z), b.s⟩
/-- what is known of one value -/
def Res (K : PySem.W.Frag) (m : Md) (H0 F H : Hp) (v : V) (d : D) : Prop := match m with
  | .pk => Rep K F v d ∨ ∃ a, v = .ref a ∧ F a = none ∧ Own K F H a d
  | .fz => Rep K F v d
  | .fr => ∃ a, v = .ref a ∧ H0 a = none ∧ F a = none ∧ Own K F H a d
theorem Own.there {K : PySem.W.Frag} {F H : Hp} {a : Addr} {d : D} (h : Own K F H a d) : H a ≠ none := by
  cases d with
  | list ds => obtain ⟨vs, e, _⟩ := h; rw [e]; exact fun z => nomatch z
  | dict es => obtain ⟨vs, e, _⟩ := h; rw [e]; exact fun z => nomatch z
  | _ => exact h.elim
theorem Own.mono {K : PySem.W.Frag} {F H F' H' : Hp} {a : Addr} {d : D} (e : Same F F') (e2 : Same H H') (h : Own K F H a d) : Own K F' H' a d := by
  cases d with
  | list ds => obtain ⟨vs, q, r⟩ := h; exact ⟨vs, e2 _ _ q, r.mono e⟩
  | dict es => obtain ⟨vs, q, r⟩ := h; exact ⟨vs, e2 _ _ q, r.mono e⟩
  | _ => exact h.elim
theorem Ext.keepNone {F H F' H' : Hp} (x : Ext F H F' H') {a : Addr} (h1 : F a = none) (h2 : H a ≠ none) : F' a = none := by
  cases q : F' a with
  | none => rfl
  | some o => exact ((x.n a (by rw [q]; exact fun z => nomatch z)).elim (fun z => z h1) fun z => h2 z).elim
theorem Res.mono {K : PySem.W.Frag} {m : Md} {H0 F H F' H' : Hp} {v : V} {d : D} (h : Res K m H0 F H v d) (x : Ext F H F' H') : Res K m H0 F' H' v d := by
  cases m with
  | pk =>
    rcases h with h | ⟨a, e, f, o⟩
    · exact .inl (h.mono x.f)
    · exact .inr ⟨a, e, x.keepNone f o.there, o.mono x.f x.h⟩
  | fz => exact Rep.mono x.f h
  | fr =>
    obtain ⟨a, e, h0, f, o⟩ := h
    exact ⟨a, e, h0, x.keepNone f o.there, o.mono x.f x.h⟩
/-- the object that holds the lists at bs -/
def CB (H : Hp) (a : Addr) (bs : List Addr) : Kd → Prop
  | .l => H a = some (.lst (bs.map V.ref))
  | .t => H a = some (.tup (bs.map V.ref))
  | .d ks => H a = some (.dK (ks.zip (bs.map V.ref))) ∧ ks.length = bs.length
def Cont (H : Hp) (a : Addr) (bs : List Addr) : Prop := ∃ k, CB H a bs k
theorem refs_inj : ∀ {bs cs : List Addr}, bs.map V.ref = cs.map V.ref → bs = cs
  | [], [], _ => rfl
  | [], _ :: _, h => by cases h
  | _ :: _, [], h => by cases h
  | b :: bs, c :: cs, h => by
    rw [List.map_cons, List.map_cons, List.cons.injEq] at h
    obtain ⟨h1, h2⟩ := h
    cases h1
    rw [refs_inj h2]
theorem zip_snd {α β : Type} : ∀ (xs : List α) (ys : List β), xs.length = ys.length → (xs.zip ys).map (·.2) = ys
  | [], [], _ => rfl
  | x :: xs, y :: ys, h => by rw [List.zip_cons_cons, List.map_cons, zip_snd xs ys (by simpa using h)]
  | [], _ :: _, h => by simp at h
  | _ :: _, [], h => by simp at h
theorem Cont.uniq {H : Hp} {a : Addr} {bs cs : List Addr} (h : Cont H a bs) (h2 : Cont H a cs) : bs = cs := by
  obtain ⟨k, h⟩ := h
  obtain ⟨k2, h2⟩ := h2
  cases k with
  | l =>
    cases k2 with
    | l => exact refs_inj (by have e := (show H a = _ from h).symm.trans (show H a = _ from h2); injection e with e; injection e)
    | t => have e := (show H a = _ from h).symm.trans (show H a = _ from h2); injection e with e; cases e
    | d ks => have e := (show H a = _ from h).symm.trans (show H a = _ from h2.1); injection e with e; cases e
  | t =>
    cases k2 with
    | l => have e := (show H a = _ from h).symm.trans (show H a = _ from h2); injection e with e; cases e
    | t => exact refs_inj (by have e := (show H a = _ from h).symm.trans (show H a = _ from h2); injection e with e; injection e)
    | d ks => have e := (show H a = _ from h).symm.trans (show H a = _ from h2.1); injection e with e; cases e
  | d ks =>
    cases k2 with
    | l => have e := (show H a = _ from h.1).symm.trans (show H a = _ from h2); injection e with e; cases e
    | t => have e := (show H a = _ from h.1).symm.trans (show H a = _ from h2); injection e with e; cases e
    | d ks2 =>
      have e := (show H a = _ from h.1).symm.trans (show H a = _ from h2.1)
      injection e with e
      injection e with e
      have e2 := congrArg (List.map (·.2)) e
      rw [zip_snd _ _ (by simpa using h.2), zip_snd _ _ (by simpa using h2.2)] at e2
      exact refs_inj e2
theorem CB.mono {H H' : Hp} {a : Addr} {bs : List Addr} {k : Kd} (e : Same H H') (h : CB H a bs k) : CB H' a bs k := by
  cases k with
  | l => exact e _ _ h
  | t => exact e _ _ h
  | d ks => exact ⟨e _ _ h.1, h.2⟩
theorem CB.there {H : Hp} {a : Addr} {bs : List Addr} {k : Kd} (h : CB H a bs k) : H a ≠ none := by
  cases k with
  | l => rw [show H a = _ from h]; exact fun z => nomatch z
  | t => rw [show H a = _ from h]; exact fun z => nomatch z
  | d ks => rw [h.1]; exact fun z => nomatch z
theorem CB.at {H H' : Hp} {a : Addr} {bs : List Addr} {k : Kd} (e : H' a = H a) (h : CB H a bs k) : CB H' a bs k := by
  cases k with
  | l => exact e.trans h
  | t => exact e.trans h
  | d ks => exact ⟨e.trans h.1, h.2⟩
theorem Cont.mono {H H' : Hp} {a : Addr} {bs : List Addr} (e : Same H H') (h : Cont H a bs) : Cont H' a bs := ⟨h.choose, h.choose_spec.mono e⟩
theorem Cont.there {H : Hp} {a : Addr} {bs : List Addr} (h : Cont H a bs) : H a ≠ none := h.choose_spec.there
theorem Cont.at {H H' : Hp} {a : Addr} {bs : List Addr} (e : H' a = H a) (h : Cont H a bs) : Cont H' a bs := ⟨h.choose, h.choose_spec.at e⟩
def SubL (K : PySem.W.Frag) (F H G : Hp) : List Addr → List (List D) → Prop
  | [], [] => True
  | b :: bs, ds :: dss => (F b = none ∧ G b = none ∧ ∃ vs, H b = some (.lst vs) ∧ RepA K F vs ds) ∧ SubL K F H G bs dss
  | _, _ => False
theorem SubL.mono {K : PySem.W.Frag} {F H F' H' G : Hp} (x : Ext F H F' H') : ∀ {bs : List Addr} {dss : List (List D)}, SubL K F H G bs dss → SubL K F' H' G bs dss
  | [], [], _ => trivial
  | b :: bs, ds :: dss, h => by
    obtain ⟨⟨h1, h2, vs, h3, h4⟩, h5⟩ := h
    exact ⟨⟨x.keepNone h1 (by rw [h3]; exact fun z => nomatch z), h2, vs, x.h _ _ h3, h4.mono x.f⟩, SubL.mono x h5⟩
  | [], _ :: _, h => h.elim
  | _ :: _, [], h => h.elim
theorem SubL.there {K : PySem.W.Frag} {F H G : Hp} : ∀ {bs : List Addr} {dss : List (List D)}, SubL K F H G bs dss → ∀ b ∈ bs, H b ≠ none ∧ F b = none ∧ G b = none
  | [], _, _ => fun b hb => nomatch hb
  | b :: bs, [], h => h.elim
  | b :: bs, ds :: dss, h => fun c hc => by
    obtain ⟨⟨h1, h2, vs, h3, h4⟩, h5⟩ := h
    rcases List.mem_cons.mp hc with rfl | hc
    · exact ⟨(by rw [h3]; exact fun z => nomatch z), h1, h2⟩
    · exact SubL.there h5 c hc
/-- away from bs nothing counts -/
theorem SubL.away {K : PySem.W.Frag} {F H F' H' G : Hp} (hs : Same F F') : ∀ {bs : List Addr} {dss : List (List D)}, SubL K F H G bs dss → (∀ b ∈ bs, F' b = F b ∧ H' b = H b) → SubL K F' H' G bs dss
  | [], [], _, _ => trivial
  | b :: bs, ds :: dss, h, e => by
    obtain ⟨⟨h1, h2, vs, h3, h4⟩, h5⟩ := h
    obtain ⟨e1, e2⟩ := e b List.mem_cons_self
    exact ⟨⟨by rw [e1]; exact h1, h2, vs, by rw [e2]; exact h3, h4.mono hs⟩, SubL.away hs h5 fun c hc => e c (List.mem_cons_of_mem _ hc)⟩
  | [], _ :: _, h, _ => h.elim
  | _ :: _, [], h, _ => h.elim
def SlOk (K : PySem.W.Frag) (F H G : Hp) (o : Option V) : Sl → Prop
  | .un => True
  | .im d => ∃ v, o = some v ∧ Rep K F v d
  | .ow d => ∃ a, o = some (.ref a) ∧ F a = none ∧ G a = none ∧ Own K F H a d
  | .dp dss => ∃ a bs, o = some (.ref a) ∧ F a = none ∧ G a = none ∧ CB H a bs dss.1 ∧ (a :: bs).Nodup ∧ SubL K F H G bs dss.2
/-- the state of a def's names -/
structure Rel (K : PySem.W.Frag) (B : Bs) (F H : Hp) (σ : L2.St) (ρ : Rho) : Prop where
  len : σ.length = ρ.length
  f0 : Same B.F0 F
  g : Same B.G H
  fh : Same F H
  nw : New B.F0 F B.G
  sl : ∀ (i : Nat) (o : Option V) (s : Sl), σ[i]? = some o → ρ[i]? = some s → SlOk K F H B.G o s
  sep : ∀ (i j : Nat) (d e : D) (a : Addr), i ≠ j → ρ[i]? = some (.ow d) → ρ[j]? = some (.ow e) → σ[i]? = some (some (.ref a)) → σ[j]? ≠ some (some (.ref a))
  sepD : ∀ (i j : Nat) (dss : Kd × List (List D)) (e : D) (a c : Addr) (bs : List Addr), ρ[i]? = some (.dp dss) → ρ[j]? = some (.ow e) → σ[i]? = some (some (.ref a)) → Cont H a bs → σ[j]? = some (some (.ref c)) → c ∉ a :: bs
  one : ∀ (i j : Nat) (d e : Kd × List (List D)), ρ[i]? = some (.dp d) → ρ[j]? = some (.dp e) → i = j
theorem SlOk.mono {K : PySem.W.Frag} {F H F' H' G : Hp} {o : Option V} {s : Sl} (h : SlOk K F H G o s) (x : Ext F H F' H') : SlOk K F' H' G o s := by
  cases s with
  | un => trivial
  | im d => obtain ⟨v, e, r⟩ := h; exact ⟨v, e, r.mono x.f⟩
  | ow d => obtain ⟨a, e, f, g, o⟩ := h; exact ⟨a, e, x.keepNone f o.there, g, o.mono x.f x.h⟩
  | dp dss => obtain ⟨a, bs, e, f, g, o, n, l⟩ := h; exact ⟨a, bs, e, x.keepNone f o.there, g, o.mono x.h, n, l.mono x⟩
/-- the lists of a slot -/
theorem Rel.lists {K : PySem.W.Frag} {B : Bs} {F H : Hp} {σ : L2.St} {ρ : Rho} (r : Rel K B F H σ ρ) {i : Nat} {dss : Kd × List (List D)} {a : Addr} (h1 : ρ[i]? = some (.dp dss)) (h2 : σ[i]? = some (some (.ref a))) : ∃ bs, F a = none ∧ B.G a = none ∧ Cont H a bs ∧ (a :: bs).Nodup ∧ SubL K F H B.G bs dss.2 := by
  obtain ⟨c, bs, e, f, g, o, n, l⟩ := r.sl i _ _ h2 h1
  cases e
  exact ⟨bs, f, g, ⟨_, o⟩, n, l⟩
theorem Rel.ext {K : PySem.W.Frag} {B : Bs} {F H F' H' : Hp} {σ : L2.St} {ρ : Rho} (r : Rel K B F H σ ρ) (x : Ext F H F' H') : Rel K B F' H' σ ρ :=
  ⟨r.len, r.f0.trans x.f, r.g.trans x.h, x.s, fun a q => (x.n a q).elim (r.nw a) fun z => .inr (r.g.free z), fun i o s h1 h2 => (r.sl i o s h1 h2).mono x, r.sep, fun i j dss e a c bs h1 h2 h3 h4 h5 => by
    obtain ⟨bs', _, _, o, _, _⟩ := r.lists h1 h3
    rw [h4.uniq (o.mono x.h)]
    exact r.sepD i j dss e a c bs' h1 h2 h3 o h5, r.one⟩

/-! ### readings and what they give -/
def SemE (K : PySem.W.Frag) (m : Md) (t : TE) (f : Rho → Option D) : Prop :=
  ∀ (B : Bs) (F H : Hp) (σ : L2.St) (ρ : Rho) (d : D) (Q : VK), Rel K B F H σ ρ → f ρ = some d → (∀ v F' H', Ext F H F' H' → Res K m H F' H' v d → Q v H') → t σ H Q
def SemT (K : PySem.W.Frag) (t : TT) (f : Rho → Option Bool) : Prop :=
  ∀ (B : Bs) (F H : Hp) (σ : L2.St) (ρ : Rho) (b : Bool) (Q : Bool → Hp → Prop), Rel K B F H σ ρ → f ρ = some b → (∀ F' H', Ext F H F' H' → Q b H') → t σ H Q
inductive ResA (K : PySem.W.Frag) (m : Md) (H0 F H : Hp) : List V → List D → Prop
  | nil : ResA K m H0 F H [] []
  | cons {v vs d ds} : Res K m H0 F H v d → ResA K m H0 F H vs ds → ResA K m H0 F H (v :: vs) (d :: ds)
theorem ResA.mono {K : PySem.W.Frag} {m : Md} {H0 F H F' H' : Hp} (x : Ext F H F' H') : ∀ {vs : List V} {ds : List D}, ResA K m H0 F H vs ds → ResA K m H0 F' H' vs ds
  | _, _, .nil => .nil
  | _, _, .cons h r => .cons (h.mono x) (ResA.mono x r)
theorem ResA.rep {K : PySem.W.Frag} {H0 F H : Hp} : ∀ {vs : List V} {ds : List D}, ResA K .fz H0 F H vs ds → RepA K F vs ds
  | _, _, .nil => .nil
  | _, _, .cons h r => .cons h (ResA.rep r)
theorem ResA.length {K : PySem.W.Frag} {m : Md} {H0 F H : Hp} : ∀ {vs : List V} {ds : List D}, ResA K m H0 F H vs ds → vs.length = ds.length
  | _, _, .nil => rfl
  | _, _, .cons _ r => congrArg Nat.succ (ResA.length r)
def SemA (K : PySem.W.Frag) (m : Md) (t : TA) (f : Rho → Option (List D)) : Prop :=
  ∀ (B : Bs) (F H : Hp) (σ : L2.St) (ρ : Rho) (ds : List D) (Q : List V → Hp → Prop), Rel K B F H σ ρ → f ρ = some ds → (∀ vs F' H', Ext F H F' H' → ResA K m H F' H' vs ds → Q vs H') → t σ H Q
structure DE (X : Cx) (m : Md) (e : Expr) (t : TE) (f : Rho → Option D) : Prop where
  p : PE X e t
  s : SemE X.K m t f
structure DT (X : Cx) (e : Expr) (t : TT) (f : Rho → Option Bool) : Prop where
  p : PT X e t
  s : SemT X.K t f
structure DA (X : Cx) (m : Md) (es : List Expr) (t : TA) (f : Rho → Option (List D)) : Prop where
  p : PA X es t
  s : SemA X.K m t f
  n : ∀ ρ ds, f ρ = some ds → ds.length = es.length
/-! ### modes -/
theorem fr_pk {K : PySem.W.Frag} {H0 F H : Hp} {v : V} {d : D} (h : Res K .fr H0 F H v d) : Res K .pk H0 F H v d := by
  obtain ⟨a, e, _, f, o⟩ := h
  exact .inr ⟨a, e, f, o⟩
theorem fz_pk {K : PySem.W.Frag} {H0 F H : Hp} {v : V} {d : D} (h : Res K .fz H0 F H v d) : Res K .pk H0 F H v d := .inl h
theorem same_upd {F : Hp} {a : Addr} {o : HO} (h : F a = none) : Same F (upd F a o) := fun b u q => by rw [upd_ne (ne_of_none q h)]; exact q
theorem new_upd {F H : Hp} {a : Addr} {o : HO} (h : H a = none) : New F (upd F a o) H := fun b q => by
  by_cases e : b = a
  · subst e; exact .inr h
  · rw [upd_ne e] at q; exact .inl q
theorem same_upd2 {F H : Hp} {a : Addr} {o : HO} (h : Same F H) (e : H a = some o) (f : F a = none) : Same (upd F a o) H := fun b u q => by
  by_cases z : b = a
  · subst z; rw [upd_same] at q; cases q; exact e
  · rw [upd_ne z] at q; exact h _ _ q
/-- a new object is frozen -/
theorem fr_fz {K : PySem.W.Frag} {F H F' H' : Hp} {v : V} {d : D} (x : Ext F H F' H') (h : Res K .fr H F' H' v d) : ∃ F2, Ext F H F2 H' ∧ Res K .fz H F2 H' v d := by
  obtain ⟨a, rfl, h0, f, o⟩ := h
  cases d with
  | list ds =>
    obtain ⟨vs, e, r⟩ := o
    have s1 : Same F' (upd F' a (.lst vs)) := same_upd f
    refine ⟨upd F' a (.lst vs), ⟨x.f.trans s1, x.h, fun c q => ?_, same_upd2 x.s e f⟩, .lst (.of upd_same) (r.mono s1)⟩
    by_cases z : c = a
    · subst z; exact .inr h0
    · rw [upd_ne z] at q; exact x.n c q
  | dict es =>
    obtain ⟨vs, e, r⟩ := o
    have s1 : Same F' (upd F' a (.dK vs)) := same_upd f
    refine ⟨upd F' a (.dK vs), ⟨x.f.trans s1, x.h, fun c q => ?_, same_upd2 x.s e f⟩, .dct (.of upd_same) (r.mono s1)⟩
    by_cases z : c = a
    · subst z; exact .inr h0
    · rw [upd_ne z] at q; exact x.n c q
  | _ => exact o.elim
theorem DE.frz {X : Cx} {e : Expr} {t : TE} {f : Rho → Option D} (h : DE X .fr e t f) : DE X .fz e t f := ⟨h.p, fun B F H σ ρ d Q r hf q => h.s B F H σ ρ d Q r hf fun v F' H' x rs => by
  obtain ⟨F2, x2, r2⟩ := fr_fz x rs
  exact q v F2 H' x2 r2⟩
theorem DE.frp {X : Cx} {e : Expr} {t : TE} {f : Rho → Option D} (h : DE X .fr e t f) : DE X .pk e t f := ⟨h.p, fun B F H σ ρ d Q r hf q => h.s B F H σ ρ d Q r hf fun v F' H' x rs => q v F' H' x (fr_pk rs)⟩
theorem DE.fzp {X : Cx} {e : Expr} {t : TE} {f : Rho → Option D} (h : DE X .fz e t f) : DE X .pk e t f := ⟨h.p, fun B F H σ ρ d Q r hf q => h.s B F H σ ρ d Q r hf fun v F' H' x rs => q v F' H' x (fz_pk rs)⟩
/-! ### names, constants -/
def vF (i : Nat) : Rho → Option D := fun ρ => match ρ[i]? with
  | some (.im d) => some d
  | _ => none
def vP (i : Nat) : Rho → Option D := fun ρ => match ρ[i]? with
  | some (.im d) => some d
  | some (.ow d) => some d
  | _ => none
def cD (d : D) : Rho → Option D := fun _ => some d
theorem Rel.at {K : PySem.W.Frag} {B : Bs} {F H : Hp} {σ : L2.St} {ρ : Rho} (r : Rel K B F H σ ρ) {i : Nat} {s : Sl} (h : ρ[i]? = some s) : ∃ o, σ[i]? = some o ∧ SlOk K F H B.G o s := by
  have hi : i < σ.length := by rw [r.len]; exact (List.getElem?_eq_some_iff.mp h).1
  exact ⟨σ[i], List.getElem?_eq_getElem hi, r.sl i _ s (List.getElem?_eq_getElem hi) h⟩
section
variable {X : Cx} {pos : Pos}
theorem sem_varF {K : PySem.W.Frag} {i : Nat} : SemE K .fz (tVar i) (vF i) := fun B F H σ ρ d Q r hf q => by
  unfold vF at hf
  split at hf
  · rename_i d' e
    cases hf
    obtain ⟨o, h1, v, rfl, h2⟩ := r.at e
    exact ⟨v, h1, q v F H (.refl r.fh) h2⟩
  · cases hf
theorem sem_varP {K : PySem.W.Frag} {i : Nat} : SemE K .pk (tVar i) (vP i) := fun B F H σ ρ d Q r hf q => by
  unfold vP at hf
  split at hf
  · rename_i d' e
    cases hf
    obtain ⟨o, h1, v, rfl, h2⟩ := r.at e
    exact ⟨v, h1, q v F H (.refl r.fh) (.inl h2)⟩
  · rename_i d' e
    cases hf
    obtain ⟨o, h1, a, rfl, h2, h3, h4⟩ := r.at e
    exact ⟨_, h1, q _ F H (.refl r.fh) (.inr ⟨a, rfl, h2, h4⟩)⟩
  · cases hf
theorem de_v (i : Nat) {x : Str} (hN : X.N[i]? = some x := by rfl) (hv : Vis X.env.scope x := by first | exact Or.inl rfl | exact Or.inr (Or.inl rfl) | exact Or.inr (Or.inr rfl)) (hd : (x == ("__debug__" : Str)) = false := by decide)
    (hcd : (x == ("__classdict__" : Str)) = false := by decide) : DE X .fz (.Name x pos) (tVar i) (vF i) := ⟨pe_var hN hv hd hcd, sem_varF⟩
theorem de_p (i : Nat) {x : Str} (hN : X.N[i]? = some x := by rfl) (hv : Vis X.env.scope x := by first | exact Or.inl rfl | exact Or.inr (Or.inl rfl) | exact Or.inr (Or.inr rfl)) (hd : (x == ("__debug__" : Str)) = false := by decide)
    (hcd : (x == ("__classdict__" : Str)) = false := by decide) : DE X .pk (.Name x pos) (tVar i) (vP i) := ⟨pe_var hN hv hd hcd, sem_varP⟩
theorem sem_c {K : PySem.W.Frag} {v : V} {d : D} (h : ∀ F, Rep K F v d) : SemE K .fz (tC v) (cD d) := fun B F H σ ρ d' Q r hf q => by
  cases hf
  exact q v F H (.refl r.fh) (h F)
theorem de_int {i : Int} {j : Nat} : DE X .fz (.Constant (.int i) j pos) (tC (.int i)) (cD (.int i)) := ⟨pe_int, sem_c fun _ => .int i⟩
theorem de_bl {b : Bool} {j : Nat} : DE X .fz (.Constant (.bool b) j pos) (tC (.bl b)) (cD (.bool b)) := ⟨pe_bl, sem_c fun _ => .bl b⟩
theorem de_non {j : Nat} : DE X .fz (.Constant .none j pos) (tC .non) (cD .none) := ⟨pe_non, sem_c fun _ => .non⟩
theorem de_str {x : Str} {j : Nat} : DE X .fz (.Constant (.str x) j pos) (tC (.str x)) (cD (.str x)) := ⟨pe_str, sem_c fun _ => .str x⟩
theorem de_globI {x : Str} {i : Int} (hg : Gl X x) (hm : ∃ t, X.mg x = some (.int i t)) (hd : (x == ("__debug__" : Str)) = false := by decide) : DE X .fz (.Name x pos) (tC (.int i)) (cD (.int i)) := by
  obtain ⟨t, hm⟩ := hm
  exact ⟨pe_glob hg hm ⟨t, rfl⟩ hd, sem_c fun _ => .int i⟩
theorem de_globS {x : Str} {z : Str} (hg : Gl X x) (hm : ∃ t, X.mg x = some (.str z t)) (hd : (x == ("__debug__" : Str)) = false := by decide) : DE X .fz (.Name x pos) (tC (.str z)) (cD (.str z)) := by
  obtain ⟨t, hm⟩ := hm
  exact ⟨pe_glob hg hm ⟨t, rfl⟩ hd, sem_c fun _ => .str z⟩
end
end Q
end

/-! part: Q2 -/
section
set_option Elab.async false
set_option linter.all false
set_option maxRecDepth 100000
set_option maxHeartbeats 4000000
namespace Q
open PySem PySem.Spec PyProof.Rows L2
/-! ### what a value known by Res gives -/
section
variable {K : PySem.W.Frag} {m : Md} {H0 F H : Hp} {v : V} {d : D}
theorem Res.any (h : Res K m H0 F H v d) : Res K .pk H0 F H v d := by
  cases m with
  | pk => exact h
  | fz => exact fz_pk h
  | fr => exact fr_pk h
/-- as data over the whole heap -/
theorem Res.dp (h : Res K m H0 F H v d) (fh : Same F H) (n : nd d = true) : Dp K H v d := by
  rcases h.any with h | ⟨a, rfl, _, o⟩
  · exact (h.mono fh).dp n
  · cases d with
    | list ds => obtain ⟨vs, e, r⟩ := o; exact .lst (.of e) ((r.mono fh).dp (by rw [nd] at n; exact n))
    | dict es => rw [nd] at n; cases n
    | _ => exact o.elim
theorem Res.list {ds : List D} (h : Res K m H0 F H v (.list ds)) (fh : Same F H) : ∃ a xs, v = .ref a ∧ SqL K H a xs ∧ RepA K F xs ds := by
  rcases h.any with h | ⟨a, rfl, _, o⟩
  · cases h with
    | lst h1 r => exact ⟨_, _, rfl, fh.seq h1, r⟩
  · obtain ⟨vs, e, r⟩ := o
    exact ⟨a, vs, rfl, .of e, r⟩
theorem Res.rep (h : Res K m H0 F H v d) (n : ∀ ds, d ≠ .list ds) (n2 : ∀ es, d ≠ .dict es) : Rep K F v d := by
  rcases h.any with h | ⟨a, rfl, _, o⟩
  · exact h
  · cases d with
    | list ds => exact absurd rfl (n ds)
    | dict ds => exact absurd rfl (n2 ds)
    | _ => exact o.elim
theorem Res.tup {ds : List D} (h : Res K m H0 F H v (.tuple ds)) (fh : Same F H) : ∃ a xs, v = .ref a ∧ TupAt K H a xs ∧ RepA K F xs ds := by
  cases h.rep (fun _ z => nomatch z) (fun _ z => nomatch z) with
  | tup h1 r => exact ⟨_, _, rfl, TupAt.mono fh h1, r⟩
theorem Res.int {i : Int} (h : Res K m H0 F H v (.int i)) : v = .int i := (h.rep (fun _ z => nomatch z) (fun _ z => nomatch z)).int_of
theorem Res.bl {i : Bool} (h : Res K m H0 F H v (.bool i)) : v = .bl i := (h.rep (fun _ z => nomatch z) (fun _ z => nomatch z)).bl_of
theorem Res.str {i : Str} (h : Res K m H0 F H v (.str i)) : v = .str i := (h.rep (fun _ z => nomatch z) (fun _ z => nomatch z)).str_of
theorem Res.non (h : Res K m H0 F H v .none) : v = .non := (h.rep (fun _ z => nomatch z) (fun _ z => nomatch z)).non_of
theorem Res.back {F1 H1 : Hp} (h : Res K m H1 F H v d) (s : Same H0 H1) : Res K m H0 F H v d := by
  cases m with
  | pk => exact h
  | fz => exact h
  | fr =>
    obtain ⟨a, e, h0, r⟩ := h
    exact ⟨a, e, s.free h0, r⟩
end
/-- freezing a new tuple, a new list -/
theorem ext_new {F H F' H' : Hp} (x : Ext F H F' H') {a : Addr} {o : HO} (h : H' a = none) : Ext F H (upd F' a o) (upd H' a o) := by
  have hf : F' a = none := by
    cases q : F' a with
    | none => rfl
    | some u => rw [x.s _ _ q] at h; cases h
  refine ⟨x.f.trans (same_upd hf), x.h.trans (same_upd h), fun c q => ?_, fun b u q => ?_⟩
  · by_cases z : c = a
    · subst z; exact .inr (x.h.free h)
    · rw [upd_ne z] at q; exact x.n c q
  · by_cases z : b = a
    · subst z; rw [upd_same] at q ⊢; exact q
    · rw [upd_ne z] at q ⊢; exact x.s _ _ q
theorem ext_own {F H F' H' : Hp} (x : Ext F H F' H') {a : Addr} {o : HO} (h : H' a = none) : Ext F H F' (upd H' a o) :=
  ⟨x.f, x.h.trans (same_upd h), x.n, x.s.trans (same_upd h)⟩
theorem free_of {F H : Hp} (s : Same F H) {a : Addr} (h : H a = none) : F a = none := s.free h

/-! ### operations by values -/
/-- what a two-place operation gives of data -/
def OpS (K : PySem.W.Frag) (m : Md) (r : R2) (g : D → D → Option D) : Prop :=
  ∀ (F H Ha Hb : Hp) (x y : V) (d e z : D) (Q : VK), Same F H → Res K .pk Ha F H x d → Res K .pk Hb F H y e → g d e = some z → (∀ v F' H', Ext F H F' H' → Res K m H F' H' v z → Q v H') → r x y H Q
def f2 (g : D → D → Option D) (fa fb : Rho → Option D) : Rho → Option D := fun ρ => (fa ρ).bind fun x => (fb ρ).bind fun y => g x y
def f1 (g : D → Option D) (fa : Rho → Option D) : Rho → Option D := fun ρ => (fa ρ).bind g
theorem bind_some {α β : Type} {o : Option α} {g : α → Option β} {z : β} (h : o.bind g = some z) : ∃ x, o = some x ∧ g x = some z := by
  cases o with
  | none => cases h
  | some x => exact ⟨x, rfl, h⟩
theorem sem_op {K : PySem.W.Frag} {m m1 m2 : Md} {ta tb : TE} {r : R2} {g : D → D → Option D} {fa fb : Rho → Option D} (hs : OpS K m r g) (ha : SemE K m1 ta fa) (hb : SemE K m2 tb fb) : SemE K m (tOp r ta tb) (f2 g fa fb) := by
  intro B F H σ ρ z Q rel hf q
  obtain ⟨d, h1, h2⟩ := bind_some hf
  obtain ⟨e, h3, h4⟩ := bind_some h2
  refine ha B F H σ ρ d _ rel h1 fun x F1 H1 x1 r1 => ?_
  refine hb B F1 H1 σ ρ e _ (rel.ext x1) h3 fun y F2 H2 x2 r2 => ?_
  refine hs F2 H2 H H1 x y d e z Q x2.s (r1.mono x2).any r2.any h4 fun v F' H' x3 r3 => ?_
  exact q v F' H' ((x1.trans x2).trans x3) (r3.back (F1 := F1) (x1.h.trans x2.h))
section
variable {X : Cx} {a b c : Expr} {ta tb tc : TE} {pos : Pos} {m m1 m2 m3 : Md} {r : R2} {g : D → D → Option D} {fa fb fc : Rho → Option D}
theorem de_op {op : Operator} (ho : OpR X (binaryOp op) r) (hs : OpS X.K m r g) (ha : DE X m1 a ta fa) (hb : DE X m2 b tb fb) : DE X m (.BinOp a op b pos) (tOp r ta tb) (f2 g fa fb) :=
  ⟨pe_op ho ha.p hb.p, sem_op hs ha.s hb.s⟩
theorem de_cmp {op : CmpOp} (ho : OpR X (compareOp op) r) (hs : OpS X.K m r g) (hm : behindInMarks op b = false) (ha : DE X m1 a ta fa) (hb : DE X m2 b tb fb) : DE X m (.Compare a [op] [b] pos) (tOp r ta tb) (f2 g fa fb) :=
  ⟨pe_cmpR ho ha.p hb.p hm, sem_op hs ha.s hb.s⟩
def boolD : D → Option Bool
  | .bool b => some b
  | _ => none
def fT (f : Rho → Option D) : Rho → Option Bool := fun ρ => (f ρ).bind boolD
theorem boolD_some {d : D} {b : Bool} (h : boolD d = some b) : d = .bool b := by
  cases d with
  | bool c => cases h; rfl
  | _ => cases h
theorem sem_test {K : PySem.W.Frag} {t : TE} {f : Rho → Option D} (h : SemE K m t f) : SemT K (tTest t) (fT f) := by
  intro B F H σ ρ b Q rel hf q
  obtain ⟨d, h1, h2⟩ := bind_some hf
  cases boolD_some h2
  refine h B F H σ ρ _ _ rel h1 fun x F1 H1 x1 r1 => ?_
  exact ⟨b, r1.bl, q F1 H1 x1⟩
theorem dt_cmp {op : CmpOp} (ho : OpR X (compareOp op) r) (hs : OpS X.K .fz r g) (hm : behindInMarks op b = false) (ha : DE X m1 a ta fa) (hb : DE X m2 b tb fb) : DT X (.Compare a [op] [b] pos) (tTest (tOp r ta tb)) (fT (f2 g fa fb)) :=
  ⟨pt_cmpR ho ha.p hb.p hm, sem_test (sem_op hs ha.s hb.s)⟩
/-! ints -/
theorem ops_I0 {K : PySem.W.Frag} {f : Int → Int → V} {g : D → D → Option D} {h : Int → Int → D} (hr : ∀ F i j, Rep K F (f i j) (h i j)) (hg : ∀ d e z, g d e = some z → ∃ i j, d = .int i ∧ e = .int j ∧ z = h i j) : OpS K .fz (rI0 f) g := by
  intro F H Ha Hb x y d e z Q fh r1 r2 hz q
  obtain ⟨i, j, rfl, rfl, rfl⟩ := hg d e z hz
  exact ⟨i, j, r1.int, r2.int, q _ F H (.refl fh) (hr F i j)⟩
theorem ops_I {K : PySem.W.Frag} {C : Int → Int → Prop} {f : Int → Int → V} {g : D → D → Option D} {h : Int → Int → D} (hr : ∀ F i j, Rep K F (f i j) (h i j)) (hg : ∀ d e z, g d e = some z → ∃ i j, d = .int i ∧ e = .int j ∧ C i j ∧ z = h i j) : OpS K .fz (rI C f) g := by
  intro F H Ha Hb x y d e z Q fh r1 r2 hz q
  obtain ⟨i, j, rfl, rfl, hc, rfl⟩ := hg d e z hz
  exact ⟨i, j, r1.int, r2.int, hc, q _ F H (.refl fh) (hr F i j)⟩
theorem OpS.or {K : PySem.W.Frag} {r r' : R2} {g g' : D → D → Option D} (h : OpS K m r g) (h' : OpS K m r' g') : OpS K m (fun x y H Q => r x y H Q ∨ r' x y H Q) (fun d e => (g d e).orElse fun _ => g' d e) := by
  intro F H Ha Hb x y d e z Q fh r1 r2 hz q
  have hz' : ((g d e).orElse fun _ => g' d e) = some z := hz
  cases hg : g d e with
  | some w =>
    rw [hg] at hz'
    cases hz'
    exact .inl (h F H Ha Hb x y d e z Q fh r1 r2 hg q)
  | none =>
    rw [hg] at hz'
    have e1 : g' d e = some z := hz'
    exact .inr (h' F H Ha Hb x y d e z Q fh r1 r2 e1 q)
theorem OpS.imp {K : PySem.W.Frag} {r : R2} {g g' : D → D → Option D} (h : OpS K m r g) (e : ∀ d e z, g' d e = some z → g d e = some z) : OpS K m r g' :=
  fun F H Ha Hb x y d e' z Q fh r1 r2 hz q => h F H Ha Hb x y d e' z Q fh r1 r2 (e _ _ _ hz) q
end
def subD : D → D → Option D
  | .int i, .int j => some (.int (i - j))
  | _, _ => none
/-- one factor below 2 ^ 64 -/
def mulI (i j : Int) : Option D := if (-(2 ^ 64) < i ∧ i < 2 ^ 64) ∨ (-(2 ^ 64) < j ∧ j < 2 ^ 64) then some (.int (i * j)) else none
def mulD : D → D → Option D
  | .int i, .int j => mulI i j
  | _, _ => none
def fdivD : D → D → Option D
  | .int i, .int j => if j ≠ 0 ∧ j.natAbs < 1073741824 then some (.int (i.fdiv j)) else none
  | _, _ => none
def modD : D → D → Option D
  | .int i, .int j => if j ≠ 0 then some (.int (i.fmod j)) else none
  | _, _ => none
def powD : D → D → Option D
  | .int i, .int j => if 0 ≤ j ∧ j ≤ 1000000 ∧ i.natAbs < 2 ^ 64 then some (.int (i ^ j.toNat)) else none
  | _, _ => none
section
variable {K : PySem.W.Frag}
theorem two_ints {g : D → D → Option D} {d e z : D} {h : Int → Int → Option D} (hz : g d e = some z) (hg : g = fun d e => match d, e with
  | .int i, .int j => h i j
  | _, _ => none) : ∃ i j, d = .int i ∧ e = .int j ∧ h i j = some z := by
  subst hg
  cases d with
  | int i =>
    cases e with
    | int j => exact ⟨i, j, rfl, rfl, hz⟩
    | _ => cases hz
  | _ => cases hz
theorem if_some {α : Type} {p : Prop} [Decidable p] {x z : α} (h : (if p then some x else none) = some z) : p ∧ x = z := by
  by_cases hp : p
  · rw [if_pos hp] at h; exact ⟨hp, Option.some.inj h⟩
  · rw [if_neg hp] at h; cases h
theorem ops_sub : OpS K .fz (rI0 fun i j => .int (i - j)) subD := ops_I0 (h := fun i j => .int (i - j)) (fun _ _ _ => .int _) fun d e z hz => by
  obtain ⟨i, j, h1, h2, h3⟩ := two_ints (h := fun i j => some (.int (i - j))) hz (by funext d e; cases d <;> cases e <;> rfl)
  exact ⟨i, j, h1, h2, (Option.some.inj h3).symm⟩
theorem ops_mul : OpS K .fz (rI CMul fun i j => .int (i * j)) mulD := ops_I (h := fun i j => .int (i * j)) (fun _ _ _ => .int _) fun d e z hz => by
  obtain ⟨i, j, h1, h2, h3⟩ := two_ints (h := mulI) hz (by funext d e; cases d <;> cases e <;> rfl)
  obtain ⟨h4, h5⟩ := if_some h3
  exact ⟨i, j, h1, h2, h4, h5.symm⟩
theorem ops_fdiv : OpS K .fz (rI CDivN fun i j => .int (i.fdiv j)) fdivD := ops_I (h := fun i j => .int (i.fdiv j)) (fun _ _ _ => .int _) fun d e z hz => by
  obtain ⟨i, j, h1, h2, h3⟩ := two_ints (h := fun i j => if j ≠ 0 ∧ j.natAbs < 1073741824 then some (.int (i.fdiv j)) else none) hz (by funext d e; cases d <;> cases e <;> rfl)
  obtain ⟨h4, h5⟩ := if_some h3
  exact ⟨i, j, h1, h2, h4, h5.symm⟩
theorem ops_mod : OpS K .fz (rI (fun _ j => j ≠ 0) fun i j => .int (i.fmod j)) modD := ops_I (h := fun i j => .int (i.fmod j)) (fun _ _ _ => .int _) fun d e z hz => by
  obtain ⟨i, j, h1, h2, h3⟩ := two_ints (h := fun i j => if j ≠ 0 then some (.int (i.fmod j)) else none) hz (by funext d e; cases d <;> cases e <;> rfl)
  obtain ⟨h4, h5⟩ := if_some h3
  exact ⟨i, j, h1, h2, h4, h5.symm⟩
theorem ops_pow : OpS K .fz (rI CPow fun i j => .int (i ^ j.toNat)) powD := ops_I (h := fun i j => .int (i ^ j.toNat)) (fun _ _ _ => .int _) fun d e z hz => by
  obtain ⟨i, j, h1, h2, h3⟩ := two_ints (h := fun i j => if 0 ≤ j ∧ j ≤ 1000000 ∧ i.natAbs < 2 ^ 64 then some (.int (i ^ j.toNat)) else none) hz (by funext d e; cases d <;> cases e <;> rfl)
  obtain ⟨h4, h5⟩ := if_some h3
  exact ⟨i, j, h1, h2, h4, h5.symm⟩
end

/-! ### a new tuple whose object is known -/
section
variable {X : Cx} {pins : List (Addr × Obj)} {σ : L2.St} {H : Hp} {s : Shared}
abbrev tupObj (its : Array Value) : Obj := { cls := .type "tuple", data := .seq its }
theorem _root_.L2.Inv.laidT {its : List Value} {xs : List V} {t' : Nat} (I : Inv X pins σ H s) (hv : Vals xs its) (hz : xs.length ≤ sizeLine) :
    Inv X pins σ (upd H s.heap.objs.size (.frz (tupObj its.toArray) (.tup xs))) { s with heap := s.heap.push (tupObj its.toArray), toks := t' } :=
  I.laid (fun _ _ q => Heap.get?_push_of_some _ q) (Nat.le_refl _) ⟨Heap.get?_push_size _ rfl, hz, its, hv, IsTup.new _ _⟩
end
/-- what a rule hands on of a new tuple -/
def NewT (xs : List V) (H : Hp) (Q : VK) : Prop := ∀ (p : Addr) (o : Obj), H p = none → o.cls = .type "tuple" → o.dict = none → Q (.ref p) (upd H p (.frz o (.tup xs)))
theorem newT_rep {K : PySem.W.Frag} {F H F' H' : Hp} {xs : List V} {ds : List D} (x : Ext F H F' H') (r : RepA K F' xs ds) {Q : VK} (q : ∀ v F2 H2, Ext F H F2 H2 → Rep K F2 v (.tuple ds) → Q v H2) : NewT xs H' Q := by
  intro p o hp h1 h2
  have x2 := ext_new (o := .frz o (.tup xs)) x hp
  exact q _ _ _ x2 (.tup (.inl ⟨o, upd_same, h1, h2⟩) (r.mono (same_upd (x.s.free hp))))
def NewL (xs : List V) (H : Hp) (Q : VK) : Prop := ∀ (p : Addr), H p = none → Q (.ref p) (upd H p (.lst xs))
theorem newL_res {K : PySem.W.Frag} {F H F' H' : Hp} {xs : List V} {ds : List D} (x : Ext F H F' H') (r : RepA K F' xs ds) {Q : VK} (q : ∀ v F2 H2, Ext F H F2 H2 → Res K .fr H F2 H2 v (.list ds) → Q v H2) : NewL xs H' Q := by
  intro p hp
  exact q _ _ _ (ext_own (o := .lst xs) x hp) ⟨p, rfl, x.h.free hp, x.s.free hp, xs, upd_same, r⟩
/-! ### + -/
def rCatF (K : PySem.W.Frag) : R2 := fun x y H Q => ∃ a b xs ys, x = .ref a ∧ y = .ref b ∧ SqT K H a xs ∧ SqT K H b ys ∧ xs.length + ys.length ≤ sizeLine ∧
  (xs = [] → Q (.ref b) H) ∧ (xs ≠ [] → ys = [] → Q (.ref a) H) ∧ (xs ≠ [] → ys ≠ [] → NewT (xs ++ ys) H Q)
def rCatL (K : PySem.W.Frag) : R2 := fun x y H Q => ∃ a b xs ys, x = .ref a ∧ y = .ref b ∧ SqL K H a xs ∧ SqL K H b ys ∧ xs.length + ys.length ≤ sizeLine ∧ NewL (xs ++ ys) H Q
section
variable {X : Cx}
theorem op_catF : OpR X (binaryOp .Add) (rCatF X.K) := by
  intro pins s σ H x y v u Q I rx ry h
  obtain ⟨a, b, xs, ys, rfl, rfl, ha, hb, hz, q0, q1, q2⟩ := h
  cases rx
  cases ry
  obtain ⟨its, r1, p1, _⟩ := I.tuple ha
  obtain ⟨its2, r2, p2, _⟩ := I.tuple hb
  by_cases hx : xs = []
  · subst hx
    cases r1
    exact cat_tup0 p1 p2 ⟨.ref b, H, I, rfl, q0 rfl⟩
  · refine HT.cat_tup p1 p2 (fun z => hx (r1.nil_iff.mp z)) (fun z => ⟨.ref a, H, I, rfl, q1 hx (r2.nil_iff.mp z)⟩) (fun z => ?_) (by rw [← r1.length, ← r2.length]; exact hz)
    exact ⟨.ref s.heap.objs.size, _, I.laidT (t' := s.toks) (r1.append r2) (by rw [List.length_append]; exact hz), rfl, q2 hx (fun w => z (r2.nil_iff.mpr w)) _ _ (I.hok.fresh (Nat.le_refl _)) rfl rfl⟩
theorem op_catLL : OpR X (binaryOp .Add) (rCatL X.K) := by
  intro pins s σ H x y v u Q I rx ry h
  obtain ⟨a, b, xs, ys, rfl, rfl, ha, hb, hz, q⟩ := h
  cases rx
  cases ry
  obtain ⟨its, r1, ⟨⟨c1, dd1, dt1, sl1⟩, n1, e1, hc1, hd1, hs1⟩, _⟩ := I.list ha
  obtain ⟨its2, r2, ⟨⟨c2, dd2, dt2, sl2⟩, n2, e2, hc2, hd2, hs2⟩, _⟩ := I.list hb
  simp only at hc1 hd1 hs1 hc2 hd2 hs2
  subst hc1 hd1 hs1 hc2 hd2 hs2
  have hz2 : its.toArray.size + its2.toArray.size ≤ sizeLine := by rw [List.size_toArray, List.size_toArray, ← r1.length, ← r2.length]; exact hz
  refine concat_meets ⟨_, e1, rfl⟩ ⟨_, e2, rfl⟩ noFill_list_add seq_list_add PySem.F.slot_list_add PySem.F.entry_list_add (PySem.F.args_list_add_2 _ _) (list_addW a b its.toArray its2.toArray n1 n2 none none sl1 sl2 hz2) ⟨e1, e2, ?_⟩
  have ea : its.toArray ++ its2.toArray = (its ++ its2).toArray := by simp
  rw [ea]
  exact ⟨.ref s.heap.objs.size, _, I.lnew (t' := s.toks) (r1.append r2) (by rw [List.length_append]; exact hz), rfl, q _ I.fresh⟩
theorem op_catLLK (K' : PySem.W.Frag) (hK : X.K = K' := by rfl) : OpR X (binaryOp .Add) (rCatL K') := by
  subst hK
  exact op_catLL 
end
def addD : D → D → Option D
  | .int i, .int j => some (.int (i + j))
  | .str a, .str b => if a.length + b.length ≤ sizeLine then some (.str (a ++ b)) else none
  | .tuple xs, .tuple ys => if xs.length + ys.length ≤ sizeLine then some (.tuple (xs ++ ys)) else none
  | .list xs, .list ys => if xs.length + ys.length ≤ sizeLine then some (.list (xs ++ ys)) else none
  | _, _ => none
def catLD : D → D → Option D
  | .list xs, .list ys => if xs.length + ys.length ≤ sizeLine then some (.list (xs ++ ys)) else none
  | _, _ => none
def addB : D → D → Option D
  | .int i, .int j => some (.int (i + j))
  | .str a, .str b => if a.length + b.length ≤ sizeLine then some (.str (a ++ b)) else none
  | .tuple xs, .tuple ys => if xs.length + ys.length ≤ sizeLine then some (.tuple (xs ++ ys)) else none
  | _, _ => none
def rAddA (K : PySem.W.Frag) : R2 := fun x y H Q => (rI0 (fun i j => .int (i + j)) x y H Q ∨ (∃ i j, x = .str i ∧ y = .str j ∧ i.length + j.length ≤ sizeLine ∧ Q (.str (i ++ j)) H)) ∨ (rCatF K x y H Q ∨ rCatL K x y H Q)
theorem op_addA {X : Cx} : OpR X (binaryOp .Add) (rAddA X.K) := (op_add.or op_add_str).or (op_catF.or op_catLL)
theorem op_addAK {X : Cx} (K' : PySem.W.Frag) (hK : X.K = K' := by rfl) : OpR X (binaryOp .Add) (rAddA K') := by
  subst hK
  exact op_addA 
theorem ops_catL {K : PySem.W.Frag} : OpS K .fr (rCatL K) catLD := by
  intro F H Ha Hb x y d e z Q fh r1 r2 hz q
  cases d with
  | list xs =>
    cases e with
    | list ys =>
      obtain ⟨hl, rfl⟩ := if_some hz
      obtain ⟨a, vs, rfl, s1, p1⟩ := r1.list fh
      obtain ⟨b, ws, rfl, s2, p2⟩ := r2.list fh
      exact ⟨a, b, vs, ws, rfl, rfl, s1, s2, by rw [p1.length, p2.length]; exact hl, newL_res (.refl fh) (p1.append p2) q⟩
    | _ => cases hz
  | _ => cases hz
theorem ops_addA {K : PySem.W.Frag} : OpS K .fz (rAddA K) addD := by
  intro F H Ha Hb x y d e z Q fh r1 r2 hz q
  cases d with
  | int i =>
    cases e with
    | int j => cases hz; exact .inl (.inl ⟨i, j, r1.int, r2.int, q _ F H (.refl fh) (Rep.int _)⟩)
    | _ => cases hz
  | str i =>
    cases e with
    | str j =>
      obtain ⟨hl, rfl⟩ := if_some hz
      exact .inl (.inr ⟨i, j, r1.str, r2.str, hl, q _ F H (.refl fh) (Rep.str _)⟩)
    | _ => cases hz
  | tuple xs =>
    cases e with
    | tuple ys =>
      obtain ⟨hl, rfl⟩ := if_some hz
      obtain ⟨a, vs, rfl, s1, p1⟩ := r1.tup fh
      obtain ⟨b, ws, rfl, s2, p2⟩ := r2.tup fh
      have t1 := (Res.rep r1 (fun _ z => nomatch z) (fun _ z => nomatch z))
      have t2 := (Res.rep r2 (fun _ z => nomatch z) (fun _ z => nomatch z))
      refine .inr (.inl ⟨a, b, vs, ws, rfl, rfl, s1.sq, s2.sq, by rw [p1.length, p2.length]; exact hl, fun e0 => ?_, fun _ e0 => ?_, fun _ _ => newT_rep (.refl fh) (p1.append p2) q⟩)
      · subst e0; cases p1; exact q _ F H (.refl fh) t2
      · subst e0
        cases p2
        have t1' : Rep K F (.ref a) (.tuple (xs ++ [])) := by rw [List.append_nil]; exact t1
        exact q _ F H (.refl fh) t1'
    | _ => cases hz
  | list xs =>
    cases e with
    | list ys =>
      refine .inr (.inr (ops_catL F H Ha Hb x y _ _ z Q fh r1 r2 hz fun v F' H' x' r' => ?_))
      obtain ⟨F2, x2, r3⟩ := fr_fz x' r'
      -- the new list frozen
      exact (q v F2 H' x2 r3)
    | _ => cases hz
  | _ => cases hz
end Q
end

/-! part: Q3 -/
section
set_option Elab.async false
set_option linter.all false
set_option maxRecDepth 100000
set_option maxHeartbeats 4000000
namespace Q
open PySem PySem.Spec PyProof.Rows L2
/-! ### comparisons of data -/
def eqD (d e : D) : Option D := if SeqAt.shaped d = true ∧ SeqAt.shaped e = true then some (.bool (PyData.eqv d e)) else none
def neD (d e : D) : Option D := if SeqAt.shaped d = true ∧ SeqAt.shaped e = true then some (.bool (!PyData.eqv d e)) else none
theorem ops_eq {K : PySem.W.Frag} : OpS K .fz (rEqD K) eqD := by
  intro F H Ha Hb x y d e z Q fh r1 r2 hz q
  obtain ⟨⟨h1, h2⟩, rfl⟩ := if_some hz
  exact ⟨d, e, r1.dp fh (nd_shaped h1), r2.dp fh (nd_shaped h2), h1, h2, q _ F H (.refl fh) (Rep.bl _)⟩
theorem ops_ne {K : PySem.W.Frag} : OpS K .fz (rNeD K) neD := by
  intro F H Ha Hb x y d e z Q fh r1 r2 hz q
  obtain ⟨⟨h1, h2⟩, rfl⟩ := if_some hz
  exact ⟨d, e, r1.dp fh (nd_shaped h1), r2.dp fh (nd_shaped h2), h1, h2, q _ F H (.refl fh) (Rep.bl _)⟩
/-- may the two be compared by their order -/
def ordOk (d e : D) : Bool := PySem.W.alike d e && (match d with
  | .none => false
  | _ => true) && decide (d.depth ≤ 64) && (nd d && nd e)
def ltD (d e : D) : Option D := if ordOk d e = true then some (.bool (PySem.W.dataLt d e)) else none
def gtD (d e : D) : Option D := if ordOk d e = true then some (.bool (PySem.W.dataLt e d)) else none
def leD (d e : D) : Option D := if ordOk d e = true then some (.bool (!PySem.W.dataLt e d)) else none
def geD (d e : D) : Option D := if ordOk d e = true then some (.bool (!PySem.W.dataLt d e)) else none
theorem ordOk_of {d e : D} (h : ordOk d e = true) : PySem.W.alike d e = true ∧ d ≠ .none ∧ d.depth ≤ 64 := by
  unfold ordOk at h
  simp only [Bool.and_eq_true, decide_eq_true_eq] at h
  obtain ⟨⟨⟨h1, h2⟩, h3⟩, _⟩ := h
  refine ⟨h1, fun z => ?_, h3⟩
  subst z
  cases h2
theorem ordOk_nd {d e : D} (h : ordOk d e = true) : nd d = true ∧ nd e = true := by
  unfold ordOk at h
  simp only [Bool.and_eq_true] at h
  exact h.2
def rOrd (K : PySem.W.Frag) (k : D → D → Bool) : R2 := fun x y H Q => ∃ d e, Dp K H x d ∧ Dp K H y e ∧ ordOk d e = true ∧ Q (.bl (k d e)) H
section
variable {X : Cx}
theorem min_depth {A : Around} {d e : D} (h : d.depth ≤ 64) (hu : A.units + 64 < cLine) : A.units + min d.depth e.depth < cLine := by
  have : min d.depth e.depth ≤ d.depth := Nat.min_le_left _ _
  omega
theorem op_lt_ (hu : X.A.units + 64 < cLine) : OpR X (compareOp .Lt) (rOrd X.K fun d e => PySem.W.dataLt d e) := by
  intro pins s σ H x y v u Q I rx ry h
  obtain ⟨d, e, hd, he, ok, q⟩ := h
  obtain ⟨as, r1⟩ := Dp.reads I d x v hd rx
  obtain ⟨bs, r2⟩ := Dp.reads I e y u he ry
  obtain ⟨h1, h2, h3⟩ := ordOk_of ok
  exact PySem.W.lt_data r1 r2 h1 h2 (min_depth h3 hu) ⟨.bl _, H, I, rfl, q⟩
theorem op_lt_K (K' : PySem.W.Frag) (hu : X.A.units + 64 < cLine) (hK : X.K = K' := by rfl) : OpR X (compareOp .Lt) (rOrd K' fun d e => PySem.W.dataLt d e) := by
  subst hK
  exact op_lt_ (hu := hu)
theorem op_gt_ (hu : X.A.units + 64 < cLine) : OpR X (compareOp .Gt) (rOrd X.K fun d e => PySem.W.dataLt e d) := by
  intro pins s σ H x y v u Q I rx ry h
  obtain ⟨d, e, hd, he, ok, q⟩ := h
  obtain ⟨as, r1⟩ := Dp.reads I d x v hd rx
  obtain ⟨bs, r2⟩ := Dp.reads I e y u he ry
  obtain ⟨h1, h2, h3⟩ := ordOk_of ok
  exact PySem.W.gt_data r1 r2 h1 h2 (min_depth h3 hu) ⟨.bl _, H, I, rfl, q⟩
theorem op_gt_K (K' : PySem.W.Frag) (hu : X.A.units + 64 < cLine) (hK : X.K = K' := by rfl) : OpR X (compareOp .Gt) (rOrd K' fun d e => PySem.W.dataLt e d) := by
  subst hK
  exact op_gt_ (hu := hu)
theorem op_le_ (hu : X.A.units + 64 < cLine) : OpR X (compareOp .LtE) (rOrd X.K fun d e => !PySem.W.dataLt e d) := by
  intro pins s σ H x y v u Q I rx ry h
  obtain ⟨d, e, hd, he, ok, q⟩ := h
  obtain ⟨as, r1⟩ := Dp.reads I d x v hd rx
  obtain ⟨bs, r2⟩ := Dp.reads I e y u he ry
  obtain ⟨h1, h2, h3⟩ := ordOk_of ok
  exact PySem.W.le_data r1 r2 h1 h2 (min_depth h3 hu) ⟨.bl _, H, I, rfl, q⟩
theorem op_le_K (K' : PySem.W.Frag) (hu : X.A.units + 64 < cLine) (hK : X.K = K' := by rfl) : OpR X (compareOp .LtE) (rOrd K' fun d e => !PySem.W.dataLt e d) := by
  subst hK
  exact op_le_ (hu := hu)
theorem op_ge_ (hu : X.A.units + 64 < cLine) : OpR X (compareOp .GtE) (rOrd X.K fun d e => !PySem.W.dataLt d e) := by
  intro pins s σ H x y v u Q I rx ry h
  obtain ⟨d, e, hd, he, ok, q⟩ := h
  obtain ⟨as, r1⟩ := Dp.reads I d x v hd rx
  obtain ⟨bs, r2⟩ := Dp.reads I e y u he ry
  obtain ⟨h1, h2, h3⟩ := ordOk_of ok
  exact PySem.W.ge_data r1 r2 h1 h2 (min_depth h3 hu) ⟨.bl _, H, I, rfl, q⟩
theorem op_ge_K (K' : PySem.W.Frag) (hu : X.A.units + 64 < cLine) (hK : X.K = K' := by rfl) : OpR X (compareOp .GtE) (rOrd K' fun d e => !PySem.W.dataLt d e) := by
  subst hK
  exact op_ge_ (hu := hu)
end
theorem ops_ord {K : PySem.W.Frag} {k : D → D → Bool} : OpS K .fz (rOrd K k) (fun d e => if ordOk d e = true then some (.bool (k d e)) else none) := by
  intro F H Ha Hb x y d e z Q fh r1 r2 hz q
  obtain ⟨h1, rfl⟩ := if_some hz
  exact ⟨d, e, r1.dp fh (ordOk_nd h1).1, r2.dp fh (ordOk_nd h1).2, h1, q _ F H (.refl fh) (Rep.bl _)⟩
theorem ops_lt {K : PySem.W.Frag} : OpS K .fz (rOrd K fun d e => PySem.W.dataLt d e) ltD := ops_ord
theorem ops_gt {K : PySem.W.Frag} : OpS K .fz (rOrd K fun d e => PySem.W.dataLt e d) gtD := ops_ord
theorem ops_le {K : PySem.W.Frag} : OpS K .fz (rOrd K fun d e => !PySem.W.dataLt e d) leD := ops_ord
theorem ops_ge {K : PySem.W.Frag} : OpS K .fz (rOrd K fun d e => !PySem.W.dataLt d e) geD := ops_ord
/-! ### is -/
def isNoneD (d : D) : Bool := match d with
  | .none => true
  | _ => false
def rIsN : R2 := fun x y H Q => y = .non ∧ Q (.bl (decide (x = .non))) H
def rNotN : R2 := fun x y H Q => y = .non ∧ Q (.bl (!decide (x = .non))) H
def isND (d e : D) : Option D := match e with
  | .none => some (.bool (isNoneD d))
  | _ => none
def notND (d e : D) : Option D := match e with
  | .none => some (.bool (!isNoneD d))
  | _ => none
theorem res_none_iff {K : PySem.W.Frag} {H0 F H : Hp} {x : V} {d : D} (h : Res K .pk H0 F H x d) : decide (x = .non) = isNoneD d := by
  rcases h with h | ⟨a, rfl, _, o⟩
  · cases h <;> simp [isNoneD]
  · cases d with
    | list ds => simp [isNoneD]
    | dict ds => simp [isNoneD]
    | _ => exact o.elim
theorem ops_isN {K : PySem.W.Frag} : OpS K .fz rIsN isND := by
  intro F H Ha Hb x y d e z Q fh r1 r2 hz q
  cases e with
  | none =>
    cases hz
    refine ⟨r2.non, ?_⟩
    rw [res_none_iff r1]
    exact q _ F H (.refl fh) (Rep.bl _)
  | _ => cases hz
theorem ops_notN {K : PySem.W.Frag} : OpS K .fz rNotN notND := by
  intro F H Ha Hb x y d e z Q fh r1 r2 hz q
  cases e with
  | none =>
    cases hz
    refine ⟨r2.non, ?_⟩
    rw [res_none_iff r1]
    exact q _ F H (.refl fh) (Rep.bl _)
  | _ => cases hz
def isBD (d e : D) : Option D := match d, e with
  | .bool a, .bool b => some (.bool (decide (a = b)))
  | _, _ => none
def notBD (d e : D) : Option D := match d, e with
  | .bool a, .bool b => some (.bool (!decide (a = b)))
  | _, _ => none
theorem ops_isB {K : PySem.W.Frag} : OpS K .fz rIsB isBD := by
  intro F H Ha Hb x y d e z Q fh r1 r2 hz q
  cases d with
  | bool a =>
    cases e with
    | bool b => cases hz; exact ⟨a, b, r1.bl, r2.bl, q _ F H (.refl fh) (Rep.bl _)⟩
    | _ => cases hz
  | _ => cases hz
theorem ops_notB {K : PySem.W.Frag} : OpS K .fz rNotB notBD := by
  intro F H Ha Hb x y d e z Q fh r1 r2 hz q
  cases d with
  | bool a =>
    cases e with
    | bool b => cases hz; exact ⟨a, b, r1.bl, r2.bl, q _ F H (.refl fh) (Rep.bl _)⟩
    | _ => cases hz
  | _ => cases hz
/-! ### in -/
def memD (d : D) (ds : List D) : Bool := ds.any fun z => PyData.eqv z d
def itemsD : D → Option (List D)
  | .list ds => some ds
  | .tuple ds => some ds
  | _ => none
def inD (d e : D) : Option D := (itemsD e).bind fun ds => if SeqAt.shaped d = true ∧ SeqAt.shaped e = true then some (.bool (memD d ds)) else none
def notInD (d e : D) : Option D := (itemsD e).bind fun ds => if SeqAt.shaped d = true ∧ SeqAt.shaped e = true then some (.bool (!memD d ds)) else none
def rIn_ (K : PySem.W.Frag) (k : Bool → Bool) : R2 := fun x y H Q => ∃ d e ds, Dp K H x d ∧ Dp K H y e ∧ itemsD e = some ds ∧ SeqAt.shaped d = true ∧ SeqAt.shaped e = true ∧ Q (.bl (k (memD d ds))) H
section
variable {X : Cx}
theorem room_in {A : Around} {d : D} {ds : List D} (sd : SeqAt.shaped d = true) (hu : A.units + 65 < cLine) : A.units + 1 + min (PyData.depthAll ds) d.depth < cLine := by
  have h1 := SeqAt.depth_of_shaped sd
  have h2 : min (PyData.depthAll ds) d.depth ≤ d.depth := Nat.min_le_right _ _
  omega
theorem op_in_ (hu : X.A.units + 65 < cLine) : OpR X (compareOp .In) (rIn_ X.K id) := by
  intro pins s σ H x y v u Q I rx ry h
  obtain ⟨d, e, ds, hd, he, hi, sd, se, q⟩ := h
  obtain ⟨as, r1⟩ := Dp.reads I d x v hd rx
  obtain ⟨bs, r2⟩ := Dp.reads I e y u he ry
  cases e with
  | list es => cases hi; exact SeqAt.in_list_reads r2 r1 (SeqAt.canLay_of_shaped se) (SeqAt.canLay_of_shaped sd) (room_in sd hu) ⟨.bl _, H, I, rfl, q⟩
  | tuple es => cases hi; exact SeqAt.in_tuple_reads r2 r1 (SeqAt.canLay_of_shaped se) (SeqAt.canLay_of_shaped sd) (room_in sd hu) ⟨.bl _, H, I, rfl, q⟩
  | _ => cases hi
theorem op_in_K (K' : PySem.W.Frag) (hu : X.A.units + 65 < cLine) (hK : X.K = K' := by rfl) : OpR X (compareOp .In) (rIn_ K' id) := by
  subst hK
  exact op_in_ (hu := hu)
theorem op_notIn_ (hu : X.A.units + 65 < cLine) : OpR X (compareOp .NotIn) (rIn_ X.K not) := by
  intro pins s σ H x y v u Q I rx ry h
  obtain ⟨d, e, ds, hd, he, hi, sd, se, q⟩ := h
  obtain ⟨as, r1⟩ := Dp.reads I d x v hd rx
  obtain ⟨bs, r2⟩ := Dp.reads I e y u he ry
  cases e with
  | list es => cases hi; exact SeqAt.notIn_list_reads r2 r1 (SeqAt.canLay_of_shaped se) (SeqAt.canLay_of_shaped sd) (room_in sd hu) ⟨.bl _, H, I, rfl, q⟩
  | tuple es => cases hi; exact SeqAt.notIn_tuple_reads r2 r1 (SeqAt.canLay_of_shaped se) (SeqAt.canLay_of_shaped sd) (room_in sd hu) ⟨.bl _, H, I, rfl, q⟩
  | _ => cases hi
theorem op_notIn_K (K' : PySem.W.Frag) (hu : X.A.units + 65 < cLine) (hK : X.K = K' := by rfl) : OpR X (compareOp .NotIn) (rIn_ K' not) := by
  subst hK
  exact op_notIn_ (hu := hu)
end
theorem ops_in_ {K : PySem.W.Frag} {k : Bool → Bool} : OpS K .fz (rIn_ K k) (fun d e => (itemsD e).bind fun ds => if SeqAt.shaped d = true ∧ SeqAt.shaped e = true then some (.bool (k (memD d ds))) else none) := by
  intro F H Ha Hb x y d e z Q fh r1 r2 hz q
  obtain ⟨ds, h0, hz⟩ := bind_some hz
  obtain ⟨⟨h1, h2⟩, rfl⟩ := if_some hz
  exact ⟨d, e, ds, r1.dp fh (nd_shaped h1), r2.dp fh (nd_shaped h2), h0, h1, h2, q _ F H (.refl fh) (Rep.bl _)⟩
theorem ops_in {K : PySem.W.Frag} : OpS K .fz (rIn_ K id) inD := ops_in_
theorem ops_notIn {K : PySem.W.Frag} : OpS K .fz (rIn_ K not) notInD := ops_in_
/-! ### xs[i] -/
def ixD : D → D → Option D
  | .list ds, .int i => atI ds i
  | .tuple ds, .int i => atI ds i
  | .str z, .int i => if z.length ≤ sizeLine then (atI z.cps.toList i).map fun c => .str ⟨#[c]⟩ else none
  | _, _ => none
theorem repA_atI {K : PySem.W.Frag} {F : Hp} {vs : List V} {ds : List D} {i : Int} {d : D} (r : RepA K F vs ds) (h : atI ds i = some d) : ∃ v, atI vs i = some v ∧ Rep K F v d := by
  unfold atI at h ⊢
  rw [r.length]
  obtain ⟨j, h1, h2⟩ := bind_some h
  rw [h1]
  obtain ⟨v, h3, h4⟩ := r.get h2
  exact ⟨v, h3, h4⟩
theorem ops_ix {K : PySem.W.Frag} : OpS K .fz (rIx K) ixD := by
  intro F H Ha Hb x y d e z Q fh r1 r2 hz q
  cases e with
  | int i =>
    cases d with
    | list ds =>
      obtain ⟨a, xs, rfl, s1, p1⟩ := r1.list fh
      obtain ⟨v, h1, h2⟩ := repA_atI p1 hz
      exact .inl ⟨a, xs, i, v, rfl, r2.int, s1, h1, q _ F H (.refl fh) h2⟩
    | tuple ds =>
      obtain ⟨a, xs, rfl, s1, p1⟩ := r1.tup fh
      obtain ⟨v, h1, h2⟩ := repA_atI p1 hz
      exact .inr (.inl ⟨a, xs, i, v, rfl, r2.int, s1.sq, h1, q _ F H (.refl fh) h2⟩)
    | str s =>
      by_cases hl : s.length ≤ sizeLine
      · have hz' : (if s.length ≤ sizeLine then (atI s.cps.toList i).map fun c => PyData.str ⟨#[c]⟩ else none) = some z := hz
        rw [if_pos hl] at hz'
        obtain ⟨c, h1, h2⟩ := Option.map_eq_some_iff.mp hz'
        subst h2
        exact .inr (.inr ⟨s, i, c, r1.str, r2.int, hl, h1, q _ F H (.refl fh) (Rep.str _)⟩)
      · have hz' : (if s.length ≤ sizeLine then (atI s.cps.toList i).map fun c => PyData.str ⟨#[c]⟩ else none) = some z := hz
        rw [if_neg hl] at hz'
        cases hz'
    | _ => cases hz
  | _ => cases d <;> cases hz
section
variable {X : Cx} {a b c : Expr} {ta tb tc : TE} {pos : Pos} {m m1 m2 m3 : Md} {r r' : R2} {g g' : D → D → Option D} {fa fb fc : Rho → Option D}
theorem de_ix (ha : DE X m1 a ta fa) (hb : DE X m2 b tb fb) (hs : PlainIx b := by exact fun _ _ => rfl) : DE X .fz (.Subscript a b pos) (tOp (rIx X.K) ta tb) (f2 ixD fa fb) :=
  ⟨pe_ix ix_seq ha.p hb.p hs, sem_op ops_ix ha.s hb.s⟩
theorem de_ixK (K' : PySem.W.Frag) (ha : DE X m1 a ta fa) (hb : DE X m2 b tb fb) (hs : PlainIx b := by exact fun _ _ => rfl) (hK : X.K = K' := by rfl) : DE X .fz (.Subscript a b pos) (tOp (rIx K') ta tb) (f2 ixD fa fb) := by
  subst hK
  exact de_ix (ha := ha) (hb := hb) (hs := hs)
/-! ### a op b op' c -/
def f3 (g g' : D → D → Option D) (fa fb fc : Rho → Option D) : Rho → Option D := fun ρ => (fa ρ).bind fun x => (fb ρ).bind fun y => (g x y).bind fun z => match z with
  | .bool true => (fc ρ).bind fun w => g' y w
  | .bool false => some (.bool false)
  | _ => none
theorem sem_chain {K : PySem.W.Frag} (hs : OpS K .fz r g) (hs' : OpS K .fz r' g') (ha : SemE K m1 ta fa) (hb : SemE K m2 tb fb) (hc : SemE K m3 tc fc) : SemE K .fz (tChain r r' ta tb tc) (f3 g g' fa fb fc) := by
  intro B F H σ ρ z Q rel hf q
  obtain ⟨d, h1, h2⟩ := bind_some hf
  obtain ⟨e, h3, h4⟩ := bind_some h2
  obtain ⟨k, h5, h6⟩ := bind_some h4
  refine ha B F H σ ρ d _ rel h1 fun x F1 H1 x1 r1 => ?_
  refine hb B F1 H1 σ ρ e _ (rel.ext x1) h3 fun y F2 H2 x2 r2 => ?_
  refine hs F2 H2 H H1 x y d e k _ x2.s (r1.mono x2).any r2.any h5 fun v F3 H3 x3 r3 => ?_
  have x03 := (x1.trans x2).trans x3
  cases k with
  | bool k =>
    refine ⟨k, Res.bl (m := .fz) (H0 := H) (H := H3) r3, ?_⟩
    cases k with
    | true =>
      obtain ⟨w, h7, h8⟩ := bind_some (show ((fc ρ).bind fun w => g' e w) = some z from h6)
      show tc σ H3 _
      refine hc B F3 H3 σ ρ w _ (rel.ext x03) h7 fun u F4 H4 x4 r4 => ?_
      exact hs' F4 H4 H1 H3 y u e w z _ x4.s ((r2.mono x3).mono x4).any r4.any h8 fun v5 F5 H5 x5 r5 => q v5 F5 H5 ((x03.trans x4).trans x5) r5
    | false =>
      have e1 : z = .bool false := (Option.some.inj (show some (PyData.bool false) = some z from h6)).symm
      subst e1
      show Q (.bl false) H3
      exact q _ F3 H3 x03 (Rep.bl false)
  | _ => exact nomatch (show (none : Option D) = some z from h6)
theorem de_chain {op op' : CmpOp} (ho : OpR X (compareOp op) r) (ho' : OpR X (compareOp op') r') (hs : OpS X.K .fz r g) (hs' : OpS X.K .fz r' g') (ha : DE X m1 a ta fa) (hb : DE X m2 b tb fb) (hc : DE X m3 c tc fc)
    (hm : lastMarks [op, op'] [b, c] = false := by with_unfolding_all rfl) : DE X .fz (.Compare a [op, op'] [b, c] pos) (tChain r r' ta tb tc) (f3 g g' fa fb fc) :=
  ⟨pe_chain ho ho' ha.p hb.p hc.p hm, sem_chain hs hs' ha.s hb.s hc.s⟩
theorem dt_chain {op op' : CmpOp} (ho : OpR X (compareOp op) r) (ho' : OpR X (compareOp op') r') (hs : OpS X.K .fz r g) (hs' : OpS X.K .fz r' g') (ha : DE X m1 a ta fa) (hb : DE X m2 b tb fb) (hc : DE X m3 c tc fc)
    (hm : lastMarks [op, op'] [b, c] = false := by with_unfolding_all rfl) : DT X (.Compare a [op, op'] [b, c] pos) (tTest (tChain r r' ta tb tc)) (fT (f3 g g' fa fb fc)) :=
  ⟨pt_chain ho ho' ha.p hb.p hc.p hm, sem_test (sem_chain hs hs' ha.s hb.s hc.s)⟩
/-! ### truth, and, or, not, if -/
def truD : D → Option Bool
  | .none => some false
  | .bool b => some b
  | .int i => some (i != 0)
  | .str z => if z.length ≤ sizeLine then some ((z.length : Int) != 0) else none
  | .list ds => some (!ds.isEmpty)
  | .tuple ds => some (!ds.isEmpty)
  | .dict _ => none
theorem isEmpty_len {α β : Type} {xs : List α} {ys : List β} (h : xs.length = ys.length) : xs.isEmpty = ys.isEmpty := by
  cases xs <;> cases ys <;> first | rfl | (simp at h)
theorem truV_of {K : PySem.W.Frag} {H0 F H : Hp} {x : V} {d : D} {b : Bool} (r : Res K m H0 F H x d) (fh : Same F H) (h : truD d = some b) : TruV K x H b := by
  cases d with
  | none => rw [r.non]; cases h; rfl
  | bool k => rw [r.bl]; cases h; rfl
  | int i => rw [r.int]; cases h; rfl
  | str z =>
    rw [r.str]
    obtain ⟨h1, h2⟩ := if_some h
    exact ⟨h1, h2.symm⟩
  | list ds =>
    obtain ⟨a, xs, rfl, s1, p1⟩ := r.list fh
    cases h
    exact .inl ⟨xs, s1, by rw [isEmpty_len p1.length]⟩
  | tuple ds =>
    obtain ⟨a, xs, rfl, s1, p1⟩ := r.tup fh
    cases h
    exact .inr (.inl ⟨xs, s1.sq, by rw [isEmpty_len p1.length]⟩)
  | dict _ => cases h
def fTr (f : Rho → Option D) : Rho → Option Bool := fun ρ => (f ρ).bind truD
theorem dt_tru (ha : DE X m a ta fa) (he : ∀ whole, isTrue a X.env whole = (do let v ← whole; standAt a.pos; holding [v] (truthy v)) := by intro _; rfl) : DT X a (fun σ H Q => ta σ H fun x H' => ∃ k, TruV X.K x H' k ∧ Q k H') (fTr fa) :=
  ⟨pt_truth ha.p he, fun B F H σ ρ b Q rel hf q => by
    obtain ⟨d, h1, h2⟩ := bind_some hf
    exact ha.s B F H σ ρ d _ rel h1 fun x F1 H1 x1 r1 => ⟨b, truV_of r1 x1.s h2, q F1 H1 x1⟩⟩
theorem dt_truK (K' : PySem.W.Frag) (ha : DE X m a ta fa) (he : ∀ whole, isTrue a X.env whole = (do let v ← whole; standAt a.pos; holding [v] (truthy v)) := by intro _; rfl) (hK : X.K = K' := by rfl) : DT X a (fun σ H Q => ta σ H fun x H' => ∃ k, TruV K' x H' k ∧ Q k H') (fTr fa) := by
  subst hK
  exact dt_tru (ha := ha) (he := he)
def fNotT (f : Rho → Option Bool) : Rho → Option Bool := fun ρ => (f ρ).map not
def fAndT (f g : Rho → Option Bool) : Rho → Option Bool := fun ρ => (f ρ).bind fun b => if b = true then g ρ else some false
def fOrT (f g : Rho → Option Bool) : Rho → Option Bool := fun ρ => (f ρ).bind fun b => if b = true then some true else g ρ
variable {tt tu : TT} {ft fu : Rho → Option Bool} {rest : List Expr}
theorem dt_not (ha : DT X a tt ft) : DT X (.UnaryOp .Not a pos) (tNot tt) (fNotT ft) := ⟨pt_not ha.p, fun B F H σ ρ b Q rel hf q => by
  obtain ⟨c, h1, rfl⟩ := Option.map_eq_some_iff.mp hf
  exact ha.s B F H σ ρ c _ rel h1 fun F1 H1 x1 => q F1 H1 x1⟩
/-- a row of and, of or -/
structure DW (X : Cx) (e : Expr) (t : TT) (f : Rho → Option Bool) : Prop where
  p : PW X e t
  s : SemT X.K t f
theorem dw_and1 (ha : DT X a tt ft) : DW X (.BoolOp .And [a] pos) tt ft := ⟨pw_and1 ha.p, ha.s⟩
theorem dw_or1 (ha : DT X a tt ft) : DW X (.BoolOp .Or [a] pos) tt ft := ⟨pw_or1 ha.p, ha.s⟩
theorem sem_and {K : PySem.W.Frag} (ha : SemT K tt ft) (hb : SemT K tu fu) : SemT K (tAnd tt tu) (fAndT ft fu) := by
  intro B F H σ ρ b Q rel hf q
  obtain ⟨c, h1, h2⟩ := bind_some hf
  refine ha B F H σ ρ c _ rel h1 fun F1 H1 x1 => ?_
  cases c with
  | true => exact hb B F1 H1 σ ρ b _ (rel.ext x1) h2 fun F2 H2 x2 => q F2 H2 (x1.trans x2)
  | false =>
    cases (show some false = some b from h2)
    exact q F1 H1 x1
theorem sem_or {K : PySem.W.Frag} (ha : SemT K tt ft) (hb : SemT K tu fu) : SemT K (tOr tt tu) (fOrT ft fu) := by
  intro B F H σ ρ b Q rel hf q
  obtain ⟨c, h1, h2⟩ := bind_some hf
  refine ha B F H σ ρ c _ rel h1 fun F1 H1 x1 => ?_
  cases c with
  | false => exact hb B F1 H1 σ ρ b _ (rel.ext x1) h2 fun F2 H2 x2 => q F2 H2 (x1.trans x2)
  | true =>
    cases (show some true = some b from h2)
    exact q F1 H1 x1
theorem dw_and (ha : DT X a tt ft) (hb : DW X (.BoolOp .And (b :: rest) pos) tu fu) : DW X (.BoolOp .And (a :: b :: rest) pos) (tAnd tt tu) (fAndT ft fu) := ⟨pw_and ha.p hb.p, sem_and ha.s hb.s⟩
theorem dw_or (ha : DT X a tt ft) (hb : DW X (.BoolOp .Or (b :: rest) pos) tu fu) : DW X (.BoolOp .Or (a :: b :: rest) pos) (tOr tt tu) (fOrT ft fu) := ⟨pw_or ha.p hb.p, sem_or ha.s hb.s⟩
theorem dt_w {e : Expr} (h : DW X e tt ft) : DT X e tt ft := ⟨h.p.pt, h.s⟩
/-- .. as values -/
def fNot (f : Rho → Option D) : Rho → Option D := fun ρ => ((f ρ).bind truD).map fun b => .bool (!b)
def fAnd (f g : Rho → Option D) : Rho → Option D := fun ρ => (f ρ).bind fun d => (truD d).bind fun b => if b = true then g ρ else some d
def fOr (f g : Rho → Option D) : Rho → Option D := fun ρ => (f ρ).bind fun d => (truD d).bind fun b => if b = true then some d else g ρ
theorem de_not (ha : DE X m a ta fa) : DE X .fz (.UnaryOp .Not a pos) (tNotT X.K ta) (fNot fa) := ⟨pe_notT ha.p, fun B F H σ ρ d Q rel hf q => by
  obtain ⟨c, h1, rfl⟩ := Option.map_eq_some_iff.mp hf
  obtain ⟨d, h2, h3⟩ := bind_some h1
  exact ha.s B F H σ ρ d _ rel h2 fun x F1 H1 x1 r1 => ⟨c, truV_of r1 x1.s h3, q _ F1 H1 x1 (Rep.bl _)⟩⟩
theorem de_notK (K' : PySem.W.Frag) (ha : DE X m a ta fa) (hK : X.K = K' := by rfl) : DE X .fz (.UnaryOp .Not a pos) (tNotT K' ta) (fNot fa) := by
  subst hK
  exact de_not (ha := ha)
theorem de_one {op} (h : DE X m a ta fa) : DE X m (.BoolOp op [a] pos) ta fa := ⟨pe_one h.p, h.s⟩
theorem de_and (ha : DE X .fz a ta fa) (hb : DE X .fz (.BoolOp .And (b :: rest) pos) tb fb) : DE X .fz (.BoolOp .And (a :: b :: rest) pos) (tAndT X.K ta tb) (fAnd fa fb) := ⟨pe_andT ha.p hb.p, fun B F H σ ρ d Q rel hf q => by
  obtain ⟨d1, h1, h2⟩ := bind_some hf
  obtain ⟨c, h3, h4⟩ := bind_some h2
  refine ha.s B F H σ ρ d1 _ rel h1 fun x F1 H1 x1 r1 => ⟨c, truV_of (m := .fz) (H0 := H) r1 x1.s h3, ?_⟩
  cases c with
  | true => exact hb.s B F1 H1 σ ρ d _ (rel.ext x1) h4 fun v F2 H2 x2 r2 => q v F2 H2 (x1.trans x2) r2
  | false =>
    cases (show some d1 = some d from h4)
    exact q x F1 H1 x1 r1⟩
theorem de_andK (K' : PySem.W.Frag) (ha : DE X .fz a ta fa) (hb : DE X .fz (.BoolOp .And (b :: rest) pos) tb fb) (hK : X.K = K' := by rfl) : DE X .fz (.BoolOp .And (a :: b :: rest) pos) (tAndT K' ta tb) (fAnd fa fb) := by
  subst hK
  exact de_and (ha := ha) (hb := hb)
theorem de_or (ha : DE X .fz a ta fa) (hb : DE X .fz (.BoolOp .Or (b :: rest) pos) tb fb) : DE X .fz (.BoolOp .Or (a :: b :: rest) pos) (tOrT X.K ta tb) (fOr fa fb) := ⟨pe_orT ha.p hb.p, fun B F H σ ρ d Q rel hf q => by
  obtain ⟨d1, h1, h2⟩ := bind_some hf
  obtain ⟨c, h3, h4⟩ := bind_some h2
  refine ha.s B F H σ ρ d1 _ rel h1 fun x F1 H1 x1 r1 => ⟨c, truV_of (m := .fz) (H0 := H) r1 x1.s h3, ?_⟩
  cases c with
  | false => exact hb.s B F1 H1 σ ρ d _ (rel.ext x1) h4 fun v F2 H2 x2 r2 => q v F2 H2 (x1.trans x2) r2
  | true =>
    cases (show some d1 = some d from h4)
    exact q x F1 H1 x1 r1⟩
theorem de_orK (K' : PySem.W.Frag) (ha : DE X .fz a ta fa) (hb : DE X .fz (.BoolOp .Or (b :: rest) pos) tb fb) (hK : X.K = K' := by rfl) : DE X .fz (.BoolOp .Or (a :: b :: rest) pos) (tOrT K' ta tb) (fOr fa fb) := by
  subst hK
  exact de_or (ha := ha) (hb := hb)
def fIf (c : Rho → Option Bool) (f g : Rho → Option D) : Rho → Option D := fun ρ => (c ρ).bind fun b => if b = true then f ρ else g ρ
theorem de_if (hc : DT X c tt ft) (ha : DE X m a ta fa) (hb : DE X m b tb fb) : DE X m (.IfExp c a b pos) (tIf tt ta tb) (fIf ft fa fb) := ⟨pe_ifExp hc.p ha.p hb.p, fun B F H σ ρ d Q rel hf q => by
  obtain ⟨k, h1, h2⟩ := bind_some hf
  refine hc.s B F H σ ρ k _ rel h1 fun F1 H1 x1 => ?_
  cases k with
  | true => exact ha.s B F1 H1 σ ρ d _ (rel.ext x1) h2 fun v F2 H2 x2 r2 => q v F2 H2 (x1.trans x2) (r2.back (F1 := F1) x1.h)
  | false => exact hb.s B F1 H1 σ ρ d _ (rel.ext x1) h2 fun v F2 H2 x2 r2 => q v F2 H2 (x1.trans x2) (r2.back (F1 := F1) x1.h)⟩
/-! ### -a -/
def negD : D → Option D
  | .int i => some (.int (-i))
  | _ => none
theorem de_neg (ha : DE X m a ta fa) : DE X .fz (.UnaryOp .USub a pos) (tUn (rU fun i => .int (-i)) ta) (f1 negD fa) := ⟨pe_un un_neg ha.p, fun B F H σ ρ d Q rel hf q => by
  obtain ⟨d1, h1, h2⟩ := bind_some hf
  refine ha.s B F H σ ρ d1 _ rel h1 fun x F1 H1 x1 r1 => ?_
  cases d1 with
  | int i => cases h2; exact ⟨i, r1.int, q _ F1 H1 x1 (Rep.int _)⟩
  | _ => cases h2⟩
/-! ### rows of arguments, displays -/
variable {e : Expr} {es : List Expr} {te : TE} {t : TA} {f : Rho → Option D} {fs : Rho → Option (List D)}
def aNil : Rho → Option (List D) := fun _ => some []
def aCons (f : Rho → Option D) (fs : Rho → Option (List D)) : Rho → Option (List D) := fun ρ => (f ρ).bind fun d => (fs ρ).bind fun ds => some (d :: ds)
theorem ResA.back {K : PySem.W.Frag} {H0 H1 F H : Hp} (s : Same H0 H1) : ∀ {vs : List V} {ds : List D}, ResA K m H1 F H vs ds → ResA K m H0 F H vs ds
  | _, _, .nil => .nil
  | _, _, .cons h r => .cons (h.back (F1 := F) s) (ResA.back s r)
theorem da_nil : DA X m [] tNil aNil := ⟨pa_nil, fun B F H σ ρ ds Q rel hf q => by cases hf; exact q [] F H (.refl rel.fh) .nil, fun ρ ds h => by cases h; rfl⟩
theorem da_cons (ha : DE X m e te f) (hr : DA X m es t fs) (hs : starEach (e :: es) X.env = (false, eval e X.env) :: starEach es X.env := by rfl) : DA X m (e :: es) (tCons te t) (aCons f fs) :=
  ⟨pa_cons ha.p hr.p hs, fun B F H σ ρ ds Q rel hf q => by
    obtain ⟨d, h1, h2⟩ := bind_some hf
    obtain ⟨ds', h3, h4⟩ := bind_some h2
    cases h4
    refine ha.s B F H σ ρ d _ rel h1 fun x F1 H1 x1 r1 => ?_
    exact hr.s B F1 H1 σ ρ ds' _ (rel.ext x1) h3 fun xs F2 H2 x2 r2 => q _ F2 H2 (x1.trans x2) (.cons (r1.mono x2) (r2.back x1.h)), fun ρ ds h => by
    obtain ⟨d, h1, h2⟩ := bind_some h
    obtain ⟨ds', h3, h4⟩ := bind_some h2
    cases h4
    exact congrArg Nat.succ (hr.n ρ ds' h3)⟩
def tTupF (t : TA) : TE := fun σ H Q => t σ H fun xs H1 => xs.length ≤ sizeLine ∧ NewT xs H1 Q
theorem pe_tupF {x1} (h : PA X es t) : PE X (.Tuple es x1 pos) (tTupF t) := by
  refine ⟨fun pins s σ H Q I hq => ?_⟩
  refine wpAny_Tuple_spliced (thn (h.run pos pins s σ H _ I hq) fun us s1 ⟨xs, H1, I1, r, z, q⟩ => ⟨by rw [← r.length]; exact z, ?_⟩)
  exact ⟨.ref s1.heap.objs.size, _, I1.laidT (t' := s1.toks) r z, rfl, q _ _ (I1.hok.fresh (Nat.le_refl _)) rfl rfl⟩
def fTup (fs : Rho → Option (List D)) : Rho → Option D := fun ρ => (fs ρ).map .tuple
def fLst (fs : Rho → Option (List D)) : Rho → Option D := fun ρ => (fs ρ).map .list
theorem small_es {n : Nat} (h : n ≤ 1000) : n ≤ sizeLine := Nat.le_of_lt (small1000 h)
theorem de_tup {k : Nat} (h : DA X .fz es t fs) (hn : es.length ≤ 1000 := by decide) : DE X .fz (.Tuple es k pos) (tTupF t) (fTup fs) := ⟨pe_tupF h.p, fun B F H σ ρ d Q rel hf q => by
  obtain ⟨ds, h1, rfl⟩ := Option.map_eq_some_iff.mp hf
  refine h.s B F H σ ρ ds _ rel h1 fun xs F1 H1 x1 r1 => ⟨small_es (by rw [r1.length, h.n ρ ds h1]; exact hn), newT_rep x1 r1.rep q⟩⟩
theorem de_lst (h : DA X .fz es t fs) (hn : es.length ≤ 1000 := by decide) : DE X .fr (.List es pos) (tLst t) (fLst fs) := ⟨pe_lst h.p, fun B F H σ ρ d Q rel hf q => by
  obtain ⟨ds, h1, rfl⟩ := Option.map_eq_some_iff.mp hf
  refine h.s B F H σ ρ ds _ rel h1 fun xs F1 H1 x1 r1 => ⟨small_es (by rw [r1.length, h.n ρ ds h1]; exact hn), newL_res x1 r1.rep q⟩⟩
/-! ### built-ins called with values -/
def CallS (K : PySem.W.Frag) (m : Md) (r : List V → Hp → VK → Prop) (g : List D → Option D) : Prop :=
  ∀ (F H Ha : Hp) (xs : List V) (ds : List D) (z : D) (Q : VK), Same F H → ResA K .pk Ha F H xs ds → g ds = some z → (∀ v F' H', Ext F H F' H' → Res K m H F' H' v z → Q v H') → r xs H Q
theorem ResA.any {K : PySem.W.Frag} {H0 F H : Hp} : ∀ {vs : List V} {ds : List D}, ResA K m H0 F H vs ds → ResA K .pk H0 F H vs ds
  | _, _, .nil => .nil
  | _, _, .cons h r => .cons h.any (ResA.any r)
def fB (g : List D → Option D) (fs : Rho → Option (List D)) : Rho → Option D := fun ρ => (fs ρ).bind g
variable {x : Str} {p : Pos} {rc : List V → Hp → VK → Prop} {gc : List D → Option D} {id T : String}
theorem sem_cb {K : PySem.W.Frag} (hs : CallS K m rc gc) (ha : SemA K m1 t fs) : SemE K m (tCB rc t) (fB gc fs) := by
  intro B F H σ ρ z Q rel hf q
  obtain ⟨ds, h1, h2⟩ := bind_some hf
  refine ha B F H σ ρ ds _ rel h1 fun xs F1 H1 x1 r1 => ?_
  exact hs F1 H1 H xs ds z Q x1.s r1.any h2 fun v F' H' x2 r2 => q v F' H' (x1.trans x2) (r2.back (F1 := F1) x1.h)
theorem de_cb (hc : CallR X (.builtin id) rc) (hs : CallS X.K m rc gc) (hg : Gl X x) (hm : X.mg x = none) (hv : bootBuiltins x = some (.builtin id)) (ha : DA X m1 (e :: es) t fs) (hn : x ≠ "__name__" := by decide) (hdb : (x == ("__debug__" : Str)) = false := by decide)
    (he : starEach (e :: es) X.env = (false, eval e X.env) :: starEach es X.env := by rfl) (hpl : (backTo pos (starEach es X.env)).any (·.1) = false := by rfl) : DE X m (.Call (.Name x p) (e :: es) [] pos) (tCB rc t) (fB gc fs) :=
  ⟨pe_callB hc hg hm hv ha.p hn hdb he hpl, sem_cb hs ha.s⟩
theorem de_ct (hc : CallR X (.type T) rc) (hs : CallS X.K m rc gc) (hg : Gl X x) (hm : X.mg x = none) (hv : bootBuiltins x = some (.type T)) (ha : DA X m1 (e :: es) t fs) (hn : x ≠ "__name__" := by decide) (hdb : (x == ("__debug__" : Str)) = false := by decide)
    (he : starEach (e :: es) X.env = (false, eval e X.env) :: starEach es X.env := by rfl) (hpl : (backTo pos (starEach es X.env)).any (·.1) = false := by rfl) : DE X m (.Call (.Name x p) (e :: es) [] pos) (tCB rc t) (fB gc fs) :=
  ⟨pe_callTy hc hg hm hv ha.p hn hdb he hpl, sem_cb hs ha.s⟩
end
theorem resA1 {K : PySem.W.Frag} {m : Md} {H0 F H : Hp} {vs : List V} {d : D} (h : ResA K m H0 F H vs [d]) : ∃ v, vs = [v] ∧ Res K m H0 F H v d := by
  cases h with
  | cons h1 r => cases r; exact ⟨_, rfl, h1⟩
theorem resA2 {K : PySem.W.Frag} {m : Md} {H0 F H : Hp} {vs : List V} {d e : D} (h : ResA K m H0 F H vs [d, e]) : ∃ v w, vs = [v, w] ∧ Res K m H0 F H v d ∧ Res K m H0 F H w e := by
  cases h with
  | cons h1 r => cases r with
    | cons h2 r => cases r; exact ⟨_, _, rfl, h1, h2⟩
end Q
end

/-! part: Q4 -/
section
set_option Elab.async false
set_option linter.all false
set_option maxRecDepth 100000
set_option maxHeartbeats 4000000
set_option autoImplicit false
namespace Q
open PySem PySem.Spec PySem.Calls PyProof.Rows L2
/-! ### collect, sorted over a list or a tuple -/
section
variable {prog : Program} {w : World} {A : Around} {E : Value → Shared → Prop} {s : Shared}
theorem collect_sq {T : String} {it : Addr} {o : Obj} {vs : List Value} {n : Nat} {Q : List Value → Shared → Prop} (hT : T = "list" ∨ T = "tuple") (ho : s.heap.get? it = some o) (hc : o.cls = .type T) (hd : o.data = .seq vs.toArray n)
    (hQ : Q vs { s with heap := (s.heap.push (seqObj "list" #[] 0)).update s.heap.objs.size (Obj.mapSeq (· ++ vs.toArray)) }) (hsz : vs.length ≤ sizeLine) :
    wpAny (model prog w) A (collect (.ref it)) Q E s := by
  unfold collect
  refine wpAny_bind (wpAny_runValue (codeAny_builtin PySem.F.entry_proto_collect ?_))
  rw [Around.under_plainId PySem.F.plain_proto_collect _]
  show wpAny _ A.in1 (newList [] >>= fun l => again (.builtin "list.__iadd__" ⟨[l, .ref it], []⟩)) _ _ s
  refine wpAny_bind (wpAny_newObj_type ?_)
  refine wpAny_pure ⟨plainId_quiet PySem.F.plain_list_iadd _, codeAny_builtin PySem.F.entry_list_iadd ?_⟩
  rw [Around.under_plainId PySem.F.plain_list_iadd _]
  show wpAny _ A.in1 (Builtin.List.listExtendWith (.ref s.heap.objs.size) (.ref it) (.ref s.heap.objs.size)) _ _ _
  have hS : (s.heap.push { cls := .type "list", data := .seq ([] : List Value).toArray }).get? s.heap.objs.size = some { cls := .type "list", data := .seq #[] 0 } := Heap.get?_push_size _ rfl
  have hS₂ := Heap.get?_update_self (Obj.mapSeq (· ++ vs.toArray)) hS rfl
  have fin' : wpAny (model prog w) A (match Value.ref s.heap.objs.size with
      | Value.ref a => do
        match (← load a).data with
          | Data.seq xs _ => pure xs.toList
          | _ => unsupported "internal:collect"
      | _ => unsupported "internal:collect") Q E { s with heap := (s.heap.push { cls := .type "list", data := .seq ([] : List Value).toArray }).update s.heap.objs.size (Obj.mapSeq (· ++ vs.toArray)) } := by
    show wpAny _ A (load s.heap.objs.size >>= _) _ _ _
    refine wpAny_bind (wpAny_load hS₂ ?_)
    refine wpAny_pure ?_
    have e : ((#[] : Array Value) ++ vs.toArray).toList = vs := by simp
    show Q ((#[] : Array Value) ++ vs.toArray).toList _
    rw [e]
    exact hQ
  refine wpAny_mono (wpAny_extend_seq (hsz := by rw [List.size_toArray]; exact hsz) (A := A) (R := fun r s' => r = .ok (.ret (.ref s.heap.objs.size)) ∧ s' = { s with heap := (s.heap.push { cls := .type "list", data := .seq ([] : List Value).toArray }).update s.heap.objs.size (Obj.mapSeq (· ++ vs.toArray)) })
    (s := { s with heap := s.heap.push { cls := .type "list", data := .seq ([] : List Value).toArray } }) _ it _ 0 hT hS (Heap.get?_push_of_some _ ho) hc hd ⟨rfl, rfl⟩) (fun fin s' h => ?_) (fun e s' h => ?_)
  · cases fin with
    | done f =>
      obtain ⟨e, rfl⟩ := h
      cases e
      exact fin'
    | again c' => exact ⟨h.1, codeAny_mono h.2 fun r s'' hr => by obtain ⟨rfl, rfl⟩ := hr; exact fin'⟩
  · exact absurd h.1 (by simp)
theorem sorted_sq {T : String} {l : Addr} {o : Obj} {vs : List Value} {n : Nat} {kw : List (Str × Value)} {Q : Value → Shared → Prop} (hT : T = "list" ∨ T = "tuple") (ho : s.heap.get? l = some o) (hc : o.cls = .type T) (hd : o.data = .seq vs.toArray n) (hL : vs.length ≤ sizeLine) (ha1 : argsOk "sorted" ⟨[.ref l], kw⟩) (ha2 : ∀ x, argsOk "list.sort" ⟨[.ref x], kw⟩)
    (body : ∀ E' : Value → Shared → Prop, wpAny (model prog w) A.in1.in1 (Builtin.«list.sort» ⟨[.ref (s.heap.objs.size + 1)], kw⟩) (fun f s' => f = .done (.ret .none) ∧ Q (.ref (s.heap.objs.size + 1)) s') E' { s with heap := PySem.W.copyHeap s.heap vs }) :
    wpAny (model prog w) A (call (.builtin "sorted") [.ref l] kw) Q E s := by
  refine call_function_entry_kw kind_sorted plain_sorted entry_sorted ha1 ?_
  unfold Builtin.«sorted»
  refine wpAny_bind (m := checkCount "sorted" 1 1 _) (wpAny_pure ?_)
  refine wpAny_bind (collect_sq hT ho hc hd ?_ hL)
  refine wpAny_bind (wpAny_newList ?_ hL)
  have hsz : ((s.heap.push (seqObj "list" #[] 0)).update s.heap.objs.size (Obj.mapSeq (· ++ vs.toArray))).objs.size = s.heap.objs.size + 1 := by
    rw [Heap.size_update, size_push']
  show wpAny _ _ _ _ _ { s with heap := PySem.W.copyHeap s.heap vs }
  rw [hsz]
  refine wpAny_bind (wpAny_holding (wpAny_call_entry_kw slot_list_sort ⟨_, PySem.W.copyHeap_at s.heap vs, rfl⟩ entry_list_sort ?body (ha2 _)))
  case body =>
    show wpAny (model prog w) A.in1.in1 (Builtin.«list.sort» ⟨[.ref (s.heap.objs.size + 1)], kw⟩) _ _ _
    refine wpAny_mono (body _) (fun f s' hf => ?_) fun _ _ e => e
    obtain ⟨rfl, hq⟩ := hf
    exact ⟨_, rfl, wpAny_pure ⟨_, rfl, hq⟩⟩
theorem sorted_sq_data {β : Type} {vs : List Value} {bs : List β} {enc : β → PyData} {R : Value → β → Prop} {T : String} {l : Addr} {o : Obj} {n : Nat} {Q : Value → Shared → Prop} (hT : T = "list" ∨ T = "tuple") (ho : s.heap.get? l = some o) (hc : o.cls = .type T) (hd : o.data = .seq vs.toArray n)
    (e : PySem.W.EachIs R vs bs) (er : PySem.W.EachIs (fun v b => ∃ as, Reads s.heap v (enc b) as) vs bs) (hal : PySem.W.AllAlike (bs.map enc)) (hk : PySem.W.Sortable (bs.map enc)) (hL : bs.length ≤ sizeLine)
    (hu : ∀ b, b ∈ bs → A.units + 2 + (enc b).depth < cLine) (h : ∀ out, out.length = bs.length → PySem.W.EachIs R out (bs.mergeSort (PySem.W.dataLe false enc)) → Q (.ref (s.heap.objs.size + 1)) { s with heap := sortedAll s.heap vs (List.toArray out) }) :
    wpAny (model prog w) A (call (.builtin "sorted") [.ref l]) Q E s := by
  have er' : PySem.W.EachIs (fun v b => ∃ as, Reads (PySem.W.sortingHeap (PySem.W.copyHeap s.heap vs) (s.heap.objs.size + 1) vs) v (enc b) as) vs bs := er.mono fun _ _ ⟨as, r⟩ => ⟨as, PyProof.Rows.Reads.keeps (fun _ _ => PySem.W.sorting_copy_old) r⟩
  exact sorted_sq hT ho hc hd (by rw [e.length]; exact hL) (args_sorted1 _) (fun _ => args_list_sort _) fun _ => PySem.W.list_sort_vals (s := { s with heap := PySem.W.copyHeap s.heap vs }) (PySem.W.copyHeap_at s.heap vs)
    (PySem.W.SortsAt.data (s := { s with heap := PySem.W.sortingHeap (PySem.W.copyHeap s.heap vs) (s.heap.objs.size + 1) vs }) (PySem.W.each_map (R := fun v d => ∃ as, Reads (PySem.W.sortingHeap (PySem.W.copyHeap s.heap vs) (s.heap.objs.size + 1) vs) v d as) enc er') hal hk (PySem.W.bound_map hu)) (by rw [e.length]; exact hL)
    ⟨rfl, h _ (by rw [PySem.W.sortVals_length false rfl]; exact e.length) (PySem.W.sortVals_data false e er' hal)⟩
end
/-! ### a list or a tuple read -/
def SqA (K : PySem.W.Frag) (H : Hp) (p : Addr) (xs : List V) : Prop := SqL K H p xs ∨ SqT K H p xs
theorem Res.items {K : PySem.W.Frag} {m : Md} {H0 F H : Hp} {v : V} {d : D} {ds : List D} (h : Res K m H0 F H v d) (fh : Same F H) (e : itemsD d = some ds) : ∃ a xs, v = .ref a ∧ SqA K H a xs ∧ RepA K F xs ds := by
  cases d with
  | list es => cases e; obtain ⟨a, xs, e1, s1, r⟩ := h.list fh; exact ⟨a, xs, e1, .inl s1, r⟩
  | tuple es => cases e; obtain ⟨a, xs, e1, s1, r⟩ := h.tup fh; exact ⟨a, xs, e1, .inr s1.sq, r⟩
  | _ => cases e
section
variable {X : Cx} {pins : List (Addr × Obj)} {σ : L2.St} {H : Hp} {s : Shared}
theorem _root_.L2.Inv.seq (I : Inv X pins σ H s) {p : Addr} {xs : List V} (h : SqA X.K H p xs) : ∃ (T : String) (o : Obj) (its : List Value) (n : Nat), (T = "list" ∨ T = "tuple") ∧ s.heap.get? p = some o ∧ o.cls = .type T ∧ o.data = .seq its.toArray n ∧ Vals xs its ∧ xs.length ≤ sizeLine := by
  rcases h with h | h
  · obtain ⟨its, r, ⟨o, n, e, c, _, d⟩, z⟩ := I.list h
    exact ⟨"list", o, its, n, .inl rfl, e, c, d, r, z⟩
  · obtain ⟨its, r, ⟨o, e, c, n, d⟩, z⟩ := I.tuple h
    exact ⟨"tuple", o, its, n, .inr rfl, e, c, d, r, z⟩
end
theorem each_of_vals {K : PySem.W.Frag} {F : Hp} {R : Value → D → Prop} : ∀ {xs : List V} {its : List Value} {ds : List D}, Vals xs its → RepA K F xs ds → (∀ v u d, RelV v u → Rep K F v d → R u d) → PySem.W.EachIs R its ds
  | _, _, _, .nil, .nil, _ => .nil
  | _, _, _, .cons r t, .cons q u, f => .cons (f _ _ _ r q) (each_of_vals t u f)
theorem each_of_valsM {K : PySem.W.Frag} {F : Hp} {R : Value → D → Prop} : ∀ {xs : List V} {its : List Value} {ds : List D}, Vals xs its → RepA K F xs ds → (∀ v u d, d ∈ ds → RelV v u → Rep K F v d → R u d) → PySem.W.EachIs R its ds
  | _, _, _, .nil, .nil, _ => .nil
  | _, _, _, .cons r t, .cons q u, f => .cons (f _ _ _ List.mem_cons_self r q) (each_of_valsM t u fun v u d hd r q => f v u d (List.mem_cons_of_mem _ hd) r q)
theorem vals_of_each {K : PySem.W.Frag} {F : Hp} : ∀ {its : List Value} {ds : List D}, PySem.W.EachIs (fun u d => ∃ v, RelV v u ∧ Rep K F v d) its ds → ∃ xs, Vals xs its ∧ RepA K F xs ds
  | _, _, .nil => ⟨[], .nil, .nil⟩
  | _, _, .cons ⟨v, r, q⟩ t => by
    obtain ⟨xs, h1, h2⟩ := vals_of_each t
    exact ⟨v :: xs, .cons r h1, .cons q h2⟩
mutual
theorem nd_alike : ∀ d : D, PySem.W.alike d d = true → nd d = true
  | .none, _ => rfl
  | .bool _, _ => rfl
  | .int _, _ => rfl
  | .str _, _ => rfl
  | .list xs, h => by rw [nd]; exact nd_alikeA xs (by simpa [PySem.W.alike] using h)
  | .tuple xs, h => by rw [nd]; exact nd_alikeA xs (by simpa [PySem.W.alike] using h)
  | .dict _, h => by simp [PySem.W.alike] at h
theorem nd_alikeA : ∀ ds : List D, PySem.W.alikeAll ds ds = true → ndA ds = true
  | [], _ => by rw [ndA]
  | x :: xs, h => by
    rw [ndA]
    rw [PySem.W.alikeAll, Bool.and_eq_true] at h
    rw [nd_alike x h.1, nd_alikeA xs h.2]
    rfl
end
theorem ndA_of : ∀ ds : List D, (∀ d ∈ ds, nd d = true) → ndA ds = true
  | [], _ => by rw [ndA]
  | x :: xs, h => by
    rw [ndA, h x List.mem_cons_self, ndA_of xs fun d hd => h d (List.mem_cons_of_mem _ hd)]
    rfl
/-! ### sorted -/
/-- may they be sorted -/
def srtOk (ds : List D) : Bool := (ds.all fun d => ds.all fun e => PySem.W.alike d e) && ((ds.all fun d => match d with
  | .tuple (_ :: _) => true
  | _ => false) || ds.all fun d => match d with
  | .none => false
  | .tuple _ => false
  | _ => true) && ds.all fun d => decide (d.depth ≤ 64)
theorem srtOk_of {ds : List D} (h : srtOk ds = true) : PySem.W.AllAlike ds ∧ PySem.W.Sortable ds ∧ ∀ d ∈ ds, d.depth ≤ 64 := by
  unfold srtOk at h
  simp only [Bool.and_eq_true, Bool.or_eq_true, List.all_eq_true, decide_eq_true_eq] at h
  obtain ⟨⟨h1, h2⟩, h3⟩ := h
  refine ⟨h1, ?_, h3⟩
  rcases h2 with h2 | h2
  · refine .inl fun d hd => ?_
    have := h2 d hd
    cases d with
    | tuple xs =>
      cases xs with
      | nil => cases this
      | cons a b => exact ⟨a, b, rfl⟩
    | _ => cases this
  · refine .inr fun d hd => ?_
    have := h2 d hd
    refine ⟨fun z => ?_, fun xs z => ?_⟩
    · subst z; cases this
    · subst z; cases this
def srt (ds : List D) : List D := ds.mergeSort (PySem.W.dataLe false id)
def sortedD : List D → Option D
  | [d] => (itemsD d).bind fun ds => if srtOk ds = true then some (.list (srt ds)) else none
  | _ => none
/-- the state hidden in a sort: the items as values, as data -/
def rSrt (K : PySem.W.Frag) : List V → Hp → VK → Prop := fun vs H Q => ∃ a xs F ds, vs = [.ref a] ∧ Same F H ∧ SqA K H a xs ∧ RepA K F xs ds ∧ srtOk ds = true ∧ ∀ ys, RepA K F ys (srt ds) → NewL ys H Q
section
variable {X : Cx}
theorem cr_srt (hu : X.A.units + 70 < cLine) : CallR X (.builtin "sorted") (rSrt X.K) := by
  intro pins s σ H vs us Q I r h
  obtain ⟨a, xs, F, ds, rfl, fh, sq, rp, ok, q⟩ := h
  obtain ⟨u, rfl, ru⟩ := vals1 r
  cases ru
  obtain ⟨T, o, its, n, hT, e, c, d, rv, hz⟩ := I.seq sq
  obtain ⟨h1, h2, h3⟩ := srtOk_of ok
  have em : (ds.map id) = ds := List.map_id _
  refine sorted_sq_data (enc := id) (R := fun u d => ∃ v, RelV v u ∧ Rep X.K F v d) hT e c d (each_of_vals rv rp fun v u d r q => ⟨v, r, q⟩)
    (each_of_valsM rv rp fun v u d hd r q => Dp.reads I d v u ((q.mono fh).dp (nd_alike d (h1 d hd d hd))) r) (by rw [em]; exact h1) (by rw [em]; exact h2) (by rw [← rp.length]; exact hz) (fun b hb => by have := h3 b hb; show X.A.units + 2 + b.depth < cLine; omega) fun out ho hE => ?_
  obtain ⟨ys, v1, r1⟩ := vals_of_each hE
  obtain ⟨c', hc'⟩ := sortedAll_at s.heap its out.toArray
  have hlen : ys.length ≤ sizeLine := by rw [v1.length, ho, ← rp.length]; exact hz
  refine ⟨.ref (s.heap.objs.size + 1), _, I.laid (t' := s.toks) (o := .lst ys) (fun b u q => sortedAll_old q) (Nat.le_succ _) ⟨hlen, out, c', v1, hc'⟩, rfl, q ys r1 _ (I.hok.fresh (Nat.le_succ _))⟩
theorem cr_srtK (K' : PySem.W.Frag) (hu : X.A.units + 70 < cLine) (hK : X.K = K' := by rfl) : CallR X (.builtin "sorted") (rSrt K') := by
  subst hK
  exact cr_srt (hu := hu)
end
theorem cs_srt {K : PySem.W.Frag} : CallS K .fr (rSrt K) sortedD := by
  intro F H Ha vs ds z Q fh r hz q
  match ds, r, hz with
  | [d], r, hz =>
    obtain ⟨es, h1, h2⟩ := bind_some (show (itemsD d).bind (fun ds => if srtOk ds = true then some (PyData.list (srt ds)) else none) = some z from hz)
    obtain ⟨ok, rfl⟩ := if_some h2
    obtain ⟨v, rfl, r1⟩ := resA1 r
    obtain ⟨a, xs, rfl, s1, p1⟩ := r1.items fh h1
    exact ⟨a, xs, F, es, rfl, fh, s1, p1, ok, fun ys ry => newL_res (.refl fh) ry q⟩
/-! ### len, int, tuple, list, abs, min, max of two -/
def lenD : List D → Option D
  | [.list ds] => some (.int ds.length)
  | [.tuple ds] => some (.int ds.length)
  | [.str z] => if z.length ≤ sizeLine then some (.int z.length) else none
  | _ => none
def rLen (K : PySem.W.Frag) : List V → Hp → VK → Prop := fun xs H Q => ∃ x n, xs = [x] ∧ LenV K x H n ∧ Q (.int n) H
theorem cs_len {K : PySem.W.Frag} : CallS K .fz (rLen K) lenD := by
  intro F H Ha vs ds z Q fh r hz q
  match ds, r, hz with
  | [.list es], r, hz =>
    cases hz
    obtain ⟨v, rfl, r1⟩ := resA1 r
    obtain ⟨a, xs, rfl, s1, p1⟩ := r1.list fh
    refine ⟨_, es.length, rfl, .inl ⟨xs, s1, p1.length.symm⟩, q _ F H (.refl fh) (Rep.int _)⟩
  | [.tuple es], r, hz =>
    cases hz
    obtain ⟨v, rfl, r1⟩ := resA1 r
    obtain ⟨a, xs, rfl, s1, p1⟩ := r1.tup fh
    refine ⟨_, es.length, rfl, .inr ⟨xs, s1.sq, p1.length.symm⟩, q _ F H (.refl fh) (Rep.int _)⟩
  | [.str y], r, hz =>
    obtain ⟨hl, rfl⟩ := if_some (show (if y.length ≤ sizeLine then some (PyData.int y.length) else none) = some z from hz)
    obtain ⟨v, rfl, r1⟩ := resA1 r
    rw [r1.str]
    exact ⟨_, _, rfl, ⟨hl, rfl⟩, q _ F H (.refl fh) (Rep.int _)⟩
def intD : List D → Option D
  | [.int i] => some (.int i)
  | [.bool b] => some (.int (if b then 1 else 0))
  | _ => none
def rInt : List V → Hp → VK → Prop := fun xs H Q => (∃ i, xs = [.int i] ∧ Q (.int i) H) ∨ ∃ k, xs = [.bl k] ∧ Q (.int (if k then 1 else 0)) H
theorem cs_int {K : PySem.W.Frag} : CallS K .fz rInt intD := by
  intro F H Ha vs ds z Q fh r hz q
  match ds, r, hz with
  | [.int i], r, hz =>
    cases hz
    obtain ⟨v, rfl, r1⟩ := resA1 r
    rw [r1.int]
    exact .inl ⟨i, rfl, q _ F H (.refl fh) (Rep.int _)⟩
  | [.bool b], r, hz =>
    cases hz
    obtain ⟨v, rfl, r1⟩ := resA1 r
    rw [r1.bl]
    exact .inr ⟨b, rfl, q _ F H (.refl fh) (Rep.int _)⟩
def absD : List D → Option D
  | [.int i] => some (.int (if i < 0 then -i else i))
  | _ => none
def rAbs : List V → Hp → VK → Prop := fun xs H Q => ∃ i, xs = [.int i] ∧ Q (.int (if i < 0 then -i else i)) H
theorem cs_abs {K : PySem.W.Frag} : CallS K .fz rAbs absD := by
  intro F H Ha vs ds z Q fh r hz q
  match ds, r, hz with
  | [.int i], r, hz =>
    cases hz
    obtain ⟨v, rfl, r1⟩ := resA1 r
    rw [r1.int]
    exact ⟨i, rfl, q _ F H (.refl fh) (Rep.int _)⟩
def max2D : List D → Option D
  | [.int i, .int j] => some (.int (if j > i then j else i))
  | _ => none
def min2D : List D → Option D
  | [.int i, .int j] => some (.int (if j < i then j else i))
  | _ => none
def rMax2 : List V → Hp → VK → Prop := fun xs H Q => ∃ i j, xs = [.int i, .int j] ∧ Q (.int (if j > i then j else i)) H
def rMin2 : List V → Hp → VK → Prop := fun xs H Q => ∃ i j, xs = [.int i, .int j] ∧ Q (.int (if j < i then j else i)) H
theorem cs_max2 {K : PySem.W.Frag} : CallS K .fz rMax2 max2D := by
  intro F H Ha vs ds z Q fh r hz q
  match ds, r, hz with
  | [.int i, .int j], r, hz =>
    cases hz
    obtain ⟨v, w, rfl, r1, r2⟩ := resA2 r
    rw [r1.int, r2.int]
    exact ⟨i, j, rfl, q _ F H (.refl fh) (Rep.int _)⟩
theorem cs_min2 {K : PySem.W.Frag} : CallS K .fz rMin2 min2D := by
  intro F H Ha vs ds z Q fh r hz q
  match ds, r, hz with
  | [.int i, .int j], r, hz =>
    cases hz
    obtain ⟨v, w, rfl, r1, r2⟩ := resA2 r
    rw [r1.int, r2.int]
    exact ⟨i, j, rfl, q _ F H (.refl fh) (Rep.int _)⟩
def tupD : List D → Option D
  | [.list ds] => some (.tuple ds)
  | [.tuple ds] => some (.tuple ds)
  | _ => none
def rTupC (K : PySem.W.Frag) : List V → Hp → VK → Prop := fun xs H Q => ∃ p ys, xs = [.ref p] ∧ ((SqL K H p ys ∧ NewT ys H Q) ∨ (SqT K H p ys ∧ Q (.ref p) H))
theorem cr_tup {X : Cx} : CallR X (.type "tuple") (rTupC X.K) := by
  intro pins s σ H vs us Q I r h
  obtain ⟨p, xs, rfl, h⟩ := h
  obtain ⟨u, rfl, ru⟩ := vals1 r
  cases ru
  rcases h with ⟨hs, q⟩ | ⟨hs, q⟩
  · obtain ⟨its, rv, pl, hz⟩ := I.list hs
    refine call_tuple_list pl.isList (fun h' hk => ?_) (by rw [List.size_toArray, ← rv.length]; exact hz)
    have I1 : Inv X pins σ H { s with heap := h' } := I.kept (t' := s.toks) hk
    exact ⟨.ref h'.objs.size, _, Inv.laidT (s := { s with heap := h' }) (t' := s.toks) I1 rv hz, rfl, q _ _ (I1.hok.fresh (Nat.le_refl _)) rfl rfl⟩
  · obtain ⟨its, rv, pl, hz⟩ := I.tuple hs
    exact call_tuple_tup pl ⟨.ref p, H, I, rfl, q⟩
theorem cr_tupK {X : Cx} (K' : PySem.W.Frag) (hK : X.K = K' := by rfl) : CallR X (.type "tuple") (rTupC K') := by
  subst hK
  exact cr_tup 
theorem cs_tup {K : PySem.W.Frag} : CallS K .fz (rTupC K) tupD := by
  intro F H Ha vs ds z Q fh r hz q
  match ds, r, hz with
  | [.list es], r, hz =>
    cases hz
    obtain ⟨v, rfl, r1⟩ := resA1 r
    obtain ⟨a, xs, rfl, s1, p1⟩ := r1.list fh
    exact ⟨a, xs, rfl, .inl ⟨s1, newT_rep (.refl fh) p1 q⟩⟩
  | [.tuple es], r, hz =>
    cases hz
    obtain ⟨v, rfl, r1⟩ := resA1 r
    have rr := Res.rep r1 (fun _ z => nomatch z) (fun _ z => nomatch z)
    obtain ⟨a, xs, rfl, s1, p1⟩ := r1.tup fh
    exact ⟨a, xs, rfl, .inr ⟨s1.sq, q _ F H (.refl fh) rr⟩⟩
def lstD : List D → Option D
  | [d] => (itemsD d).map .list
  | _ => none
def rLstC (K : PySem.W.Frag) : List V → Hp → VK → Prop := fun xs H Q => ∃ p ys, xs = [.ref p] ∧ (SqL K H p ys ∨ SqT K H p ys) ∧ ∀ l, H l = none → Q (.ref l) (upd H l (.lst ys))
theorem cs_lst {K : PySem.W.Frag} : CallS K .fr (rLstC K) lstD := by
  intro F H Ha vs ds z Q fh r hz q
  match ds, r, hz with
  | [d], r, hz =>
    obtain ⟨es, h1, rfl⟩ := Option.map_eq_some_iff.mp (show (itemsD d).map PyData.list = some z from hz)
    obtain ⟨v, rfl, r1⟩ := resA1 r
    obtain ⟨a, xs, rfl, s1, p1⟩ := r1.items fh h1
    exact ⟨a, xs, rfl, s1, newL_res (.refl fh) p1 q⟩
/-! ### sum, all, any, min, max over items -/
def intsOf : List D → Option (List Int)
  | [] => some []
  | .int i :: ds => (intsOf ds).map (i :: ·)
  | _ => none
theorem intsOf_map : ∀ {ds : List D} {ns : List Int}, intsOf ds = some ns → ds = ns.map .int
  | [], _, h => by cases h; rfl
  | .int i :: ds, ns, h => by
    obtain ⟨ms, h1, rfl⟩ := Option.map_eq_some_iff.mp (show (intsOf ds).map (i :: ·) = some ns from h)
    rw [intsOf_map h1]; rfl
theorem intsOf_ints : ∀ (ns : List Int), intsOf (ns.map .int) = some ns
  | [] => rfl
  | n :: ns => by show (intsOf (ns.map .int)).map (n :: ·) = _; rw [intsOf_ints ns]; rfl
def sumD : List D → Option D
  | [d] => (itemsD d).bind fun ds => (intsOf ds).map fun ns => .int ns.sum
  | _ => none
def rSumA (K : PySem.W.Frag) : List V → Hp → VK → Prop := fun vs H Q => ∃ (a : Addr) (ns : List Int), vs = [V.ref a] ∧ SqA K H a (ns.map V.int) ∧ Q (.int ns.sum) H
theorem cr_sumA {X : Cx} (hc : X.calm = true) : CallR X (.builtin "sum") (rSumA X.K) := by
  intro pins s σ H vs us Q I r h
  obtain ⟨a, ns, rfl, sq, q⟩ := h
  rcases sq with sq | sq
  · exact cr_sum hc pins s σ H _ us Q I r ⟨a, ns, rfl, sq, q⟩
  · obtain ⟨u, rfl, ru⟩ := vals1 r
    cases ru
    obtain ⟨its, rv, pl, hz⟩ := I.tuple sq
    have hi : IntsAre its ns := rv.ints
    obtain ⟨xs, hx⟩ := hi.allInts.items
    have hn : numsOf its.toArray.toList = ns := by rw [show its.toArray.toList = its from rfl, hi.numsOf]
    rw [hx] at pl hn
    rw [nums_intItems] at hn
    refine PySem.W.ktm_sumG (I.ok.hd hc) pl fun h' tk t' hk => ?_
    rw [preSum_eq, List.take_of_length_le (by simp), hn]
    exact ⟨.int ns.sum, H, I.kept hk, ⟨t', rfl⟩, q⟩
theorem cr_sumAK {X : Cx} (K' : PySem.W.Frag) (hc : X.calm = true) (hK : X.K = K' := by rfl) : CallR X (.builtin "sum") (rSumA K') := by
  subst hK
  exact cr_sumA (hc := hc)
theorem cs_sum {K : PySem.W.Frag} : CallS K .fz (rSumA K) sumD := by
  intro F H Ha vs ds z Q fh r hz q
  match ds, r, hz with
  | [d], r, hz =>
    obtain ⟨es, h1, h2⟩ := bind_some (show (itemsD d).bind (fun ds => (intsOf ds).map fun ns => PyData.int ns.sum) = some z from hz)
    obtain ⟨ns, h3, rfl⟩ := Option.map_eq_some_iff.mp h2
    obtain ⟨v, rfl, r1⟩ := resA1 r
    obtain ⟨a, xs, rfl, s1, p1⟩ := r1.items fh h1
    have e := intsOf_map h3
    subst e
    have e2 := RepA.ints p1
    subst e2
    exact ⟨a, ns, rfl, s1, q _ F H (.refl fh) (Rep.int _)⟩
def blsOf : List D → Option (List Bool)
  | [] => some []
  | .bool b :: ds => (blsOf ds).map (b :: ·)
  | _ => none
theorem blsOf_map : ∀ {ds : List D} {ns : List Bool}, blsOf ds = some ns → ds = ns.map .bool
  | [], _, h => by cases h; rfl
  | .bool i :: ds, ns, h => by
    obtain ⟨ms, h1, rfl⟩ := Option.map_eq_some_iff.mp (show (blsOf ds).map (i :: ·) = some ns from h)
    rw [blsOf_map h1]; rfl
theorem blsOf_bls : ∀ (ns : List Bool), blsOf (ns.map .bool) = some ns
  | [] => rfl
  | n :: ns => by show (blsOf (ns.map .bool)).map (n :: ·) = _; rw [blsOf_bls ns]; rfl
def allD : List D → Option D
  | [.list ds] => (blsOf ds).map fun bs => .bool (bs.all id)
  | _ => none
def anyD : List D → Option D
  | [.list ds] => (blsOf ds).map fun bs => .bool (bs.any id)
  | _ => none
theorem cs_all {K : PySem.W.Frag} : CallS K .fz (rAll K) allD := by
  intro F H Ha vs ds z Q fh r hz q
  match ds, r, hz with
  | [.list es], r, hz =>
    obtain ⟨bs, h3, rfl⟩ := Option.map_eq_some_iff.mp (show (blsOf es).map (fun bs => PyData.bool (bs.all id)) = some z from hz)
    obtain ⟨v, rfl, r1⟩ := resA1 r
    obtain ⟨a, xs, rfl, s1, p1⟩ := r1.list fh
    have e := blsOf_map h3
    subst e
    have e2 := RepA.bls p1
    subst e2
    exact ⟨a, bs, rfl, s1, q _ F H (.refl fh) (Rep.bl _)⟩
theorem cs_any {K : PySem.W.Frag} : CallS K .fz (rAny K) anyD := by
  intro F H Ha vs ds z Q fh r hz q
  match ds, r, hz with
  | [.list es], r, hz =>
    obtain ⟨bs, h3, rfl⟩ := Option.map_eq_some_iff.mp (show (blsOf es).map (fun bs => PyData.bool (bs.any id)) = some z from hz)
    obtain ⟨v, rfl, r1⟩ := resA1 r
    obtain ⟨a, xs, rfl, s1, p1⟩ := r1.list fh
    have e := blsOf_map h3
    subst e
    have e2 := RepA.bls p1
    subst e2
    exact ⟨a, bs, rfl, s1, q _ F H (.refl fh) (Rep.bl _)⟩
def bestOk (ds : List D) : Bool := (ds.all fun d => ds.all fun e => PySem.W.alike d e) && (ds.all fun d => match d with
  | .none => false
  | _ => true) && decide (PyData.depthAll ds ≤ 64)
theorem bestOk_of {ds : List D} (h : bestOk ds = true) : PySem.W.AlikeAll ds ∧ PyData.depthAll ds ≤ 64 := by
  unfold bestOk at h
  simp only [Bool.and_eq_true, List.all_eq_true, decide_eq_true_eq] at h
  obtain ⟨⟨h1, h2⟩, h3⟩ := h
  refine ⟨⟨h1, fun d hd z => ?_⟩, h3⟩
  subst z
  exact nomatch h2 _ hd
def minOf : List D → Option D
  | [] => none
  | x :: xs => if bestOk (x :: xs) = true then some (PySem.W.minD x xs) else none
def maxOf : List D → Option D
  | [] => none
  | x :: xs => if bestOk (x :: xs) = true then some (PySem.W.maxD x xs) else none
def minA : List D → Option D
  | [d] => (itemsD d).bind minOf
  | _ => none
def maxA : List D → Option D
  | [d] => (itemsD d).bind maxOf
  | _ => none
theorem minD_mem (x : D) : ∀ xs : List D, PySem.W.minD x xs ∈ x :: xs := by
  intro xs
  unfold PySem.W.minD
  induction xs generalizing x with
  | nil => exact List.mem_singleton.mpr rfl
  | cons y ys ih =>
    rw [List.foldl_cons]
    split
    · exact List.mem_cons_of_mem _ (ih y)
    · rcases List.mem_cons.mp (ih x) with e | e
      · rw [e]; exact List.mem_cons_self
      · exact List.mem_cons_of_mem _ (List.mem_cons_of_mem _ e)
theorem maxD_mem (x : D) : ∀ xs : List D, PySem.W.maxD x xs ∈ x :: xs := by
  intro xs
  unfold PySem.W.maxD
  induction xs generalizing x with
  | nil => exact List.mem_singleton.mpr rfl
  | cons y ys ih =>
    rw [List.foldl_cons]
    split
    · exact List.mem_cons_of_mem _ (ih y)
    · rcases List.mem_cons.mp (ih x) with e | e
      · rw [e]; exact List.mem_cons_self
      · exact List.mem_cons_of_mem _ (List.mem_cons_of_mem _ e)
def rBest (K : PySem.W.Frag) (f : D → List D → D) : List V → Hp → VK → Prop := fun vs H Q => ∃ a xs F x ds, vs = [V.ref a] ∧ Same F H ∧ SqA K H a xs ∧ RepA K F xs (x :: ds) ∧ bestOk (x :: ds) = true ∧ ∀ v, Rep K F v (f x ds) → Q v H
theorem best_end {X : Cx} {pins : List (Addr × Obj)} {σ : L2.St} {H F : Hp} {s : Shared} {xs : List V} {its : List Value} {ds : List D} {i : Nat} {u : Value} {h' : Heap} {tk : Nat} {m : D} {bs : List Addr} (I : Inv X pins σ H s) (fh : Same F H) (rv : Vals xs its) (rp : RepA X.K F xs ds) (ok : PySem.W.AlikeAll ds) (hm : m ∈ ds)
    (hu : its.toArray[i]? = some u) (hr : Reads h' u m bs) (hk : ∀ b o, s.heap.get? b = some o → h'.get? b = some o) : ∃ v, RelV v u ∧ Rep X.K F v m := by
  have hu' : its[i]? = some u := by rw [← hu]; simp
  have hi : i < xs.length := by rw [rv.length]; exact (List.getElem?_eq_some_iff.mp hu').1
  obtain ⟨u2, h2, r2⟩ := rv.get (List.getElem?_eq_getElem hi)
  rw [hu'] at h2; cases h2
  obtain ⟨d, h3, r3⟩ := rp.getV (List.getElem?_eq_getElem hi)
  have I2 : Inv X pins σ H { s with heap := h', toks := tk } := I.kept hk
  obtain ⟨as, r4⟩ := Dp.reads I2 d _ u ((r3.mono fh).dp (nd_alike d (ok.1 _ (List.mem_of_getElem? h3) _ (List.mem_of_getElem? h3)))) r2
  have e := PySem.W.alike_unique _ _ _ _ _ (ok.1 _ (List.mem_of_getElem? h3) _ hm) r4 hr
  subst e
  exact ⟨_, r2, r3⟩
theorem cr_minA {X : Cx} (hc : X.calm = true) (hu : X.A.units + 70 < cLine) : CallR X (.builtin "min") (rBest X.K PySem.W.minD) := by
  intro pins s σ H vs us Q I r h
  obtain ⟨a, xs, F, x, ds, rfl, fh, sq, rp, ok, q⟩ := h
  obtain ⟨u, rfl, ru⟩ := vals1 r
  cases ru
  obtain ⟨h1, h2⟩ := bestOk_of ok
  rcases sq with sq | sq
  · obtain ⟨its, rv, pl, hz⟩ := I.list sq
    obtain ⟨as, hr⟩ := Dp.readsAll I (x :: ds) xs its ((rp.mono fh).dp (ndA_of _ fun d hd => nd_alike d (h1.1 d hd d hd))) rv
    refine PySem.W.min_list_data (I.ok.hd hc) pl.isList (show ReadsAll s.heap its.toArray.toList _ _ from hr) h1 (by omega) fun i v h' tk bs hi hr' hk => ?_
    obtain ⟨w, r1, r2⟩ := best_end (tk := tk) I fh rv rp h1 (minD_mem x ds) hi hr' hk
    exact ⟨w, H, I.kept hk, r1, q w r2⟩
  · obtain ⟨its, rv, pl, hz⟩ := I.tuple sq
    obtain ⟨as, hr⟩ := Dp.readsAll I (x :: ds) xs its ((rp.mono fh).dp (ndA_of _ fun d hd => nd_alike d (h1.1 d hd d hd))) rv
    refine PySem.W.min_tuple_data (I.ok.hd hc) pl (show ReadsAll s.heap its.toArray.toList _ _ from hr) h1 (by omega) fun i v h' tk bs hi hr' hk => ?_
    obtain ⟨w, r1, r2⟩ := best_end (tk := tk) I fh rv rp h1 (minD_mem x ds) hi hr' hk
    exact ⟨w, H, I.kept hk, r1, q w r2⟩
theorem cr_minAK {X : Cx} (K' : PySem.W.Frag) (hc : X.calm = true) (hu : X.A.units + 70 < cLine) (hK : X.K = K' := by rfl) : CallR X (.builtin "min") (rBest K' PySem.W.minD) := by
  subst hK
  exact cr_minA (hc := hc) (hu := hu)
theorem cr_maxA {X : Cx} (hc : X.calm = true) (hu : X.A.units + 70 < cLine) : CallR X (.builtin "max") (rBest X.K PySem.W.maxD) := by
  intro pins s σ H vs us Q I r h
  obtain ⟨a, xs, F, x, ds, rfl, fh, sq, rp, ok, q⟩ := h
  obtain ⟨u, rfl, ru⟩ := vals1 r
  cases ru
  obtain ⟨h1, h2⟩ := bestOk_of ok
  rcases sq with sq | sq
  · obtain ⟨its, rv, pl, hz⟩ := I.list sq
    obtain ⟨as, hr⟩ := Dp.readsAll I (x :: ds) xs its ((rp.mono fh).dp (ndA_of _ fun d hd => nd_alike d (h1.1 d hd d hd))) rv
    refine PySem.W.max_list_data (I.ok.hd hc) pl.isList (show ReadsAll s.heap its.toArray.toList _ _ from hr) h1 (by omega) fun i v h' tk bs hi hr' hk => ?_
    obtain ⟨w, r1, r2⟩ := best_end (tk := tk) I fh rv rp h1 (maxD_mem x ds) hi hr' hk
    exact ⟨w, H, I.kept hk, r1, q w r2⟩
  · obtain ⟨its, rv, pl, hz⟩ := I.tuple sq
    obtain ⟨as, hr⟩ := Dp.readsAll I (x :: ds) xs its ((rp.mono fh).dp (ndA_of _ fun d hd => nd_alike d (h1.1 d hd d hd))) rv
    refine PySem.W.max_tuple_data (I.ok.hd hc) pl (show ReadsAll s.heap its.toArray.toList _ _ from hr) h1 (by omega) fun i v h' tk bs hi hr' hk => ?_
    obtain ⟨w, r1, r2⟩ := best_end (tk := tk) I fh rv rp h1 (maxD_mem x ds) hi hr' hk
    exact ⟨w, H, I.kept hk, r1, q w r2⟩
theorem cr_maxAK {X : Cx} (K' : PySem.W.Frag) (hc : X.calm = true) (hu : X.A.units + 70 < cLine) (hK : X.K = K' := by rfl) : CallR X (.builtin "max") (rBest K' PySem.W.maxD) := by
  subst hK
  exact cr_maxA (hc := hc) (hu := hu)
theorem cs_minA {K : PySem.W.Frag} : CallS K .fz (rBest K PySem.W.minD) minA := by
  intro F H Ha vs ds z Q fh r hz q
  match ds, r, hz with
  | [d], r, hz =>
    obtain ⟨es, h1, h2⟩ := bind_some (show (itemsD d).bind minOf = some z from hz)
    obtain ⟨v, rfl, r1⟩ := resA1 r
    obtain ⟨a, xs, rfl, s1, p1⟩ := r1.items fh h1
    match es, h2, p1 with
    | x :: es, h2, p1 =>
      obtain ⟨ok, rfl⟩ := if_some h2
      exact ⟨a, xs, F, x, es, rfl, fh, s1, p1, ok, fun v rv => q v F H (.refl fh) rv⟩
theorem cs_maxA {K : PySem.W.Frag} : CallS K .fz (rBest K PySem.W.maxD) maxA := by
  intro F H Ha vs ds z Q fh r hz q
  match ds, r, hz with
  | [d], r, hz =>
    obtain ⟨es, h1, h2⟩ := bind_some (show (itemsD d).bind maxOf = some z from hz)
    obtain ⟨v, rfl, r1⟩ := resA1 r
    obtain ⟨a, xs, rfl, s1, p1⟩ := r1.items fh h1
    match es, h2, p1 with
    | x :: es, h2, p1 =>
      obtain ⟨ok, rfl⟩ := if_some h2
      exact ⟨a, xs, F, x, es, rfl, fh, s1, p1, ok, fun v rv => q v F H (.refl fh) rv⟩
end Q
end

/-! part: Q5 -/
section
set_option Elab.async false
set_option linter.all false
set_option maxRecDepth 100000
set_option maxHeartbeats 4000000
set_option autoImplicit false
namespace Q
open PySem PySem.Spec PySem.Calls PyProof.Rows L2
/-! ### statements -/
inductive Out where
  | nx (ρ : Rho)
  | bk (ρ : Rho)
  | ct (ρ : Rho)
  | rt (d : D)
abbrev Bd := Rho → Option Out
/-- what is known behind a return -/
def RtOk (K : PySem.W.Frag) (m : Md) (B : Bs) (F H : Hp) (v : V) (d : D) : Prop := Same B.F0 F ∧ Same B.G H ∧ Same F H ∧ New B.F0 F B.G ∧ Res K m B.G F H v d
/-- the ends that a statement's denotation reaches -/
def Ends_ (K : PySem.W.Frag) (m : Md) (W : List Nat) (B : Bs) (σ : L2.St) (D : Ends) (o : Out) : Prop := match o with
  | .nx ρ' => ∀ (σ' : L2.St) (F' H' : Hp), Rel K B F' H' σ' ρ' → (∀ j, j ∉ W → σ'[j]? = σ[j]?) → D.nx σ' H'
  | .bk ρ' => ∀ (σ' : L2.St) (F' H' : Hp), Rel K B F' H' σ' ρ' → (∀ j, j ∉ W → σ'[j]? = σ[j]?) → D.bk σ' H'
  | .ct ρ' => ∀ (σ' : L2.St) (F' H' : Hp), Rel K B F' H' σ' ρ' → (∀ j, j ∉ W → σ'[j]? = σ[j]?) → D.ct σ' H'
  | .rt d => ∀ (v : V) (F' H' : Hp), RtOk K m B F' H' v d → D.rt v H'
def SemS (K : PySem.W.Frag) (m : Md) (W : List Nat) (t : TS) (b : Bd) : Prop :=
  ∀ (B : Bs) (F H : Hp) (σ : L2.St) (ρ : Rho) (o : Out) (D : Ends), Rel K B F H σ ρ → b ρ = some o → Ends_ K m W B σ D o → t D σ H
structure DS (X : Cx) (m : Md) (W : List Nat) (st : Stmt) (t : TS) (b : Bd) : Prop where
  p : PS X st t
  s : SemS X.K m W t b
structure DSs (X : Cx) (m : Md) (W : List Nat) (st : List Stmt) (t : TS) (b : Bd) : Prop where
  p : PSs X st t
  s : SemS X.K m W t b
def bNext : Bd := fun ρ => some (.nx ρ)
def bSeq (a b : Bd) : Bd := fun ρ => (a ρ).bind fun o => match o with
  | .nx ρ' => b ρ'
  | o => some o
theorem ends_mono {K : PySem.W.Frag} {m : Md} {W W' : List Nat} {B : Bs} {σ : L2.St} {D : Ends} {o : Out} (h : Ends_ K m W' B σ D o) (hw : ∀ j, j ∈ W → j ∈ W') : Ends_ K m W B σ D o := by
  cases o with
  | nx ρ => exact fun σ' F' H' r k => h σ' F' H' r fun j hj => k j fun z => hj (hw j z)
  | bk ρ => exact fun σ' F' H' r k => h σ' F' H' r fun j hj => k j fun z => hj (hw j z)
  | ct ρ => exact fun σ' F' H' r k => h σ' F' H' r fun j hj => k j fun z => hj (hw j z)
  | rt d => exact h
theorem SemS.mono {K : PySem.W.Frag} {m : Md} {W W' : List Nat} {t : TS} {b : Bd} (h : SemS K m W t b) (hw : ∀ j, j ∈ W → j ∈ W') : SemS K m W' t b :=
  fun B F H σ ρ o D r hb e => h B F H σ ρ o D r hb (ends_mono e hw)
section
variable {X : Cx} {m : Md} {W W1 W2 : List Nat} {st : Stmt} {rest : List Stmt} {t u : TS} {b c : Bd} {pos : Pos}
theorem dss_nil : DSs X m [] [] tNext bNext := ⟨pss_nil, fun B F H σ ρ o D r hb e => by cases hb; exact e σ F H r fun _ _ => rfl⟩
theorem ends_after {K : PySem.W.Frag} {σ σ1 : L2.St} {B : Bs} {D : Ends} {o : Out} (e : Ends_ K m (W1 ++ W2) B σ D o) (k1 : ∀ j, j ∉ W1 → σ1[j]? = σ[j]?) : Ends_ K m W2 B σ1 D o := by
  have kk : ∀ (σ' : L2.St), (∀ j, j ∉ W2 → σ'[j]? = σ1[j]?) → ∀ j, j ∉ W1 ++ W2 → σ'[j]? = σ[j]? := fun σ' k' j hj =>
    (k' j fun z => hj (List.mem_append_right _ z)).trans (k1 j fun z => hj (List.mem_append_left _ z))
  cases o with
  | nx ρ2 => exact fun σ' F' H' r' k' => e σ' F' H' r' (kk σ' k')
  | bk ρ2 => exact fun σ' F' H' r' k' => e σ' F' H' r' (kk σ' k')
  | ct ρ2 => exact fun σ' F' H' r' k' => e σ' F' H' r' (kk σ' k')
  | rt d => exact e
theorem sem_seq {K : PySem.W.Frag} (h1 : SemS K m W1 t b) (h2 : SemS K m W2 u c) : SemS K m (W1 ++ W2) (tSeq t u) (bSeq b c) := by
  intro B F H σ ρ o D r hb e
  obtain ⟨o1, e1, e2⟩ := bind_some hb
  refine h1 B F H σ ρ o1 _ r e1 ?_
  cases o1 with
  | nx ρ1 => exact fun σ1 F1 H1 r1 k1 => h2 B F1 H1 σ1 ρ1 o D r1 e2 (ends_after e k1)
  | bk ρ1 => cases e2; exact fun σ' F' H' r' k' => e σ' F' H' r' fun j hj => k' j fun z => hj (List.mem_append_left _ z)
  | ct ρ1 => cases e2; exact fun σ' F' H' r' k' => e σ' F' H' r' fun j hj => k' j fun z => hj (List.mem_append_left _ z)
  | rt d => cases e2; exact e
theorem dss_cons (h1 : DS X m W1 st t b) (h2 : DSs X m W2 rest u c) : DSs X m (W1 ++ W2) (st :: rest) (tSeq t u) (bSeq b c) := ⟨pss_cons h1.p h2.p, sem_seq h1.s h2.s⟩
theorem dss_one (h1 : DS X m W st t b) : DSs X m W [st] t b := ⟨pss_one h1.p, h1.s⟩
theorem ds_pass : DS X m [] (.Pass pos) tNext bNext := ⟨ps_pass, fun B F H σ ρ o D r hb e => by cases hb; exact e σ F H r fun _ _ => rfl⟩
def bBreak : Bd := fun ρ => some (.bk ρ)
def bCont : Bd := fun ρ => some (.ct ρ)
def bNever : Bd := fun _ => none
theorem ds_break : DS X m [] (.Break pos) tBreak bBreak := ⟨ps_break, fun B F H σ ρ o D r hb e => by cases hb; exact e σ F H r fun _ _ => rfl⟩
theorem ds_cont : DS X m [] (.Continue pos) tCont bCont := ⟨ps_continue, fun B F H σ ρ o D r hb e => by cases hb; exact e σ F H r fun _ _ => rfl⟩
theorem ds_never : DS X m [] st tNever bNever := ⟨ps_never, fun B F H σ ρ o D r hb e => nomatch hb⟩
theorem dss_never {sts : List Stmt} : DSs X m [] sts tNever bNever := ⟨pss_never, fun B F H σ ρ o D r hb e => nomatch hb⟩
def bIf (c : Rho → Option Bool) (a b : Bd) : Bd := fun ρ => (c ρ).bind fun k => if k = true then a ρ else b ρ
theorem ds_if {e : Expr} {p q : List Stmt} {tc : TT} {fc : Rho → Option Bool} (hc : DT X e tc fc) (ha : DSs X m W1 p t b) (hb : DSs X m W2 q u c) : DS X m (W1 ++ W2) (.If e p q pos) (tIfS tc t u) (bIf fc b c) :=
  ⟨ps_if hc.p ha.p hb.p, fun B F H σ ρ o D r hf e => by
    obtain ⟨k, h1, h2⟩ := bind_some hf
    refine hc.s B F H σ ρ k _ r h1 fun F1 H1 x1 => ?_
    cases k with
    | true => exact ha.s B F1 H1 σ ρ o D (r.ext x1) h2 (ends_mono e fun j hj => List.mem_append_left _ hj)
    | false => exact hb.s B F1 H1 σ ρ o D (r.ext x1) h2 (ends_mono e fun j hj => List.mem_append_right _ hj)⟩
end
/-! ### the state changed -/
section
variable {K : PySem.W.Frag} {B : Bs} {F H : Hp} {σ : L2.St} {ρ : Rho}
theorem set_at {α : Type} {l : List α} {i j : Nat} {x y : α} (h : (l.set i x)[j]? = some y) : (j = i ∧ i < l.length ∧ y = x) ∨ (j ≠ i ∧ l[j]? = some y) := by
  by_cases e : j = i
  · subst e
    by_cases hl : j < l.length
    · rw [List.getElem?_set_self hl] at h
      exact .inl ⟨rfl, hl, (Option.some.inj h).symm⟩
    · rw [List.getElem?_eq_none (by simpa using hl)] at h
      cases h
  · rw [List.getElem?_set_ne (Ne.symm e)] at h
    exact .inr ⟨e, h⟩
theorem Rel.sepD_set (r : Rel K B F H σ ρ) {i : Nat} {v : Option V} {s' : Sl} (h : ∀ d, s' ≠ .ow d) (h' : ∀ d, s' ≠ .dp d) :
    (∀ (i1 j : Nat) (dss : Kd × List (List D)) (e : D) (a c : Addr) (bs : List Addr), (ρ.set i s')[i1]? = some (.dp dss) → (ρ.set i s')[j]? = some (.ow e) → (σ.set i v)[i1]? = some (some (.ref a)) → Cont H a bs → (σ.set i v)[j]? = some (some (.ref c)) → c ∉ a :: bs) ∧
      ∀ (i1 j : Nat) (d e : Kd × List (List D)), (ρ.set i s')[i1]? = some (.dp d) → (ρ.set i s')[j]? = some (.dp e) → i1 = j := by
  refine ⟨fun i1 j dss e a c bs h1 h2 h3 h4 h5 => ?_, fun i1 j d e h1 h2 => ?_⟩
  · rcases set_at h1 with ⟨_, _, z⟩ | ⟨n1, h1⟩
    · exact absurd z.symm (h' dss)
    rcases set_at h2 with ⟨_, _, z⟩ | ⟨n2, h2⟩
    · exact absurd z.symm (h e)
    rw [List.getElem?_set_ne (Ne.symm n1)] at h3
    rw [List.getElem?_set_ne (Ne.symm n2)] at h5
    exact r.sepD i1 j dss e a c bs h1 h2 h3 h4 h5
  · rcases set_at h1 with ⟨_, _, z⟩ | ⟨n1, h1⟩
    · exact absurd z.symm (h' d)
    rcases set_at h2 with ⟨_, _, z⟩ | ⟨n2, h2⟩
    · exact absurd z.symm (h' e)
    exact r.one i1 j d e h1 h2
theorem Rel.sepD_keep (r : Rel K B F H σ ρ) {i : Nat} {s' : Sl} (h : ∀ d, s' ≠ .ow d) (h' : ∀ d, s' ≠ .dp d) :
    (∀ (i1 j : Nat) (dss : Kd × List (List D)) (e : D) (a c : Addr) (bs : List Addr), (ρ.set i s')[i1]? = some (.dp dss) → (ρ.set i s')[j]? = some (.ow e) → σ[i1]? = some (some (.ref a)) → Cont H a bs → σ[j]? = some (some (.ref c)) → c ∉ a :: bs) ∧
      ∀ (i1 j : Nat) (d e : Kd × List (List D)), (ρ.set i s')[i1]? = some (.dp d) → (ρ.set i s')[j]? = some (.dp e) → i1 = j := by
  refine ⟨fun i1 j dss e a c bs h1 h2 h3 h4 h5 => ?_, fun i1 j d e h1 h2 => ?_⟩
  · rcases set_at h1 with ⟨_, _, z⟩ | ⟨n1, h1⟩
    · exact absurd z.symm (h' dss)
    rcases set_at h2 with ⟨_, _, z⟩ | ⟨n2, h2⟩
    · exact absurd z.symm (h e)
    exact r.sepD i1 j dss e a c bs h1 h2 h3 h4 h5
  · rcases set_at h1 with ⟨_, _, z⟩ | ⟨n1, h1⟩
    · exact absurd z.symm (h' d)
    rcases set_at h2 with ⟨_, _, z⟩ | ⟨n2, h2⟩
    · exact absurd z.symm (h' e)
    exact r.one i1 j d e h1 h2
theorem Rel.setIm (r : Rel K B F H σ ρ) {i : Nat} {v : V} {d : D} (h : Rep K F v d) : Rel K B F H (σ.set i (some v)) (ρ.set i (.im d)) := by
  refine ⟨by simpa using r.len, r.f0, r.g, r.fh, r.nw, fun j o s h1 h2 => ?_, fun j k d1 d2 a hjk h1 h2 h3 h4 => ?_, (r.sepD_set (i := i) (v := some v) (s' := .im d) (fun _ z => nomatch z) fun _ z => nomatch z).1, (r.sepD_set (i := i) (v := some v) (s' := .im d) (fun _ z => nomatch z) fun _ z => nomatch z).2⟩
  · rcases set_at h1 with ⟨rfl, _, rfl⟩ | ⟨n1, h1⟩
    · rcases set_at h2 with ⟨_, _, rfl⟩ | ⟨n2, _⟩
      · exact ⟨v, rfl, h⟩
      · exact absurd rfl n2
    · rcases set_at h2 with ⟨e, _, _⟩ | ⟨_, h2⟩
      · exact absurd e n1
      · exact r.sl j o s h1 h2
  · rcases set_at h1 with ⟨_, _, e⟩ | ⟨n1, h1⟩
    · cases e
    rcases set_at h2 with ⟨_, _, e⟩ | ⟨n2, h2⟩
    · cases e
    rw [List.getElem?_set_ne (Ne.symm n1)] at h3
    rw [List.getElem?_set_ne (Ne.symm n2)] at h4
    exact r.sep j k d1 d2 a hjk h1 h2 h3 h4
/-- a new object gets a name of its own -/
theorem Rel.setOw (r : Rel K B F H σ ρ) {i : Nat} {a : Addr} {d : D} (h0 : F a = none) (h1 : B.G a = none) (ho : Own K F H a d) (hn : ∀ (j : Nat) (e : D), j ≠ i → ρ[j]? = some (.ow e) → σ[j]? ≠ some (some (.ref a))) (hn2 : ∀ (j : Nat) (dss : Kd × List (List D)) (b : Addr) (bs : List Addr), j ≠ i → ρ[j]? = some (.dp dss) → σ[j]? = some (some (.ref b)) → Cont H b bs → a ∉ b :: bs) : Rel K B F H (σ.set i (some (.ref a))) (ρ.set i (.ow d)) := by
  refine ⟨by simpa using r.len, r.f0, r.g, r.fh, r.nw, fun j o s e1 e2 => ?_, fun j k d1 d2 b hjk e1 e2 e3 e4 => ?_, fun i1 j dss e b c bs e1 e2 e3 e4 e5 => ?_, fun i1 j d1 d2 e1 e2 => ?_⟩
  · rcases set_at e1 with ⟨rfl, _, rfl⟩ | ⟨n1, e1⟩
    · rcases set_at e2 with ⟨_, _, rfl⟩ | ⟨n2, _⟩
      · exact ⟨a, rfl, h0, h1, ho⟩
      · exact absurd rfl n2
    · rcases set_at e2 with ⟨e, _, _⟩ | ⟨_, e2⟩
      · exact absurd e n1
      · exact r.sl j o s e1 e2
  · by_cases hj : j = i
    · subst hj
      rcases set_at e3 with ⟨_, _, e⟩ | ⟨n, _⟩
      · cases e
        have hk : k ≠ j := fun z => hjk z.symm
        rw [List.getElem?_set_ne (Ne.symm hk)] at e2 e4
        exact hn k d2 hk e2 e4
      · exact absurd rfl n
    · by_cases hk : k = i
      · subst hk
        rcases set_at e4 with ⟨_, _, e⟩ | ⟨n, _⟩
        · cases e
          rw [List.getElem?_set_ne (Ne.symm hj)] at e1 e3
          exact hn j d1 hj e1 e3
        · exact absurd rfl n
      · rw [List.getElem?_set_ne (Ne.symm hj)] at e1 e3
        rw [List.getElem?_set_ne (Ne.symm hk)] at e2 e4
        exact r.sep j k d1 d2 b hjk e1 e2 e3 e4
  · rcases set_at e1 with ⟨_, _, z⟩ | ⟨n1, q1⟩
    · cases z
    rw [List.getElem?_set_ne (Ne.symm n1)] at e3
    by_cases hj : j = i
    · subst hj
      rcases set_at e5 with ⟨_, _, z⟩ | ⟨n3, _⟩
      · cases z
        exact hn2 i1 dss b bs n1 q1 e3 e4
      · exact absurd rfl n3
    · rw [List.getElem?_set_ne (Ne.symm hj)] at e2 e5
      exact r.sepD i1 j dss e b c bs q1 e2 e3 e4 e5
  · rcases set_at e1 with ⟨_, _, z⟩ | ⟨n1, q1⟩
    · cases z
    rcases set_at e2 with ⟨_, _, z⟩ | ⟨n2, q2⟩
    · cases z
    exact r.one i1 j d1 d2 q1 q2
/-- an owned object is written -/
theorem Rel.write (r : Rel K B F H σ ρ) {i : Nat} {a : Addr} {d d' : D} {o' : HO} (h1 : ρ[i]? = some (.ow d)) (h2 : σ[i]? = some (some (.ref a))) (h0 : F a = none) (hg : B.G a = none) (ho : Own K F (upd H a o') a d') : Rel K B F (upd H a o') σ (ρ.set i (.ow d')) := by
  refine ⟨by simpa using r.len, r.f0, fun b u q => ?_, fun b u q => ?_, r.nw, fun j o s e1 e2 => ?_, fun j k d1 d2 b hjk e1 e2 e3 e4 => ?_, fun i1 j dss e b c bs e1 e2 e3 e4 e5 => ?_, fun i1 j d1 d2 e1 e2 => ?_⟩
  · rw [upd_ne (ne_of_none q hg)]; exact r.g b u q
  · rw [upd_ne (ne_of_none q h0)]; exact r.fh b u q
  · rcases set_at e2 with ⟨rfl, _, rfl⟩ | ⟨n, e2⟩
    · rw [h2] at e1; cases e1
      exact ⟨a, rfl, h0, hg, ho⟩
    · have q := r.sl j o s e1 e2
      cases s with
      | un => trivial
      | im d1 => exact q
      | ow d1 =>
        obtain ⟨c, rfl, f, g, w⟩ := q
        have hca : c ≠ a := fun z => by
          subst z
          exact r.sep j i d1 d c n e2 h1 e1 h2
        refine ⟨c, rfl, f, g, ?_⟩
        cases d1 with
        | list ds =>
          obtain ⟨vs, w1, w2⟩ := w
          exact ⟨vs, by rw [upd_ne hca]; exact w1, w2⟩
        | dict ds =>
          obtain ⟨vs, w1, w2⟩ := w
          exact ⟨vs, by rw [upd_ne hca]; exact w1, w2⟩
        | _ => exact w.elim
      | dp dss =>
        obtain ⟨c, bs, rfl, f, g, w, n2, l⟩ := q
        have hn := r.sepD j i dss d c a bs e2 h1 e1 ⟨_, w⟩ h2
        rw [List.mem_cons, not_or] at hn
        refine ⟨c, bs, rfl, f, g, ?_, n2, l.away (.refl _) fun b hb => ⟨rfl, upd_ne fun z => hn.2 (by rw [← z]; exact hb)⟩⟩
        exact w.at (upd_ne (Ne.symm hn.1))
  · have old : ∀ {j : Nat} {e : D}, (ρ.set i (.ow d'))[j]? = some (.ow e) → ∃ e', ρ[j]? = some (.ow e') := fun {j e} q => by
      rcases set_at q with ⟨rfl, _, _⟩ | ⟨_, q⟩
      · exact ⟨d, h1⟩
      · exact ⟨e, q⟩
    obtain ⟨d1', e1⟩ := old e1
    obtain ⟨d2', e2⟩ := old e2
    exact r.sep j k d1' d2' b hjk e1 e2 e3 e4
  · rcases set_at e1 with ⟨_, _, z⟩ | ⟨n1, q1⟩
    · cases z
    obtain ⟨bs', _, _, w, _, _⟩ := r.lists q1 e3
    have hn := r.sepD i1 i dss d b a bs' q1 h1 e3 w h2
    rw [List.mem_cons, not_or] at hn
    have e4' : Cont H b bs := e4.at (upd_ne (Ne.symm hn.1)).symm
    by_cases hj : j = i
    · subst hj
      exact r.sepD i1 j dss d b c bs q1 h1 e3 e4' e5
    · rw [List.getElem?_set_ne (Ne.symm hj)] at e2
      exact r.sepD i1 j dss e b c bs q1 e2 e3 e4' e5
  · rcases set_at e1 with ⟨_, _, z⟩ | ⟨n1, q1⟩
    · cases z
    rcases set_at e2 with ⟨_, _, z⟩ | ⟨n2, q2⟩
    · cases z
    exact r.one i1 j d1 d2 q1 q2
/-- an owned object is frozen -/
theorem Rel.freeze (r : Rel K B F H σ ρ) {i : Nat} {d : D} (h1 : ρ[i]? = some (.ow d)) : ∃ F' v, Same F F' ∧ σ[i]? = some (some v) ∧ Rep K F' v d ∧ Rel K B F' H σ (ρ.set i (.im d)) := by
  obtain ⟨o, e, a, rfl, f, g, w⟩ := r.at h1
  cases d with
  | list ds =>
    obtain ⟨vs, w1, w2⟩ := w
    have s1 : Same F (upd F a (.lst vs)) := same_upd f
    have hrep : Rep K (upd F a (.lst vs)) (.ref a) (.list ds) := .lst (.of upd_same) (w2.mono s1)
    refine ⟨upd F a (.lst vs), .ref a, s1, e, hrep, ⟨by simpa using r.len, r.f0.trans s1, r.g, same_upd2 r.fh w1 f, fun b q => ?_, fun j o s e1 e2 => ?_, fun j k d1 d2 b hjk e1 e2 e3 e4 => ?_, (r.sepD_keep (i := i) (s' := .im (.list ds)) (fun _ z => nomatch z) fun _ z => nomatch z).1, (r.sepD_keep (i := i) (s' := .im (.list ds)) (fun _ z => nomatch z) fun _ z => nomatch z).2⟩⟩
    · by_cases z : b = a
      · subst z; exact .inr g
      · rw [upd_ne z] at q; exact r.nw b q
    · rcases set_at e2 with ⟨rfl, _, rfl⟩ | ⟨n, e2⟩
      · rw [e] at e1; cases e1
        exact ⟨_, rfl, hrep⟩
      · have q := r.sl j o s e1 e2
        cases s with
        | un => trivial
        | im d1 => obtain ⟨v, q1, q2⟩ := q; exact ⟨v, q1, q2.mono s1⟩
        | ow d1 =>
          obtain ⟨c, rfl, f', g', w'⟩ := q
          have hca : c ≠ a := fun z => by
            subst z
            exact r.sep j i d1 _ c n e2 h1 e1 e
          exact ⟨c, rfl, by rw [upd_ne hca]; exact f', g', w'.mono s1 (.refl _)⟩
        | dp dss =>
          obtain ⟨c, bs, rfl, f', g', w', n2, l⟩ := q
          have hn := r.sepD j i dss _ c a bs e2 h1 e1 ⟨_, w'⟩ e
          rw [List.mem_cons, not_or] at hn
          exact ⟨c, bs, rfl, by rw [upd_ne (Ne.symm hn.1)]; exact f', g', w', n2, l.away s1 fun b hb => ⟨upd_ne fun z => hn.2 (by rw [← z]; exact hb), rfl⟩⟩
    · rcases set_at e1 with ⟨_, _, z⟩ | ⟨n1, e1⟩
      · cases z
      rcases set_at e2 with ⟨_, _, z⟩ | ⟨n2, e2⟩
      · cases z
      exact r.sep j k d1 d2 b hjk e1 e2 e3 e4
  | dict ds =>
    obtain ⟨vs, w1, w2⟩ := w
    have s1 : Same F (upd F a (.dK vs)) := same_upd f
    have hrep : Rep K (upd F a (.dK vs)) (.ref a) (.dict ds) := .dct (.of upd_same) (w2.mono s1)
    refine ⟨upd F a (.dK vs), .ref a, s1, e, hrep, ⟨by simpa using r.len, r.f0.trans s1, r.g, same_upd2 r.fh w1 f, fun b q => ?_, fun j o s e1 e2 => ?_, fun j k d1 d2 b hjk e1 e2 e3 e4 => ?_, (r.sepD_keep (i := i) (s' := .im (.dict ds)) (fun _ z => nomatch z) fun _ z => nomatch z).1, (r.sepD_keep (i := i) (s' := .im (.dict ds)) (fun _ z => nomatch z) fun _ z => nomatch z).2⟩⟩
    · by_cases z : b = a
      · subst z; exact .inr g
      · rw [upd_ne z] at q; exact r.nw b q
    · rcases set_at e2 with ⟨rfl, _, rfl⟩ | ⟨n, e2⟩
      · rw [e] at e1; cases e1
        exact ⟨_, rfl, hrep⟩
      · have q := r.sl j o s e1 e2
        cases s with
        | un => trivial
        | im d1 => obtain ⟨v, q1, q2⟩ := q; exact ⟨v, q1, q2.mono s1⟩
        | ow d1 =>
          obtain ⟨c, rfl, f', g', w'⟩ := q
          have hca : c ≠ a := fun z => by
            subst z
            exact r.sep j i d1 _ c n e2 h1 e1 e
          exact ⟨c, rfl, by rw [upd_ne hca]; exact f', g', w'.mono s1 (.refl _)⟩
        | dp dss =>
          obtain ⟨c, bs, rfl, f', g', w', n2, l⟩ := q
          have hn := r.sepD j i dss _ c a bs e2 h1 e1 ⟨_, w'⟩ e
          rw [List.mem_cons, not_or] at hn
          exact ⟨c, bs, rfl, by rw [upd_ne (Ne.symm hn.1)]; exact f', g', w', n2, l.away s1 fun b hb => ⟨upd_ne fun z => hn.2 (by rw [← z]; exact hb), rfl⟩⟩
    · rcases set_at e1 with ⟨_, _, z⟩ | ⟨n1, e1⟩
      · cases z
      rcases set_at e2 with ⟨_, _, z⟩ | ⟨n2, e2⟩
      · cases z
      exact r.sep j k d1 d2 b hjk e1 e2 e3 e4
  | _ => exact w.elim
theorem set_keep {i : Nat} {v : Option V} : ∀ j, j ∉ [i] → (σ.set i v)[j]? = σ[j]? := fun j hj => List.getElem?_set_ne fun z => hj (by rw [z]; exact List.mem_singleton.mpr rfl)
end
/-! ### assignments, return -/
section
variable {X : Cx} {m m1 : Md} {pos pos' : Pos} {e : Expr} {te : TE} {f : Rho → Option D}
def bAsg (i : Nat) (f : Rho → Option D) : Bd := fun ρ => (f ρ).bind fun d => some (.nx (ρ.set i (.im d)))
def bOwn (i : Nat) (f : Rho → Option D) : Bd := fun ρ => (f ρ).bind fun d => some (.nx (ρ.set i (.ow d)))
theorem sem_asg {K : PySem.W.Frag} {i : Nat} (h : SemE K .fz te f) : SemS K m [i] (tAsg te (gName i)) (bAsg i f) := by
  intro B F H σ ρ o D r hb q
  obtain ⟨d, h1, h2⟩ := bind_some hb
  cases h2
  exact h B F H σ ρ d _ r h1 fun v F1 H1 x1 r1 => q _ F1 H1 ((r.ext x1).setIm r1) set_keep
theorem own_ne {K : PySem.W.Frag} {B : Bs} {F H : Hp} {σ : L2.St} {ρ : Rho} (r : Rel K B F H σ ρ) {a : Addr} (h : H a = none) : ∀ (j : Nat) (e : D), ρ[j]? = some (.ow e) → σ[j]? ≠ some (some (.ref a)) := fun j e h1 h2 => by
  have q := r.sl j _ _ h2 h1
  obtain ⟨b, eb, _, _, w⟩ := q
  cases eb
  exact w.there h
theorem dp_ne {K : PySem.W.Frag} {B : Bs} {F H : Hp} {σ : L2.St} {ρ : Rho} (r : Rel K B F H σ ρ) {a : Addr} (h : H a = none) : ∀ (j : Nat) (dss : Kd × List (List D)) (b : Addr) (bs : List Addr), ρ[j]? = some (.dp dss) → σ[j]? = some (some (.ref b)) → Cont H b bs → a ∉ b :: bs := fun j dss b bs h1 h2 h3 hm => by
  obtain ⟨bs', _, _, w, _, l⟩ := r.lists h1 h2
  rw [h3.uniq w] at hm
  rcases List.mem_cons.mp hm with rfl | hm
  · exact w.there h
  · exact (l.there a hm).1 h
theorem sem_own {K : PySem.W.Frag} {i : Nat} (h : SemE K .fr te f) : SemS K m [i] (tAsg te (gName i)) (bOwn i f) := by
  intro B F H σ ρ o D r hb q
  obtain ⟨d, h1, h2⟩ := bind_some hb
  cases h2
  refine h B F H σ ρ d _ r h1 fun v F1 H1 x1 r1 => ?_
  obtain ⟨a, rfl, h0, h3, ho⟩ := r1
  exact q _ F1 H1 ((r.ext x1).setOw h3 (r.g.free h0) ho (fun j e _ e1 => own_ne r h0 j e e1) fun j dss b bs _ e1 e2 e3 => by
    obtain ⟨bs', _, _, w, _, _⟩ := r.lists e1 e2
    rw [e3.uniq (w.mono x1.h)]
    exact dp_ne r h0 j dss b bs' e1 e2 w) set_keep
theorem ds_asg {i : Nat} {x : Str} (he : DE X .fz e te f) (hN : X.N.Nodup) (hi : X.N[i]? = some x := by rfl) (hx : Loc X.env.scope x := by first | exact Or.inl rfl | exact Or.inr rfl) (hs : swapsWith e (some (.Name x pos')) pos.line X.env = pure false := by rfl)
    (hf : X.fn x = true ∨ X.env.scope.names.lookup x = some .local := by first | exact .inl rfl | exact .inr rfl) : DS X m [i] (.Assign [.Name x pos'] e pos) (tAsg te (gName i)) (bAsg i f) := ⟨ps_set hN hi hx he.p hs hf, sem_asg he.s⟩
theorem ds_own {i : Nat} {x : Str} (he : DE X .fr e te f) (hN : X.N.Nodup) (hi : X.N[i]? = some x := by rfl) (hx : Loc X.env.scope x := by first | exact Or.inl rfl | exact Or.inr rfl) (hs : swapsWith e (some (.Name x pos')) pos.line X.env = pure false := by rfl)
    (hf : X.fn x = true ∨ X.env.scope.names.lookup x = some .local := by first | exact .inl rfl | exact .inr rfl) : DS X m [i] (.Assign [.Name x pos'] e pos) (tAsg te (gName i)) (bOwn i f) := ⟨ps_set hN hi hx he.p hs hf, sem_own he.s⟩
/-- x = y, y an owned object: frozen from then on -/
def bMove (i j : Nat) : Bd := fun ρ => match ρ[j]? with
  | some (.im d) => some (.nx (ρ.set i (.im d)))
  | some (.ow d) => some (.nx ((ρ.set j (.im d)).set i (.im d)))
  | _ => none
theorem sem_move {K : PySem.W.Frag} {i j : Nat} : SemS K m [i] (tAsg (tVar j) (gName i)) (bMove i j) := by
  intro B F H σ ρ o D r hb q
  unfold bMove at hb
  split at hb
  · rename_i d e1
    cases hb
    obtain ⟨o, h1, v, rfl, h2⟩ := r.at e1
    exact ⟨v, h1, q _ F H (r.setIm h2) set_keep⟩
  · rename_i d e1
    cases hb
    obtain ⟨F', v, s1, h1, h2, r2⟩ := r.freeze e1
    exact ⟨v, h1, q _ F' H (r2.setIm h2) set_keep⟩
  · cases hb
theorem ds_move {i j : Nat} {x y : Str} {p : Pos} (hN : X.N.Nodup) (hi : X.N[i]? = some x := by rfl) (hx : Loc X.env.scope x := by first | exact Or.inl rfl | exact Or.inr rfl) (hs : swapsWith (.Name y p) (some (.Name x pos')) pos.line X.env = pure false := by rfl)
    (hf : X.fn x = true ∨ X.env.scope.names.lookup x = some .local := by first | exact .inl rfl | exact .inr rfl) (hj : X.N[j]? = some y := by rfl) (hv : Vis X.env.scope y := by first | exact Or.inl rfl | exact Or.inr (Or.inl rfl) | exact Or.inr (Or.inr rfl))
    (hd : (y == ("__debug__" : Str)) = false := by decide) (hcd : (y == ("__classdict__" : Str)) = false := by decide) : DS X m [i] (.Assign [.Name x pos'] (.Name y p) pos) (tAsg (tVar j) (gName i)) (bMove i j) := ⟨ps_set hN hi hx (pe_var hj hv hd hcd) hs hf, sem_move⟩
def bRet (f : Rho → Option D) : Bd := fun ρ => (f ρ).map .rt
theorem rel_rt {K : PySem.W.Frag} {B : Bs} {F H : Hp} {σ : L2.St} {ρ : Rho} {v : V} {d : D} (r : Rel K B F H σ ρ) (h : Res K m B.G F H v d) : RtOk K m B F H v d := ⟨r.f0, r.g, r.fh, r.nw, h⟩
theorem ds_ret (he : DE X m e te f) : DS X m [] (.Return (some e) pos) (tRet te) (bRet f) := ⟨ps_ret he.p, fun B F H σ ρ o D r hb q => by
  obtain ⟨d, h1, rfl⟩ := Option.map_eq_some_iff.mp hb
  exact he.s B F H σ ρ d _ r h1 fun v F1 H1 x1 r1 => q v F1 H1 (rel_rt (r.ext x1) (r1.back (F1 := F1) r.g))⟩
/-- return of an owned name: the object itself -/
def vO (i : Nat) : Rho → Option D := fun ρ => match ρ[i]? with
  | some (.ow d) => some d
  | _ => none
theorem ds_retOwn {i : Nat} {x : Str} {p : Pos} (hN : X.N[i]? = some x := by rfl) (hv : Vis X.env.scope x := by first | exact Or.inl rfl | exact Or.inr (Or.inl rfl) | exact Or.inr (Or.inr rfl)) (hd : (x == ("__debug__" : Str)) = false := by decide)
    (hcd : (x == ("__classdict__" : Str)) = false := by decide) : DS X .fr [] (.Return (some (.Name x p)) pos) (tRet (tVar i)) (bRet (vO i)) := ⟨ps_ret (pe_var hN hv hd hcd), fun B F H σ ρ o D r hb q => by
  obtain ⟨d, h1, rfl⟩ := Option.map_eq_some_iff.mp hb
  unfold vO at h1
  split at h1
  · rename_i d' e1
    cases h1
    obtain ⟨o, h1, a, rfl, h2, h3, h4⟩ := r.at e1
    exact ⟨_, h1, q _ F H (rel_rt r ⟨a, rfl, h3, h2, h4⟩)⟩
  · cases h1⟩
/-- return of a name whatever it is, frozen -/
theorem ds_retP {i : Nat} {x : Str} {p : Pos} (hN : X.N[i]? = some x := by rfl) (hv : Vis X.env.scope x := by first | exact Or.inl rfl | exact Or.inr (Or.inl rfl) | exact Or.inr (Or.inr rfl)) (hd : (x == ("__debug__" : Str)) = false := by decide)
    (hcd : (x == ("__classdict__" : Str)) = false := by decide) : DS X .fz [] (.Return (some (.Name x p)) pos) (tRet (tVar i)) (bRet (vP i)) := ⟨ps_ret (pe_var hN hv hd hcd), fun B F H σ ρ o D r hb q => by
  obtain ⟨d, h1, rfl⟩ := Option.map_eq_some_iff.mp hb
  unfold vP at h1
  split at h1
  · rename_i d' e1
    cases h1
    obtain ⟨o, h1, v, rfl, h2⟩ := r.at e1
    exact ⟨v, h1, q _ F H (rel_rt r h2)⟩
  · rename_i d' e1
    cases h1
    obtain ⟨F', v, s1, h1, h2, r2⟩ := r.freeze e1
    exact ⟨v, h1, q _ F' H (rel_rt r2 h2)⟩
  · cases h1⟩
theorem ds_retN : DS X .fz [] (.Return none pos) tRetN (fun _ => some (.rt .none)) := ⟨ps_retN, fun B F H σ ρ o D r hb q => by cases hb; exact q _ F H (rel_rt r Rep.non)⟩
end
end Q
end

/-! part: Q6 -/
section
set_option Elab.async false
set_option linter.all false
set_option maxRecDepth 100000
set_option maxHeartbeats 4000000
set_option autoImplicit false
namespace Q
open PySem PySem.Spec PySem.Calls PyProof.Rows L2
/-! ### what is walked -/
/-- a value as a datum; w: a pair made by an iterator will do -/
def RepB (w : Bool) (K : PySem.W.Frag) (F : Hp) (v : V) (d : D) : Prop := Rep K F v d ∨ (w = true ∧ ∃ a xs ds, v = .ref a ∧ d = .tuple ds ∧ SqT K F a xs ∧ RepA K F xs ds)
theorem RepB.strong {K : PySem.W.Frag} {F : Hp} {v : V} {d : D} (h : RepB false K F v d) : Rep K F v d := h.elim id fun z => nomatch z.1
/-- over data: fixed. st: what must stand besides F (none for an iterable that is frozen) -/
structure ItO (w : Bool) (K : PySem.W.Frag) (J : It) (F : Hp) (st : Hp → Prop) (ds : List D) : Prop where
  go : ∀ (i : Nat) (F' H' : Hp), i < ds.length → Same F F' → Same F' H' → st H' → J.go i H'
  yld : ∀ (i : Nat) (d : D) (F' H' : Hp) (x : V) (H3 : Hp), ds[i]? = some d → Same F F' → Same F' H' → st H' → J.yld i H' x H3 → ∃ F3, Ext F' H' F3 H3 ∧ RepB w K F3 x d
  stop : ∀ (i : Nat) (F' H' : Hp), ds.length ≤ i → Same F F' → Same F' H' → st H' → J.stop i H'
theorem ItO.weak {w : Bool} {K : PySem.W.Frag} {J : It} {F : Hp} {st : Hp → Prop} {ds : List D} (h : ItO false K J F st ds) : ItO w K J F st ds :=
  ⟨h.go, fun i d F' H' x H3 h1 h2 h3 h4 h5 => by
    obtain ⟨F3, e, r⟩ := h.yld i d F' H' x H3 h1 h2 h3 h4 h5
    exact ⟨F3, e, .inl r.strong⟩, h.stop⟩
theorem ItO.imp {w : Bool} {K : PySem.W.Frag} {J : It} {F : Hp} {st st' : Hp → Prop} {ds : List D} (h : ItO w K J F st ds) (i : ∀ H, st' H → st H) : ItO w K J F st' ds :=
  ⟨fun a b c h1 h2 h3 h4 => h.go a b c h1 h2 h3 (i _ h4), fun a d b c x y h1 h2 h3 h4 h5 => h.yld a d b c x y h1 h2 h3 (i _ h4) h5, fun a b c h1 h2 h3 h4 => h.stop a b c h1 h2 h3 (i _ h4)⟩
/-- frozen: m = fz: nothing must stand but F; m = pk: the heap as it is must be kept -/
def SemI (w : Bool) (K : PySem.W.Frag) (m : Md) (wi : TI) (f : Rho → Option (List D)) : Prop :=
  ∀ (B : Bs) (F H : Hp) (σ : L2.St) (ρ : Rho) (ds : List D) (R : It → Hp → Prop), Rel K B F H σ ρ → f ρ = some ds →
    (∀ J F' H', Ext F H F' H' → ItO w K J F' (match m with
      | .fz => fun _ => True
      | _ => fun H2 => Same H' H2) ds → R J H') → wi σ H R
structure DI (w : Bool) (X : Cx) (m : Md) (tg iter : Expr) (wi : TI) (f : Rho → Option (List D)) : Prop where
  p : PI X tg iter wi
  s : SemI w X.K m wi f
theorem DI.pk {w : Bool} {X : Cx} {m : Md} {tg iter : Expr} {wi : TI} {f : Rho → Option (List D)} (h : DI w X m tg iter wi f) : DI w X .pk tg iter wi f := ⟨h.p, fun B F H σ ρ ds R r hf q => h.s B F H σ ρ ds R r hf fun J F' H' x it => q J F' H' x (by
  cases m with
  | fz => exact it.imp fun _ _ => trivial
  | pk => exact it
  | fr => exact it)⟩
/-! a list, a tuple, a text -/
def iAny (K : PySem.W.Frag) (te : TE) : TI := fun σ H R => te σ H fun x H1 => (∃ a, x = .ref a ∧ (∃ xs, SqL K H1 a xs) ∧ R (Itl K a) H1) ∨ ((∃ a, x = .ref a ∧ (∃ xs, SqT K H1 a xs) ∧ R (Itt K a) H1) ∨ ∃ z, x = .str z ∧ R (Its z) H1)
theorem pi_any {X : Cx} {tg l : Expr} {tl : TE} (hl : PE X l tl) : PI X tg l (iAny X.K tl) := by
  refine ⟨fun pins s σ H R I h => ?_⟩
  refine thn (hl.run pins s σ H _ I h) fun v s1 ⟨x, H1, I1, r1, q1⟩ => ?_
  rcases q1 with ⟨a, e, ⟨xs, hq⟩, q⟩ | ⟨a, e, ⟨xs, hq⟩, q⟩ | ⟨z, e, q⟩
  · subst e
    cases r1
    obtain ⟨its, rv, p, hz⟩ := I1.list hq
    refine wpAny_pyIter_list p.isList ?_
    refine ⟨s1.heap.objs.size, [s1.heap.objs.size], _, _, H1, rfl, I1.kept (t' := s1.toks) fun b o e => Heap.get?_push_of_some _ e, turn_list a _, ⟨_, Heap.get?_push_size _ rfl, rfl, rfl⟩, fun b hb => ?_, q⟩
    have e : b = s1.heap.objs.size := by simpa using hb
    subst e
    exact I1.fpOk (Nat.le_refl _) (I1.hok.fresh (Nat.le_refl _))
  · subst e
    cases r1
    obtain ⟨its, rv, p, hz⟩ := I1.tuple hq
    refine wpAny_pyIter_tuple (show s1.heap.IsTuple a its.toArray from p) ?_
    refine ⟨s1.heap.objs.size, [s1.heap.objs.size], _, _, H1, rfl, I1.kept (t' := s1.toks) fun b o e => Heap.get?_push_of_some _ e, turn_tuple a _, ⟨_, Heap.get?_push_size _ rfl, rfl, rfl⟩, fun b hb => ?_, q⟩
    have e : b = s1.heap.objs.size := by simpa using hb
    subst e
    exact I1.fpOk (Nat.le_refl _) (I1.hok.fresh (Nat.le_refl _))
  · subst e
    obtain ⟨t, rfl⟩ := r1
    cases ha : z.cps.all (· < 128)
    · exact wpAny_pyIter_wide ha (pi_one (tk := s1.toks) I1 _ (turn_str _ z t "str_iterator" (.inr rfl)) ⟨_, Heap.get?_push_size _ rfl, rfl, rfl⟩ q)
    · exact wpAny_pyIter_ascii ha (pi_one (tk := s1.toks) I1 _ (turn_str _ z t "str_ascii_iterator" (.inl rfl)) ⟨_, Heap.get?_push_size _ rfl, rfl, rfl⟩ q)
def signsD (z : Str) : List D := z.cps.toList.map fun c => .str ⟨#[c]⟩
def walkD : D → Option (List D)
  | .list ds => some ds
  | .tuple ds => some ds
  | .str z => some (signsD z)
  | _ => none
def fI (f : Rho → Option D) : Rho → Option (List D) := fun ρ => (f ρ).bind walkD
theorem SqL.inj {K : PySem.W.Frag} {F H : Hp} {a : Addr} {xs ys : List V} (h : SqL K F a xs) (s : Same F H) (h' : SqL K H a ys) (nk : ∀ o, K.lookup a = some o → F a = none → True) : True := trivial
theorem sq_it {K : PySem.W.Frag} {H : Hp} {a : Addr} {xs : List V} {d : D} {ds : List D} {F : Hp} {i : Nat} (r : RepA K F xs ds) (h : ds[i]? = some d) : ∃ x, xs[i]? = some x ∧ Rep K F x d := r.get h
theorem itl_ok {K : PySem.W.Frag} {F : Hp} {a : Addr} {xs : List V} {ds : List D} {st : Hp → Prop} (hs : ∀ H, Same F H → st H → SqL K H a xs) (r : RepA K F xs ds) : ItO false K (Itl K a) F st ds :=
  ⟨fun i F' H' hi s1 s2 s3 => by
    obtain ⟨x, h1, _⟩ := r.get (List.getElem?_eq_getElem hi)
    exact ⟨xs, x, hs H' (s1.trans s2) s3, h1⟩, fun i d F' H' x H3 hd s1 s2 s3 y => by
    obtain ⟨rfl, y⟩ := y
    obtain ⟨x', h1, h2⟩ := r.get hd
    have e := y xs (hs _ (s1.trans s2) s3)
    rw [h1] at e
    cases e
    exact ⟨F', .refl s2, .inl (h2.mono s1)⟩, fun i F' H' hi s1 s2 s3 => ⟨xs, hs H' (s1.trans s2) s3, by rw [r.length]; exact hi⟩⟩
theorem itt_ok {K : PySem.W.Frag} {F : Hp} {a : Addr} {xs : List V} {ds : List D} {st : Hp → Prop} (hs : ∀ H, Same F H → st H → SqT K H a xs) (r : RepA K F xs ds) : ItO false K (Itt K a) F st ds :=
  ⟨fun i F' H' hi s1 s2 s3 => by
    obtain ⟨x, h1, _⟩ := r.get (List.getElem?_eq_getElem hi)
    exact ⟨xs, x, hs H' (s1.trans s2) s3, h1⟩, fun i d F' H' x H3 hd s1 s2 s3 y => by
    obtain ⟨rfl, y⟩ := y
    obtain ⟨x', h1, h2⟩ := r.get hd
    have e := y xs (hs _ (s1.trans s2) s3)
    rw [h1] at e
    cases e
    exact ⟨F', .refl s2, .inl (h2.mono s1)⟩, fun i F' H' hi s1 s2 s3 => ⟨xs, hs H' (s1.trans s2) s3, by rw [r.length]; exact hi⟩⟩
theorem its_ok {K : PySem.W.Frag} {F : Hp} {z : Str} {st : Hp → Prop} : ItO false K (Its z) F st (signsD z) := by
  have hl : (signsD z).length = z.cps.size := by unfold signsD; rw [List.length_map, Array.length_toList]
  refine ⟨fun i F' H' hi s1 s2 s3 => by rw [hl] at hi; exact hi, fun i d F' H' x H3 hd s1 s2 s3 y => ?_, fun i F' H' hi s1 s2 s3 => by rw [hl] at hi; exact hi⟩
  obtain ⟨rfl, c, h1, rfl⟩ := y
  have e : (signsD z)[i]? = some (.str ⟨#[c]⟩) := by
    unfold signsD
    rw [List.getElem?_map, Array.getElem?_toList, h1]
    rfl
  rw [e] at hd
  cases hd
  exact ⟨F', .refl s2, .inl (Rep.str _)⟩
theorem sem_any {K : PySem.W.Frag} {te : TE} {f : Rho → Option D} (h : SemE K .fz te f) : SemI false K .fz (iAny K te) (fI f) := by
  intro B F H σ ρ ds R rel hf q
  obtain ⟨d, h1, h2⟩ := bind_some hf
  refine h B F H σ ρ d _ rel h1 fun v F1 H1 x1 r1 => ?_
  cases d with
  | list es =>
    cases h2
    cases r1 with
    | lst hs hr => exact .inl ⟨_, rfl, ⟨_, x1.s.seq hs⟩, q _ F1 H1 x1 (itl_ok (fun H s _ => s.seq hs) hr)⟩
  | tuple es =>
    cases h2
    cases r1 with
    | tup hs hr => exact .inr (.inl ⟨_, rfl, ⟨_, (hs.mono x1.s).sq⟩, q _ F1 H1 x1 (itt_ok (fun H s _ => (hs.mono s).sq) hr)⟩)
  | str z =>
    cases h2
    cases r1 with
    | str => exact .inr (.inr ⟨z, rfl, q _ F1 H1 x1 its_ok⟩)
  | _ => cases h2
theorem sem_anyP {K : PySem.W.Frag} {te : TE} {f : Rho → Option D} {m : Md} (h : SemE K m te f) : SemI false K .pk (iAny K te) (fI f) := by
  intro B F H σ ρ ds R rel hf q
  obtain ⟨d, h1, h2⟩ := bind_some hf
  refine h B F H σ ρ d _ rel h1 fun v F1 H1 x1 r1 => ?_
  cases d with
  | list es =>
    cases h2
    obtain ⟨a, xs, rfl, hs, hr⟩ := r1.list x1.s
    exact .inl ⟨a, rfl, ⟨xs, hs⟩, q _ F1 H1 x1 (itl_ok (fun H _ s => s.seq hs) hr)⟩
  | tuple es =>
    cases h2
    obtain ⟨a, xs, rfl, hs, hr⟩ := r1.tup x1.s
    exact .inr (.inl ⟨a, rfl, ⟨xs, hs.sq⟩, q _ F1 H1 x1 (itt_ok (fun H _ s => (hs.mono s).sq) hr)⟩)
  | str z =>
    cases h2
    rw [r1.str]
    exact .inr (.inr ⟨z, rfl, q _ F1 H1 x1 its_ok⟩)
  | _ => cases h2
section
variable {X : Cx} {tg e : Expr} {te : TE} {f : Rho → Option D} {m : Md} {es : List Expr} {ta : TA} {fs : Rho → Option (List D)} {p pos : Pos}
theorem di_any (h : DE X .fz e te f) : DI false X .fz tg e (iAny X.K te) (fI f) := ⟨pi_any h.p, sem_any h.s⟩
theorem di_anyK (K' : PySem.W.Frag) (h : DE X .fz e te f) (hK : X.K = K' := by rfl) : DI false X .fz tg e (iAny K' te) (fI f) := by
  subst hK
  exact di_any (h := h)
theorem di_anyP (h : DE X m e te f) : DI false X .pk tg e (iAny X.K te) (fI f) := ⟨pi_any h.p, sem_anyP h.s⟩
theorem di_anyPK (K' : PySem.W.Frag) (h : DE X m e te f) (hK : X.K = K' := by rfl) : DI false X .pk tg e (iAny K' te) (fI f) := by
  subst hK
  exact di_anyP (h := h)
/-! ranges -/
def rgD (lo : Int) (n : Nat) : List D := (List.range n).map fun i => .int (lo + (i : Nat))
theorem rgD_at {lo : Int} {n i : Nat} {d : D} (h : (rgD lo n)[i]? = some d) : d = .int (lo + (i : Nat)) := by
  unfold rgD at h
  rw [List.getElem?_map] at h
  obtain ⟨j, h1, rfl⟩ := Option.map_eq_some_iff.mp h
  obtain ⟨h2, h3⟩ := List.getElem?_eq_some_iff.mp h1
  rw [List.getElem_range] at h3
  rw [h3]
theorem rgD_length (lo : Int) (n : Nat) : (rgD lo n).length = n := by unfold rgD; rw [List.length_map, List.length_range]
theorem itr_ok {K : PySem.W.Frag} {F : Hp} {lo : Int} {n : Nat} {st : Hp → Prop} : ItO false K (Itr lo n) F st (rgD lo n) :=
  ⟨fun i F' H' hi s1 s2 s3 => by rw [rgD_length] at hi; exact hi, fun i d F' H' x H3 hd s1 s2 s3 y => by
    obtain ⟨rfl, rfl⟩ := y
    rw [rgD_at hd]
    exact ⟨F', .refl s2, .inl (Rep.int _)⟩, fun i F' H' hi s1 s2 s3 => by rw [rgD_length] at hi; exact hi⟩
def rg1D : List D → Option (List D)
  | [.int j] => if -(2 ^ 62) ≤ j ∧ j < 2 ^ 62 then some (rgD 0 j.toNat) else none
  | _ => none
def rg2D : List D → Option (List D)
  | [.int i, .int j] => if -(2 ^ 62) ≤ i ∧ i < 2 ^ 62 ∧ -(2 ^ 62) ≤ j ∧ j < 2 ^ 62 then some (rgD i (j - i).toNat) else none
  | _ => none
def fIs (g : List D → Option (List D)) (fs : Rho → Option (List D)) : Rho → Option (List D) := fun ρ => (fs ρ).bind g
theorem sem_rg1 {K : PySem.W.Frag} (h : SemA K m ta fs) : SemI false K .fz (iRng1 ta) (fIs rg1D fs) := by
  intro B F H σ ρ ds R rel hf q
  obtain ⟨as, h1, h2⟩ := bind_some hf
  refine h B F H σ ρ as _ rel h1 fun vs F1 H1 x1 r1 => ?_
  match as, h2, r1 with
  | [.int j], h2, r1 =>
    obtain ⟨h3, rfl⟩ := if_some h2
    obtain ⟨v, rfl, rv⟩ := resA1 r1
    rw [rv.int]
    exact ⟨j, rfl, h3.1, h3.2, q _ F1 H1 x1 itr_ok⟩
theorem sem_rg2 {K : PySem.W.Frag} (h : SemA K m ta fs) : SemI false K .fz (iRng2 ta) (fIs rg2D fs) := by
  intro B F H σ ρ ds R rel hf q
  obtain ⟨as, h1, h2⟩ := bind_some hf
  refine h B F H σ ρ as _ rel h1 fun vs F1 H1 x1 r1 => ?_
  match as, h2, r1 with
  | [.int i, .int j], h2, r1 =>
    obtain ⟨h3, rfl⟩ := if_some h2
    obtain ⟨v, w, rfl, rv, rw'⟩ := resA2 r1
    rw [rv.int, rw'.int]
    exact ⟨i, j, rfl, h3, q _ F1 H1 x1 itr_ok⟩
theorem di_rg1 {a : Expr} (hg : Gl X "range") (hm : X.mg "range" = none) (ha : DA X m [a] ta fs) (hs : starEach [a] X.env = [(false, eval a X.env)] := by rfl) : DI false X .fz tg (.Call (.Name "range" p) [a] [] pos) (iRng1 ta) (fIs rg1D fs) := ⟨pi_range1 hg hm ha.p hs, sem_rg1 ha.s⟩
theorem di_rg2 {a b : Expr} (hg : Gl X "range") (hm : X.mg "range" = none) (ha : DA X m [a, b] ta fs) (hs : starEach [a, b] X.env = [(false, eval a X.env), (false, eval b X.env)] := by rfl) (hs2 : starEach [b] X.env = [(false, eval b X.env)] := by rfl) :
    DI false X .fz tg (.Call (.Name "range" p) [a, b] [] pos) (iRng2 ta) (fIs rg2D fs) := ⟨pi_range2 hg hm ha.p hs hs2, sem_rg2 ha.s⟩
/-! reversed -/
theorem rev_at {α : Type} {l : List α} {i : Nat} (h : i < l.length) : l.reverse[i]? = l[l.length - 1 - i]? := by
  rw [List.getElem?_reverse h]
theorem itv_ok {K : PySem.W.Frag} {F : Hp} {a : Addr} {xs : List V} {ds : List D} {st : Hp → Prop} (hs : ∀ H, Same F H → st H → SqL K H a xs) (r : RepA K F xs ds) : ItO false K (Itv K a xs.length) F st ds.reverse :=
  ⟨fun i F' H' hi s1 s2 s3 => by
    rw [List.length_reverse] at hi
    have hi' : i < xs.length := by rw [r.length]; exact hi
    exact ⟨hi', xs, xs[xs.length - 1 - i]'(by omega), hs H' (s1.trans s2) s3, List.getElem?_eq_getElem _⟩, fun i d F' H' x H3 hd s1 s2 s3 y => by
    obtain ⟨rfl, y⟩ := y
    have hi : i < ds.length := by have := (List.getElem?_eq_some_iff.mp hd).1; rwa [List.length_reverse] at this
    rw [rev_at hi, ← r.length] at hd
    obtain ⟨x', h1, h2⟩ := r.get hd
    have e := y xs (hs _ (s1.trans s2) s3)
    rw [h1] at e
    cases e
    exact ⟨F', .refl s2, .inl (h2.mono s1)⟩, fun i F' H' hi s1 s2 s3 => by rw [List.length_reverse, ← r.length] at hi; exact hi⟩
theorem itvT_ok {K : PySem.W.Frag} {F : Hp} {a : Addr} {xs : List V} {ds : List D} {st : Hp → Prop} (hs : ∀ H, Same F H → st H → SqT K H a xs) (r : RepA K F xs ds) : ItO false K (RT.ItvT K a xs.length) F st ds.reverse :=
  ⟨fun i F' H' hi s1 s2 s3 => by
    rw [List.length_reverse] at hi
    have hi' : i < xs.length := by rw [r.length]; exact hi
    exact ⟨hi', xs, xs[xs.length - 1 - i]'(by omega), hs H' (s1.trans s2) s3, List.getElem?_eq_getElem _⟩, fun i d F' H' x H3 hd s1 s2 s3 y => by
    obtain ⟨rfl, y⟩ := y
    have hi : i < ds.length := by have := (List.getElem?_eq_some_iff.mp hd).1; rwa [List.length_reverse] at this
    rw [rev_at hi, ← r.length] at hd
    obtain ⟨x', h1, h2⟩ := r.get hd
    have e := y xs (hs _ (s1.trans s2) s3)
    rw [h1] at e
    cases e
    exact ⟨F', .refl s2, .inl (h2.mono s1)⟩, fun i F' H' hi s1 s2 s3 => by rw [List.length_reverse, ← r.length] at hi; exact hi⟩
def revD (d : D) : Option (List D) := (itemsD d).map List.reverse
def fRev (f : Rho → Option D) : Rho → Option (List D) := fun ρ => (f ρ).bind revD
theorem sem_rev {K : PySem.W.Frag} (h : SemE K .fz te f) : SemI false K .fz (RT.iRevA K te) (fRev f) := by
  intro B F H σ ρ ds R rel hf q
  obtain ⟨d, h1, h2⟩ := bind_some hf
  obtain ⟨es, h3, rfl⟩ := Option.map_eq_some_iff.mp h2
  refine h B F H σ ρ d _ rel h1 fun v F1 H1 x1 r1 => ?_
  cases d with
  | list es =>
    cases h3
    cases r1 with
    | lst hs hr => exact ⟨_, _, rfl, .inl ⟨x1.s.seq hs, q _ F1 H1 x1 (itv_ok (fun H s _ => s.seq hs) hr)⟩⟩
  | tuple es =>
    cases h3
    cases r1 with
    | tup hs hr => exact ⟨_, _, rfl, .inr ⟨(hs.mono x1.s).sq, q _ F1 H1 x1 (itvT_ok (fun H s _ => (hs.mono s).sq) hr)⟩⟩
  | _ => cases h3
theorem di_rev (hg : Gl X "reversed") (hm : X.mg "reversed" = none) (he : DE X .fz e te f) (hs : starEach [e] X.env = (false, eval e X.env) :: starEach [] X.env := by rfl) : DI false X .fz tg (.Call (.Name "reversed" p) [e] [] pos) (RT.iRevA X.K te) (fRev f) := ⟨RT.pi_revA hg hm he.p hs, sem_rev he.s⟩
theorem di_revK (K' : PySem.W.Frag) (hg : Gl X "reversed") (hm : X.mg "reversed" = none) (he : DE X .fz e te f) (hs : starEach [e] X.env = (false, eval e X.env) :: starEach [] X.env := by rfl) (hK : X.K = K' := by rfl) : DI false X .fz tg (.Call (.Name "reversed" p) [e] [] pos) (RT.iRevA K' te) (fRev f) := by
  subst hK
  exact di_rev (hg := hg) (hm := hm) (he := he) (hs := hs)
/-! zip -/
theorem pair_ok {K : PySem.W.Frag} {F' H' : Hp} {T : Addr} {x y : V} {dx dy : D} (s2 : Same F' H') (hT : H' T = none) (hx : Rep K F' x dx) (hy : Rep K F' y dy) : ∃ F3, Ext F' H' F3 (upd H' T (.tup [x, y])) ∧ RepB true K F3 (.ref T) (.tuple [dx, dy]) := by
  have e := ext_new (o := .tup [x, y]) (Ext.refl s2) hT
  exact ⟨_, e, .inr ⟨rfl, T, [x, y], _, rfl, rfl, .of upd_same, .cons (hx.mono e.f) (.cons (hy.mono e.f) .nil)⟩⟩
def zipL : List D → List D → List D
  | d :: ds, e :: es => .tuple [d, e] :: zipL ds es
  | _, _ => []
theorem zipL_at : ∀ {ds es : List D} {i : Nat} {d : D}, (zipL ds es)[i]? = some d → ∃ x y, ds[i]? = some x ∧ es[i]? = some y ∧ d = .tuple [x, y]
  | [], _, _, _, h => by simp [zipL] at h
  | _ :: _, [], _, _, h => by simp [zipL] at h
  | x :: ds, y :: es, 0, d, h => by simp [zipL] at h; subst h; exact ⟨x, y, rfl, rfl, rfl⟩
  | x :: ds, y :: es, i + 1, d, h => by
    have h' : (zipL ds es)[i]? = some d := by simpa [zipL] using h
    obtain ⟨a, b, h1, h2, h3⟩ := zipL_at h'
    exact ⟨a, b, by simpa using h1, by simpa using h2, h3⟩
theorem zipL_length : ∀ (ds es : List D), (zipL ds es).length = min ds.length es.length
  | [], _ => by simp [zipL]
  | _ :: _, [] => by simp [zipL]
  | x :: ds, y :: es => by simp only [zipL, List.length_cons, zipL_length ds es]; omega
theorem itz_ok {K : PySem.W.Frag} {F : Hp} {a b : Addr} {xs ys : List V} {ds es : List D} {st : Hp → Prop} (hs : ∀ H, Same F H → st H → SqL K H a xs) (hs2 : ∀ H, Same F H → st H → SqL K H b ys) (r : RepA K F xs ds) (r2 : RepA K F ys es) : ItO true K (Itz K a b) F st (zipL ds es) :=
  ⟨fun i F' H' hi s1 s2 s3 => by
    obtain ⟨d, e, h1, h2, _⟩ := zipL_at (List.getElem?_eq_getElem hi)
    obtain ⟨x, h3, _⟩ := r.get h1
    obtain ⟨y, h4, _⟩ := r2.get h2
    exact ⟨xs, ys, x, y, hs H' (s1.trans s2) s3, hs2 H' (s1.trans s2) s3, h3, h4⟩, fun i d F' H' v H3 hd s1 s2 s3 yy => by
    obtain ⟨T, x, y, rfl, hT, rfl, y1, y2⟩ := yy
    obtain ⟨dx, dy, h1, h2, rfl⟩ := zipL_at hd
    obtain ⟨x', h3, h5⟩ := r.get h1
    obtain ⟨y', h4, h6⟩ := r2.get h2
    have e1 := y1 xs (hs H' (s1.trans s2) s3)
    have e2 := y2 ys (hs2 H' (s1.trans s2) s3)
    rw [h3] at e1
    rw [h4] at e2
    cases e1
    cases e2
    exact pair_ok s2 hT (h5.mono s1) (h6.mono s1), fun i F' H' hi s1 s2 s3 => by
    rw [zipL_length] at hi
    exact ⟨xs, ys, hs H' (s1.trans s2) s3, hs2 H' (s1.trans s2) s3, by rw [r.length, r2.length]; omega⟩⟩
theorem itzT_ok {K : PySem.W.Frag} {F : Hp} {a b : Addr} {xs ys : List V} {ds es : List D} {st : Hp → Prop} (hs : ∀ H, Same F H → st H → SqT K H a xs) (hs2 : ∀ H, Same F H → st H → SqT K H b ys) (r : RepA K F xs ds) (r2 : RepA K F ys es) : ItO true K (RZ.ItzT K a b) F st (zipL ds es) :=
  ⟨fun i F' H' hi s1 s2 s3 => by
    obtain ⟨d, e, h1, h2, _⟩ := zipL_at (List.getElem?_eq_getElem hi)
    obtain ⟨x, h3, _⟩ := r.get h1
    obtain ⟨y, h4, _⟩ := r2.get h2
    exact ⟨xs, ys, x, y, hs H' (s1.trans s2) s3, hs2 H' (s1.trans s2) s3, h3, h4⟩, fun i d F' H' v H3 hd s1 s2 s3 yy => by
    obtain ⟨T, x, y, rfl, hT, rfl, y1, y2⟩ := yy
    obtain ⟨dx, dy, h1, h2, rfl⟩ := zipL_at hd
    obtain ⟨x', h3, h5⟩ := r.get h1
    obtain ⟨y', h4, h6⟩ := r2.get h2
    have e1 := y1 xs (hs H' (s1.trans s2) s3)
    have e2 := y2 ys (hs2 H' (s1.trans s2) s3)
    rw [h3] at e1
    rw [h4] at e2
    cases e1
    cases e2
    exact pair_ok s2 hT (h5.mono s1) (h6.mono s1), fun i F' H' hi s1 s2 s3 => by
    rw [zipL_length] at hi
    exact ⟨xs, ys, hs H' (s1.trans s2) s3, hs2 H' (s1.trans s2) s3, by rw [r.length, r2.length]; omega⟩⟩
def zipD : List D → Option (List D)
  | [.list ds, .list es] => some (zipL ds es)
  | [.tuple ds, .tuple es] => some (zipL ds es)
  | _ => none
theorem sem_zip {K : PySem.W.Frag} (h : SemA K .fz ta fs) : SemI true K .fz (RZ.iZipA K ta) (fIs zipD fs) := by
  intro B F H σ ρ ds R rel hf q
  obtain ⟨as, h1, h2⟩ := bind_some hf
  refine h B F H σ ρ as _ rel h1 fun vs F1 H1 x1 r1 => ?_
  match as, h2, r1 with
  | [.list ds, .list es], h2, r1 =>
    cases h2
    obtain ⟨v, w, rfl, rv, rw'⟩ := resA2 r1
    cases rv with
    | lst hs hr =>
      cases rw' with
      | lst hs2 hr2 => exact ⟨_, _, _, _, rfl, .inl ⟨x1.s.seq hs, x1.s.seq hs2, q _ F1 H1 x1 (itz_ok (fun H s _ => s.seq hs) (fun H s _ => s.seq hs2) hr hr2)⟩⟩
  | [.tuple ds, .tuple es], h2, r1 =>
    cases h2
    obtain ⟨v, w, rfl, rv, rw'⟩ := resA2 r1
    cases rv with
    | tup hs hr =>
      cases rw' with
      | tup hs2 hr2 => exact ⟨_, _, _, _, rfl, .inr ⟨(hs.mono x1.s).sq, (hs2.mono x1.s).sq, q _ F1 H1 x1 (itzT_ok (fun H s _ => (hs.mono s).sq) (fun H s _ => (hs2.mono s).sq) hr hr2)⟩⟩
theorem di_zip {a b : Expr} {elts : List Expr} {kk : Nat} {tpos : Pos} (hg : Gl X "zip") (hm : X.mg "zip" = none) (ha : DA X .fz [a, b] ta fs) (hs : starEach [a, b] X.env = (false, eval a X.env) :: starEach [b] X.env := by rfl) (hpl : (backTo pos (starEach [b] X.env)).any (·.1) = false := by rfl) :
    DI true X .fz (.Tuple elts kk tpos) (.Call (.Name "zip" p) [a, b] [] pos) (RZ.iZipA X.K ta) (fIs zipD fs) := ⟨RZ.pi_zipA hg hm ha.p hs hpl, sem_zip ha.s⟩
theorem di_zipK (K' : PySem.W.Frag) {a b : Expr} {elts : List Expr} {kk : Nat} {tpos : Pos} (hg : Gl X "zip") (hm : X.mg "zip" = none) (ha : DA X .fz [a, b] ta fs) (hs : starEach [a, b] X.env = (false, eval a X.env) :: starEach [b] X.env := by rfl) (hpl : (backTo pos (starEach [b] X.env)).any (·.1) = false := by rfl) (hK : X.K = K' := by rfl) : DI true X .fz (.Tuple elts kk tpos) (.Call (.Name "zip" p) [a, b] [] pos) (RZ.iZipA K' ta) (fIs zipD fs) := by
  subst hK
  exact di_zip (hg := hg) (hm := hm) (ha := ha) (hs := hs) (hpl := hpl)
end
/-! ### targets -/
def SemG (w : Bool) (K : PySem.W.Frag) (W : List Nat) (g : TG) (s : D → Rho → Option Rho) : Prop :=
  ∀ (B : Bs) (F H : Hp) (σ : L2.St) (ρ ρ' : Rho) (v : V) (d : D) (Q : L2.St → Hp → Prop), Rel K B F H σ ρ → RepB w K F v d → s d ρ = some ρ' → (∀ σ', Rel K B F H σ' ρ' → (∀ j, j ∉ W → σ'[j]? = σ[j]?) → σ'.length = σ.length → Q σ' H) → g v σ H Q
structure DG (w : Bool) (X : Cx) (W : List Nat) (tg : Expr) (g : TG) (s : D → Rho → Option Rho) : Prop where
  p : PG X tg g
  s : SemG w X.K W g s
def SemGs (K : PySem.W.Frag) (W : List Nat) (g : TGs) (s : List D → Rho → Option Rho) : Prop :=
  ∀ (B : Bs) (F H : Hp) (σ : L2.St) (ρ ρ' : Rho) (vs : List V) (ds : List D) (Q : L2.St → Hp → Prop), Rel K B F H σ ρ → RepA K F vs ds → s ds ρ = some ρ' → (∀ σ', Rel K B F H σ' ρ' → (∀ j, j ∉ W → σ'[j]? = σ[j]?) → σ'.length = σ.length → Q σ' H) → g vs σ H Q
structure DGs (X : Cx) (W : List Nat) (tgs : List Expr) (g : TGs) (s : List D → Rho → Option Rho) : Prop where
  p : PGs X tgs g
  s : SemGs X.K W g s
def sN (i : Nat) : D → Rho → Option Rho := fun d ρ => some (ρ.set i (.im d))
def sNil : List D → Rho → Option Rho := fun ds ρ => match ds with
  | [] => some ρ
  | _ => none
def sCons (s : D → Rho → Option Rho) (ss : List D → Rho → Option Rho) : List D → Rho → Option Rho := fun ds ρ => match ds with
  | d :: ds => (s d ρ).bind (ss ds)
  | [] => none
def sT (n : Nat) (ss : List D → Rho → Option Rho) : D → Rho → Option Rho := fun d ρ => match d with
  | .tuple ds => if ds.length = n then ss ds ρ else none
  | _ => none
section
variable {X : Cx} {pos : Pos} {W W1 W2 : List Nat}
theorem dg_n {i : Nat} {x : Str} (hN : X.N.Nodup) (hi : X.N[i]? = some x := by rfl) (hx : Loc X.env.scope x := by first | exact Or.inl rfl | exact Or.inr rfl) (hf : X.fn x = true ∨ X.env.scope.names.lookup x = some .local := by first | exact .inl rfl | exact .inr rfl) : DG false X [i] (.Name x pos) (gName i) (sN i) :=
  ⟨pg_name hN hi hx hf, fun B F H σ ρ ρ' v d Q r hv hs q => by cases hs; exact q _ (r.setIm hv.strong) set_keep (by simp)⟩
theorem dgs_nil : DGs X [] [] gNil sNil := ⟨pgs_nil, fun B F H σ ρ ρ' vs ds Q r hv hs q => by
  cases hv with
  | nil => cases hs; exact ⟨rfl, q σ r (fun _ _ => rfl) rfl⟩
  | cons h t => cases hs⟩
theorem dgs_cons {e : Expr} {es : List Expr} {t : TG} {u : TGs} {s : D → Rho → Option Rho} {ss : List D → Rho → Option Rho} (h1 : DG false X W1 e t s) (h2 : DGs X W2 es u ss)
    (hs : (assignEach (e :: es) X.env).map (·.2) = assign e X.env :: (assignEach es X.env).map (·.2) := by rfl) : DGs X (W1 ++ W2) (e :: es) (gCons t u) (sCons s ss) := ⟨pgs_cons h1.p h2.p hs, fun B F H σ ρ ρ' vs ds Q r hv hs q => by
  cases hv with
  | nil => cases hs
  | @cons v vs d ds h t' =>
    obtain ⟨ρ1, e1, e2⟩ := bind_some (show (s d ρ).bind (ss ds) = some ρ' from hs)
    refine ⟨v, vs, rfl, h1.s B F H σ ρ ρ1 v d _ r (.inl h) e1 fun σ1 r1 k1 l1 => ?_⟩
    exact h2.s B F H σ1 ρ1 ρ' vs ds Q r1 t' e2 fun σ2 r2 k2 l2 => q σ2 r2 (fun j hj => (k2 j fun z => hj (List.mem_append_right _ z)).trans (k1 j fun z => hj (List.mem_append_left _ z))) (l2.trans l1)⟩
theorem dg_t {w : Bool} {es : List Expr} {k : Nat} {t : TGs} {n : Nat} {ss : List D → Rho → Option Rho} (h : DGs X W es t ss) (hc : X.calm = true := by rfl) (hn : (assignEach es X.env).length = n := by rfl) (hst : (assignEach es X.env).findIdx? (·.1) = none := by rfl) : DG w X W (.Tuple es k pos) (gTup X.K n t) (sT n ss) :=
  ⟨pg_tup hc h.p hn hst, fun B F H σ ρ ρ' v d Q r hv hs q => by
    have key : ∀ (a : Addr) (xs : List V) (ds : List D), SqT X.K H a xs → RepA X.K F xs ds → sT n ss (.tuple ds) ρ = some ρ' → gTup X.K n t (.ref a) σ H Q := fun a xs ds sq ra hs => by
      have hs' : (if ds.length = n then ss ds ρ else none) = some ρ' := hs
      by_cases hl : ds.length = n
      · rw [if_pos hl] at hs'
        exact ⟨a, xs, rfl, sq, by rw [ra.length]; exact hl, h.s B F H σ ρ ρ' xs ds Q r ra hs' q⟩
      · rw [if_neg hl] at hs'; cases hs'
    rcases hv with hv | ⟨_, a, xs, ds, rfl, rfl, sq, ra⟩
    · cases d with
      | tuple ds =>
        cases hv with
        | tup h1 h2 => exact key _ _ _ (h1.mono r.fh).sq h2 hs
      | _ => cases hs
    · exact key a xs ds (r.fh.sqT sq) ra hs⟩
theorem dg_tK (K' : PySem.W.Frag) {w : Bool} {es : List Expr} {k : Nat} {t : TGs} {n : Nat} {ss : List D → Rho → Option Rho} (h : DGs X W es t ss) (hc : X.calm = true := by rfl) (hn : (assignEach es X.env).length = n := by rfl) (hst : (assignEach es X.env).findIdx? (·.1) = none := by rfl) (hK : X.K = K' := by rfl) : DG w X W (.Tuple es k pos) (gTup K' n t) (sT n ss) := by
  subst hK
  exact dg_t (h := h) (hc := hc) (hn := hn) (hst := hst)
end
theorem Rel.rebase {K : PySem.W.Frag} {B : Bs} {F H : Hp} {σ : L2.St} {ρ : Rho} (r : Rel K B F H σ ρ) : Rel K { F0 := F, G := B.G } F H σ ρ := ⟨r.len, .refl _, r.g, r.fh, .refl, r.sl, r.sep, r.sepD, r.one⟩
theorem Rel.unbase {K : PySem.W.Frag} {B : Bs} {F H F' H' : Hp} {σ σ' : L2.St} {ρ ρ' : Rho} (r : Rel K B F H σ ρ) (r' : Rel K { F0 := F, G := B.G } F' H' σ' ρ') : Rel K B F' H' σ' ρ' :=
  ⟨r'.len, r.f0.trans r'.f0, r'.g, r'.fh, fun a q => (r'.nw a q).elim (r.nw a) .inr, r'.sl, r'.sep, r'.sepD, r'.one⟩
theorem Rel.unrt {K : PySem.W.Frag} {m : Md} {B : Bs} {F H F' H' : Hp} {σ : L2.St} {ρ : Rho} {v : V} {d : D} (r : Rel K B F H σ ρ) (r' : RtOk K m { F0 := F, G := B.G } F' H' v d) : RtOk K m B F' H' v d :=
  ⟨r.f0.trans r'.1, r'.2.1, r'.2.2.1, fun a q => (r'.2.2.2.1 a q).elim (r.nw a) .inr, r'.2.2.2.2⟩
/-! ### for -/
/-- the loop over data -/
def forL (step : D → Bd) : List D → Bd
  | [], ρ => some (.nx ρ)
  | d :: ds, ρ => (step d ρ).bind fun o => match o with
    | .nx ρ' => forL step ds ρ'
    | .ct ρ' => forL step ds ρ'
    | .bk ρ' => some (.nx ρ')
    | .rt d => some (.rt d)
def turnD (s : D → Rho → Option Rho) (b : Bd) : D → Bd := fun d ρ => (s d ρ).bind b
def bFor (f : Rho → Option (List D)) (s : D → Rho → Option Rho) (b : Bd) : Bd := fun ρ => (f ρ).bind fun ds => forL (turnD s b) ds ρ
theorem sem_for {w : Bool} {K : PySem.W.Frag} {m : Md} {W1 W2 : List Nat} {wi : TI} {g : TG} {tb : TS} {f : Rho → Option (List D)} {s : D → Rho → Option Rho} {b : Bd} (hi : SemI w K .fz wi f) (hg : SemG w K W1 g s) (hb : SemS K m W2 tb b) : SemS K m (W1 ++ W2) (tFor wi g tb) (bFor f s b) := by
  intro B F H σ ρ o D r hf e
  obtain ⟨ds, h1, h2⟩ := bind_some hf
  refine hi B F H σ ρ ds _ r h1 fun J F1 H1 x1 it => ?_
  refine ⟨fun i m σ' H' => m = ds.length - i ∧ i ≤ ds.length ∧ ∃ F' ρ', Rel K B F' H' σ' ρ' ∧ Same F1 F' ∧ (∀ j, j ∉ W1 ++ W2 → σ'[j]? = σ[j]?) ∧ forL (turnD s b) (ds.drop i) ρ' = some o, ⟨ds.length, by simp, Nat.zero_le _, F1, ρ, r.ext x1, .refl _, fun _ _ => rfl, by simpa using h2⟩, ?_⟩
  rintro i mm σ1 H2 ⟨rfl, hil, F2, ρ2, r2, s2, k2, hf2⟩
  by_cases hlt : i < ds.length
  · rw [List.drop_eq_getElem_cons hlt] at hf2
    obtain ⟨o1, e1, e2⟩ := bind_some (show (turnD s b ds[i] ρ2).bind _ = some o from hf2)
    obtain ⟨ρ3, e3, e4⟩ := bind_some (show (s ds[i] ρ2).bind b = some o1 from e1)
    refine .inr ⟨it.go i F2 H2 hlt s2 r2.fh trivial, fun σ' H' => i + 1 ≤ ds.length ∧ ∃ F' ρ', Rel K B F' H' σ' ρ' ∧ Same F1 F' ∧ (∀ j, j ∉ W1 ++ W2 → σ'[j]? = σ[j]?) ∧ forL (turnD s b) (ds.drop (i + 1)) ρ' = some o, fun σ' H' hn => ⟨ds.length - (i + 1), by omega, rfl, hn⟩, fun x H3 y => ?_⟩
    obtain ⟨F3, x3, rb⟩ := it.yld i ds[i] F2 H2 x H3 (List.getElem?_eq_getElem hlt) s2 r2.fh trivial y
    refine hg B F3 H3 σ1 ρ2 ρ3 x ds[i] _ (r2.ext x3) rb e3 fun σ3 r3 k3 _ => ?_
    have k13 : ∀ j, j ∉ W1 ++ W2 → σ3[j]? = σ[j]? := fun j hj => (k3 j fun z => hj (List.mem_append_left _ z)).trans (k2 j hj)
    have s3 : Same F1 F3 := s2.trans x3.f
    have key : ∀ {σ4 : L2.St}, (∀ j, j ∉ W2 → σ4[j]? = σ3[j]?) → ∀ j, j ∉ W1 ++ W2 → σ4[j]? = σ[j]? := fun k4 j hj => (k4 j fun z => hj (List.mem_append_right _ z)).trans (k13 j hj)
    -- the body, with the frozen part remembered
    refine hb { F0 := F3, G := B.G } F3 H3 σ3 ρ3 o1 _ r3.rebase e4 ?_
    cases o1 with
    | nx ρ4 => exact fun σ4 F4 H4 r4 k4 => ⟨hlt, F4, ρ4, r3.unbase r4, s3.trans r4.f0, key k4, e2⟩
    | ct ρ4 => exact fun σ4 F4 H4 r4 k4 => ⟨hlt, F4, ρ4, r3.unbase r4, s3.trans r4.f0, key k4, e2⟩
    | bk ρ4 => cases e2; exact fun σ4 F4 H4 r4 k4 => e σ4 F4 H4 (r3.unbase r4) (key k4)
    | rt d => cases e2; exact fun v F4 H4 r4 => e v F4 H4 (r3.unrt r4)
  · have ei : i = ds.length := by omega
    subst ei
    rw [List.drop_length] at hf2
    cases hf2
    exact .inl ⟨it.stop _ F2 H2 (Nat.le_refl _) s2 r2.fh trivial, e σ1 F2 H2 r2 k2⟩
section
variable {X : Cx} {m : Md} {W W1 W2 : List Nat} {pos : Pos} {w : Bool}
theorem ds_for {tg iter : Expr} {body : List Stmt} {wi : TI} {g : TG} {tb : TS} {f : Rho → Option (List D)} {s : D → Rho → Option Rho} {b : Bd} (hi : DI w X .fz tg iter wi f) (hg : DG w X W1 tg g s) (hb : DSs X m W2 body tb b)
    (hp : PassesOwn (model X.prog X.w) X.A X.env X.xe := by exact PassesOwn.never) (hc : X.calm = true := by rfl) (hs : ∀ x, foldedSetIterable iter X.env x = pure x := by intro _; rfl) : DS X m (W1 ++ W2) (.For tg iter body [] pos) (tFor wi g tb) (bFor f s b) :=
  ⟨ps_for hp hc hi.p hg.p hb.p hs, sem_for hi.s hg.s hb.s⟩
/-! over an owned list that the body may lengthen but not rebind -/
def forG (j : Nat) (step : D → Bd) : Nat → Nat → Bd
  | 0, _, _ => none
  | n + 1, i, ρ => match ρ[j]? with
    | some (.ow (.list ds)) => match ds[i]? with
      | none => some (.nx ρ)
      | some d => (step d ρ).bind fun o => match o with
        | .nx ρ' => forG j step n (i + 1) ρ'
        | .ct ρ' => forG j step n (i + 1) ρ'
        | .bk ρ' => some (.nx ρ')
        | .rt d => some (.rt d)
    | _ => none
def bForG (N j : Nat) (s : D → Rho → Option Rho) (b : Bd) : Bd := fun ρ => forG j (turnD s b) N 0 ρ
theorem sem_forG {K : PySem.W.Frag} {N j : Nat} {g : TG} {tb : TS} {s : D → Rho → Option Rho} {b : Bd} (hg : SemG false K W1 g s) (hb : SemS K m W2 tb b) (h1 : j ∉ W1) (h2 : j ∉ W2) : SemS K m (W1 ++ W2) (tFor (iList K (tVar j)) g tb) (bForG N j s b) := by
  intro B F H σ ρ o D r hf e
  obtain ⟨a, ha⟩ : ∃ a, ∃ ds, ρ[j]? = some (.ow (.list ds)) ∧ σ[j]? = some (some (.ref a)) := by
    cases N with
    | zero => cases hf
    | succ N =>
      have hf' : (match ρ[j]? with
        | some (.ow (.list ds)) => match ds[0]? with
          | none => some (.nx ρ)
          | some d => (turnD s b d ρ).bind fun o => match o with
            | .nx ρ' => forG j (turnD s b) N (0 + 1) ρ'
            | .ct ρ' => forG j (turnD s b) N (0 + 1) ρ'
            | .bk ρ' => some (.nx ρ')
            | .rt d => some (.rt d)
        | _ => none) = some o := hf
      split at hf'
      · rename_i ds e1
        obtain ⟨oo, e2, c, rfl, _⟩ := r.at e1
        exact ⟨c, ds, e1, e2⟩
      · cases hf'
  obtain ⟨ds0, e0, eσ⟩ := ha
  have lst : ∀ {B' : Bs} {F' H' : Hp} {σ' : L2.St} {ρ' : Rho} {ds : List PyData}, Rel K B' F' H' σ' ρ' → σ'[j]? = some (some (.ref a)) → ρ'[j]? = some (.ow (.list ds)) → ∃ vs, H' a = some (.lst vs) ∧ RepA K F' vs ds := fun r' eσ' e' => by
    obtain ⟨oo, e2, c, rfl, _, _, w⟩ := r'.at e'
    rw [eσ'] at e2
    cases e2
    exact w
  refine ⟨_, eσ, a, rfl, ?_, ?_⟩
  · obtain ⟨vs, h, _⟩ := lst r eσ e0
    exact ⟨vs, .of h⟩
  refine ⟨fun i mm σ' H' => ∃ F' ρ', Rel K B F' H' σ' ρ' ∧ (∀ l, l ∉ W1 ++ W2 → σ'[l]? = σ[l]?) ∧ forG j (turnD s b) mm i ρ' = some o, ⟨N, F, ρ, r, fun _ _ => rfl, hf⟩, ?_⟩
  rintro i mm σ1 H2 ⟨F2, ρ2, r2, k2, hf2⟩
  have jW : j ∉ W1 ++ W2 := fun z => (List.mem_append.mp z).elim h1 h2
  have eσ1 : σ1[j]? = some (some (.ref a)) := (k2 j jW).trans eσ
  cases mm with
  | zero => cases hf2
  | succ mm =>
    have hf' : (match ρ2[j]? with
      | some (.ow (.list ds)) => match ds[i]? with
        | none => some (.nx ρ2)
        | some d => (turnD s b d ρ2).bind fun o => match o with
          | .nx ρ' => forG j (turnD s b) mm (i + 1) ρ'
          | .ct ρ' => forG j (turnD s b) mm (i + 1) ρ'
          | .bk ρ' => some (.nx ρ')
          | .rt d => some (.rt d)
      | _ => none) = some o := hf2
    split at hf'
    · rename_i ds e1
      obtain ⟨vs, hv, rv⟩ := lst r2 eσ1 e1
      cases e3 : ds[i]? with
      | none =>
        rw [e3] at hf'
        cases hf'
        refine .inl ⟨⟨vs, .of hv, ?_⟩, e σ1 F2 H2 r2 k2⟩
        rw [rv.length]
        exact List.getElem?_eq_none_iff.mp e3
      | some d =>
        rw [e3] at hf'
        obtain ⟨o1, e4, e5⟩ := bind_some hf'
        obtain ⟨ρ3, e6, e7⟩ := bind_some (show (s d ρ2).bind b = some o1 from e4)
        obtain ⟨x, hx, rx⟩ := rv.get e3
        refine .inr ⟨⟨vs, x, .of hv, hx⟩, fun σ' H' => ∃ F' ρ', Rel K B F' H' σ' ρ' ∧ (∀ l, l ∉ W1 ++ W2 → σ'[l]? = σ[l]?) ∧ forG j (turnD s b) mm (i + 1) ρ' = some o, fun σ' H' hn => ⟨mm, Nat.lt_succ_self mm, hn⟩, fun y H3 yy => ?_⟩
        obtain ⟨rfl, yy⟩ := yy
        have ey := yy vs (.of hv)
        rw [hx] at ey
        cases ey
        refine hg B F2 _ σ1 ρ2 ρ3 x d _ r2 (.inl rx) e6 fun σ3 r3 k3 _ => ?_
        have k13 : ∀ l, l ∉ W1 ++ W2 → σ3[l]? = σ[l]? := fun l hl => (k3 l fun z => hl (List.mem_append_left _ z)).trans (k2 l hl)
        have key : ∀ {σ4 : L2.St}, (∀ l, l ∉ W2 → σ4[l]? = σ3[l]?) → ∀ l, l ∉ W1 ++ W2 → σ4[l]? = σ[l]? := fun k4 l hl => (k4 l fun z => hl (List.mem_append_right _ z)).trans (k13 l hl)
        refine hb B F2 _ σ3 ρ3 o1 _ r3 e7 ?_
        cases o1 with
        | nx ρ4 => exact fun σ4 F4 H4 r4 k4 => ⟨F4, ρ4, r4, key k4, e5⟩
        | ct ρ4 => exact fun σ4 F4 H4 r4 k4 => ⟨F4, ρ4, r4, key k4, e5⟩
        | bk ρ4 => cases e5; exact fun σ4 F4 H4 r4 k4 => e σ4 F4 H4 r4 (key k4)
        | rt d => cases e5; exact fun v F4 H4 r4 => e v F4 H4 r4
    · cases hf'
theorem ds_forG {N j : Nat} {x : Str} {tg : Expr} {p : Pos} {body : List Stmt} {g : TG} {tb : TS} {s : D → Rho → Option Rho} {b : Bd} (hg : DG false X W1 tg g s) (hb : DSs X m W2 body tb b) (h1 : j ∉ W1) (h2 : j ∉ W2)
    (hj : X.N[j]? = some x := by rfl) (hv : Vis X.env.scope x := by first | exact Or.inl rfl | exact Or.inr (Or.inl rfl) | exact Or.inr (Or.inr rfl)) (hd : (x == ("__debug__" : Str)) = false := by decide) (hcd : (x == ("__classdict__" : Str)) = false := by decide)
    (hp : PassesOwn (model X.prog X.w) X.A X.env X.xe := by exact PassesOwn.never) (hc : X.calm = true := by rfl) (hs : ∀ x', foldedSetIterable (.Name x p) X.env x' = pure x' := by intro _; rfl) : DS X m (W1 ++ W2) (.For tg (.Name x p) body [] pos) (tFor (iList X.K (tVar j)) g tb) (bForG N j s b) :=
  ⟨ps_for hp hc (pi_list (pe_var hj hv hd hcd)) hg.p hb.p hs, sem_forG hg.s hb.s h1 h2⟩
/-! ### while -/
def whileL (c : Rho → Option Bool) (b : Bd) : Nat → Bd
  | 0, _ => none
  | n + 1, ρ => (c ρ).bind fun k => if k = true then (b ρ).bind fun o => match o with
      | .nx ρ' => whileL c b n ρ'
      | .ct ρ' => whileL c b n ρ'
      | .bk ρ' => some (.nx ρ')
      | .rt d => some (.rt d)
    else some (.nx ρ)
theorem sem_while {K : PySem.W.Frag} {N : Nat} {c : TT} {tb : TS} {fc : Rho → Option Bool} {b : Bd} (hc : SemT K c fc) (hb : SemS K m W tb b) : SemS K m W (tWhile c tb) (whileL fc b N) := by
  intro B F H σ ρ o D r hf e
  refine ⟨fun mm σ' H' => ∃ F' ρ', Rel K B F' H' σ' ρ' ∧ (∀ l, l ∉ W → σ'[l]? = σ[l]?) ∧ whileL fc b mm ρ' = some o, ⟨N, F, ρ, r, fun _ _ => rfl, hf⟩, ?_⟩
  rintro mm σ1 H2 ⟨F2, ρ2, r2, k2, hf2⟩
  cases mm with
  | zero => cases hf2
  | succ mm =>
    obtain ⟨k, e1, e2⟩ := bind_some hf2
    refine hc B F2 H2 σ1 ρ2 k _ r2 e1 fun F3 H3 x3 => ?_
    cases k with
    | false =>
      cases e2
      exact e σ1 F3 H3 (r2.ext x3) k2
    | true =>
      obtain ⟨o1, e3, e4⟩ := bind_some e2
      refine ⟨fun σ' H' => ∃ F' ρ', Rel K B F' H' σ' ρ' ∧ (∀ l, l ∉ W → σ'[l]? = σ[l]?) ∧ whileL fc b mm ρ' = some o, fun σ' H' hn => ⟨mm, Nat.lt_succ_self mm, hn⟩, ?_⟩
      have key : ∀ {σ4 : L2.St}, (∀ l, l ∉ W → σ4[l]? = σ1[l]?) → ∀ l, l ∉ W → σ4[l]? = σ[l]? := fun k4 l hl => (k4 l hl).trans (k2 l hl)
      refine hb B F3 H3 σ1 ρ2 o1 _ (r2.ext x3) e3 ?_
      cases o1 with
      | nx ρ4 => exact fun σ4 F4 H4 r4 k4 => ⟨F4, ρ4, r4, key k4, e4⟩
      | ct ρ4 => exact fun σ4 F4 H4 r4 k4 => ⟨F4, ρ4, r4, key k4, e4⟩
      | bk ρ4 => cases e4; exact fun σ4 F4 H4 r4 k4 => e σ4 F4 H4 r4 (key k4)
      | rt d => cases e4; exact fun v F4 H4 r4 => e v F4 H4 r4
theorem ds_while {N : Nat} {c : Expr} {body : List Stmt} {tc : TT} {tb : TS} {fc : Rho → Option Bool} {b : Bd} (hc : DT X c tc fc) (hb : DSs X m W body tb b) (hp : PassesOwn (model X.prog X.w) X.A X.env X.xe := by exact PassesOwn.never) : DS X m W (.While c body [] pos) (tWhile tc tb) (whileL fc b N) :=
  ⟨ps_while hp hc.p hb.p, sem_while hc.s hb.s⟩
end
end Q
end

/-! part: Q7 -/
section
set_option Elab.async false
set_option linter.all false
set_option maxRecDepth 100000
set_option maxHeartbeats 4000000
set_option autoImplicit false
namespace Q
open PySem PySem.Spec PySem.Calls PyProof.Rows L2
/-! ### comprehensions -/
theorem wipe_at (σ : L2.St) (j : Nat) : ∀ vs : List Nat, (wipe σ vs)[j]? = if j ∈ vs then (if j < σ.length then some none else none) else σ[j]?
  | [] => by simp [wipe]
  | v :: vs => by
    unfold wipe
    by_cases e : j = v
    · subst e
      by_cases hl : j < σ.length
      · rw [List.getElem?_set_self (by rw [wipe_length]; exact hl)]
        simp [hl]
      · rw [List.getElem?_eq_none (by simp only [List.length_set, wipe_length]; omega)]
        simp [hl]
    · rw [List.getElem?_set_ne (Ne.symm e), wipe_at σ j vs]
      simp [e]
theorem wipe_back {σ σ2 : L2.St} {vs : List Nat} (hl : σ2.length = σ.length) (h : ∀ j, j ∉ vs → σ2[j]? = (wipe σ vs)[j]?) : wipe σ2 vs = wipe σ vs := by
  apply List.ext_getElem?
  intro j
  rw [wipe_at σ2, wipe_at σ, hl]
  by_cases hj : j ∈ vs
  · simp [hj]
  · simp only [hj, if_false]
    rw [h j hj, wipe_at σ]
    simp [hj]
def wipeR (ρ : Rho) : List Nat → Rho
  | [] => ρ
  | v :: vs => (wipeR ρ vs).set v .un
theorem Rel.setUn {K : PySem.W.Frag} {B : Bs} {F H : Hp} {σ : L2.St} {ρ : Rho} (r : Rel K B F H σ ρ) {i : Nat} {o : Option V} : Rel K B F H (σ.set i o) (ρ.set i .un) := by
  refine ⟨by simpa using r.len, r.f0, r.g, r.fh, r.nw, fun j o s h1 h2 => ?_, fun j k d1 d2 a hjk h1 h2 h3 h4 => ?_, (r.sepD_set (i := i) (v := o) (s' := .un) (fun _ z => nomatch z) fun _ z => nomatch z).1, (r.sepD_set (i := i) (v := o) (s' := .un) (fun _ z => nomatch z) fun _ z => nomatch z).2⟩
  · rcases set_at h2 with ⟨rfl, _, rfl⟩ | ⟨n2, h2⟩
    · trivial
    · rcases set_at h1 with ⟨e, _, _⟩ | ⟨_, h1⟩
      · exact absurd e n2
      · exact r.sl j o s h1 h2
  · rcases set_at h1 with ⟨_, _, e⟩ | ⟨n1, h1⟩
    · cases e
    rcases set_at h2 with ⟨_, _, e⟩ | ⟨n2, h2⟩
    · cases e
    rw [List.getElem?_set_ne (Ne.symm n1)] at h3
    rw [List.getElem?_set_ne (Ne.symm n2)] at h4
    exact r.sep j k d1 d2 a hjk h1 h2 h3 h4
theorem Rel.wiped {K : PySem.W.Frag} {B : Bs} {F H : Hp} {σ : L2.St} {ρ : Rho} (r : Rel K B F H σ ρ) : ∀ vs : List Nat, Rel K B F H (wipe σ vs) (wipeR ρ vs)
  | [] => r
  | v :: vs => (Rel.wiped r vs).setUn
/-- another object changes -/
theorem Rel.other {K : PySem.W.Frag} {B : Bs} {F H : Hp} {σ : L2.St} {ρ : Rho} (r : Rel K B F H σ ρ) {a : Addr} {o : HO} (hf : F a = none) (hg : B.G a = none) (hn : ∀ (j : Nat) (e : D), ρ[j]? = some (.ow e) → σ[j]? ≠ some (some (.ref a))) (hn2 : ∀ (j : Nat) (dss : Kd × List (List D)) (b : Addr) (bs : List Addr), ρ[j]? = some (.dp dss) → σ[j]? = some (some (.ref b)) → Cont H b bs → a ∉ b :: bs) : Rel K B F (upd H a o) σ ρ := by
  refine ⟨r.len, r.f0, fun b u q => ?_, fun b u q => ?_, r.nw, fun j oo s h1 h2 => ?_, r.sep, fun i1 j dss e b c bs e1 e2 e3 e4 e5 => ?_, r.one⟩
  · rw [upd_ne (ne_of_none q hg)]; exact r.g b u q
  · rw [upd_ne (ne_of_none q hf)]; exact r.fh b u q
  · have q := r.sl j oo s h1 h2
    cases s with
    | un => trivial
    | im d => exact q
    | ow d =>
      obtain ⟨c, rfl, f, g, w⟩ := q
      have hca : c ≠ a := fun z => by subst z; exact hn j d h2 h1
      refine ⟨c, rfl, f, g, ?_⟩
      cases d with
      | list ds =>
        obtain ⟨vs, w1, w2⟩ := w
        exact ⟨vs, by rw [upd_ne hca]; exact w1, w2⟩
      | dict ds =>
        obtain ⟨vs, w1, w2⟩ := w
        exact ⟨vs, by rw [upd_ne hca]; exact w1, w2⟩
      | _ => exact w.elim
    | dp dss =>
      obtain ⟨c, bs, rfl, f, g, w, n2, l⟩ := q
      have hnn := hn2 j dss c bs h2 h1 ⟨_, w⟩
      rw [List.mem_cons, not_or] at hnn
      refine ⟨c, bs, rfl, f, g, ?_, n2, l.away (.refl _) fun b hb => ⟨rfl, upd_ne fun z => hnn.2 (by rw [← z]; exact hb)⟩⟩
      exact w.at (upd_ne (Ne.symm hnn.1))
  · obtain ⟨bs', _, _, w, _, _⟩ := r.lists e1 e3
    have hnn := hn2 i1 dss b bs' e1 e3 w
    rw [List.mem_cons, not_or] at hnn
    have e4' : Cont H b bs := e4.at (upd_ne (Ne.symm hnn.1)).symm
    exact r.sepD i1 j dss e b c bs e1 e2 e3 e4' e5
/-- what is away from the lists stays so -/
theorem dp_far {K : PySem.W.Frag} {B : Bs} {F H F' H' : Hp} {σ : L2.St} {ρ : Rho} (r : Rel K B F H σ ρ) {a : Addr} (h : H a = none) (hs : Same H H') (r' : Rel K B F' H' σ ρ) : ∀ (j : Nat) (dss : Kd × List (List D)) (b : Addr) (bs : List Addr), ρ[j]? = some (.dp dss) → σ[j]? = some (some (.ref b)) → Cont H' b bs → a ∉ b :: bs := fun j dss b bs h1 h2 h3 => by
  obtain ⟨bs', _, _, w, _, _⟩ := r.lists h1 h2
  rw [h3.uniq (w.mono hs)]
  exact dp_ne r h j dss b bs' h1 h2 w
def lcL (tt : D → Option Bool) (te : D → Option D) : List D → Option (List D)
  | [] => some []
  | d :: ds => (tt d).bind fun b => if b = true then (te d).bind fun y => (lcL tt te ds).map (y :: ·) else lcL tt te ds
def fLc (f : Rho → Option (List D)) (s : D → Rho → Option Rho) (ft : Rho → Option Bool) (fe : Rho → Option D) (vs : List Nat) : Rho → Option D := fun ρ => (f ρ).bind fun ds =>
  (lcL (fun d => (s d (wipeR ρ vs)).bind ft) (fun d => (s d (wipeR ρ vs)).bind fe) ds).bind fun rs => if rs.length ≤ sizeLine then some (.list rs) else none
theorem sem_lc {w : Bool} {K : PySem.W.Frag} {W1 vs : List Nat} {wi : TI} {g : TG} {tt : TT} {te : TE} {f : Rho → Option (List D)} {s : D → Rho → Option Rho} {ft : Rho → Option Bool} {fe : Rho → Option D} (hi : SemI w K .pk wi f) (hg : SemG w K W1 g s) (ht : SemT K tt ft) (he : SemE K .fz te fe) (hW : ∀ j ∈ W1, j ∈ vs) :
    SemE K .fr (tLc wi g tt te vs) (fLc f s ft fe vs) := by
  intro B F H σ ρ z Q rel hf q
  obtain ⟨ds, h1, h2⟩ := bind_some hf
  obtain ⟨rs, h3, h4⟩ := bind_some h2
  obtain ⟨h5, rfl⟩ := if_some h4
  refine hi B F H σ ρ ds _ rel h1 fun J F1 H1 x1 it => ?_
  intro L hL
  have r1 := (rel.ext x1).wiped vs
  have gL : B.G L = none := (rel.ext x1).g.free hL
  have nL : ∀ (j : Nat) (e : D), (wipeR ρ vs)[j]? = some (.ow e) → (wipe σ vs)[j]? ≠ some (some (.ref L)) := own_ne r1 hL
  refine ⟨fun i m H' => m = ds.length - i ∧ i ≤ ds.length ∧ ∃ F' acc rr r2, Rel K B F' H' (wipe σ vs) (wipeR ρ vs) ∧ Same F1 F' ∧ Same H1 H' ∧ New F1 F' H1 ∧ F' L = none ∧ H' L = some (.lst acc) ∧ RepA K F' acc rr ∧
    lcL (fun d => (s d (wipeR ρ vs)).bind ft) (fun d => (s d (wipeR ρ vs)).bind fe) (ds.drop i) = some r2 ∧ rs = rr ++ r2,
    ⟨ds.length, by simp, Nat.zero_le _, F1, [], [], rs, r1.other (x1.s.free hL) gL nL (dp_ne r1 hL), .refl _, same_upd hL, .refl, x1.s.free hL, upd_same, .nil, by simpa using h3, rfl⟩, ?_⟩
  rintro i m H2 ⟨rfl, hil, F2, acc, rr, r2, rel2, f2, s2, n2, fL, hH, ra, hl, hrs⟩
  by_cases hlt : i < ds.length
  · rw [List.drop_eq_getElem_cons hlt] at hl
    obtain ⟨b, e1, e2⟩ := bind_some (show ((s ds[i] (wipeR ρ vs)).bind ft).bind _ = some r2 from hl)
    obtain ⟨ρ3, e3, e4⟩ := bind_some e1
    refine .inr ⟨it.go i F2 H2 hlt f2 rel2.fh s2, fun H' => i + 1 ≤ ds.length ∧ ∃ F' acc rr r2, Rel K B F' H' (wipe σ vs) (wipeR ρ vs) ∧ Same F1 F' ∧ Same H1 H' ∧ New F1 F' H1 ∧ F' L = none ∧ H' L = some (.lst acc) ∧ RepA K F' acc rr ∧
      lcL (fun d => (s d (wipeR ρ vs)).bind ft) (fun d => (s d (wipeR ρ vs)).bind fe) (ds.drop (i + 1)) = some r2 ∧ rs = rr ++ r2, fun H' hn => ⟨ds.length - (i + 1), by omega, rfl, hn⟩, fun x H3 y => ?_⟩
    obtain ⟨F3, x3, rb⟩ := it.yld i ds[i] F2 H2 x H3 (List.getElem?_eq_getElem hlt) f2 rel2.fh s2 y
    refine hg B F3 H3 (wipe σ vs) (wipeR ρ vs) ρ3 x ds[i] _ (rel2.ext x3) rb e3 fun σ3 r3 k3 l3 => ?_
    refine ⟨wipe_back (l3.trans (wipe_length σ vs)) fun j hj => k3 j fun z => hj (hW j z), ?_⟩
    refine ht B F3 H3 σ3 ρ3 b _ r3 e4 fun F4 H4 x4 => ?_
    have x34 := x3.trans x4
    -- the state behind the turn
    have back : ∀ {F5 H5 : Hp}, Ext F2 H2 F5 H5 → Rel K B F5 H5 (wipe σ vs) (wipeR ρ vs) ∧ Same F1 F5 ∧ Same H1 H5 ∧ New F1 F5 H1 ∧ F5 L = none ∧ H5 L = some (.lst acc) := fun {F5 H5} x => by
      refine ⟨rel2.ext x, f2.trans x.f, s2.trans x.h, fun a h => ?_, x.keepNone fL (by rw [hH]; exact fun z => nomatch z), x.h _ _ hH⟩
      exact (x.n a h).elim (n2 a) fun z => .inr (s2.free z)
    cases b with
    | false =>
      obtain ⟨a1, a2, a3, a4, a5, a6⟩ := back x34
      exact ⟨hlt, F4, acc, rr, r2, a1, a2, a3, a4, a5, a6, ra.mono x34.f, e2, hrs⟩
    | true =>
      obtain ⟨y0, e5, e6⟩ := bind_some (show ((s ds[i] (wipeR ρ vs)).bind fe).bind _ = some r2 from e2)
      obtain ⟨ρ4, e7, e8⟩ := bind_some e5
      rw [e3] at e7
      cases e7
      obtain ⟨r5, e9, rfl⟩ := Option.map_eq_some_iff.mp e6
      show te σ3 H4 _
      refine he B F4 H4 σ3 ρ3 y0 _ (r3.ext x4) e8 fun v F5 H5 x5 rv => ?_
      have x35 := x34.trans x5
      obtain ⟨a1, a2, a3, a4, a5, a6⟩ := back x35
      have hlen : acc.length < sizeLine := by
        have h6 : rs.length = rr.length + (r5.length + 1) := by rw [hrs]; simp
        have h7 := ra.length
        omega
      refine ⟨acc, a6, hlen, hlt, F5, acc ++ [v], rr ++ [y0], r5, a1.other a5 gL nL (dp_far r1 hL a3 a1), a2, fun c u hc => ?_, a4, a5, upd_same, (ra.mono x35.f).append (.cons rv .nil), e9, by rw [hrs]; simp⟩
      rw [upd_ne (ne_of_none hc hL)]
      exact a3 _ _ hc
  · have ei : i = ds.length := by omega
    subst ei
    rw [List.drop_length] at hl
    cases hl
    rw [List.append_nil] at hrs
    subst hrs
    refine .inl ⟨it.stop _ F2 H2 (Nat.le_refl _) f2 rel2.fh s2, q _ F2 H2 ⟨x1.f.trans f2, x1.h.trans s2, fun a h => ?_, rel2.fh⟩ ⟨L, rfl, x1.h.free hL, fL, acc, hH, ra⟩⟩
    exact (n2 a h).elim (x1.n a) fun z => .inr (x1.h.free z)
section
variable {X : Cx} {m : Md} {W1 : List Nat} {pos : Pos} {w : Bool}
structure DTs (X : Cx) (ifs : List Expr) (t : TT) (f : Rho → Option Bool) : Prop where
  p : PTs X ifs t
  s : SemT X.K t f
def fYes : Rho → Option Bool := fun _ => some true
theorem dts_nil : DTs X [] tYes fYes := ⟨pts_nil, fun B F H σ ρ b Q r hf q => by cases hf; exact q F H (.refl r.fh)⟩
theorem dts_one {c : Expr} {t : TT} {f : Rho → Option Bool} (h : DT X c t f) : DTs X [c] t f := ⟨pts_one h.p, h.s⟩
variable {elt tg iter : Expr} {ifs : List Expr} {scope : Scope} {own : List (Str × Nat)} {wi : TI} {g : TG} {tt : TT} {te : TE} {f : Rho → Option (List D)} {s : D → Rho → Option Rho} {ft : Rho → Option Bool} {fe : Rho → Option D}
theorem de_lc {vs : List Nat} (own : List (Str × Nat)) (hN : X.N.Nodup) (hi : DI w X m tg iter wi f) (ok : blkC X.N X.env.scope scope own = true)
    (hg : ∀ (s' : Shared) (H : Hp) (C : Addr) (cl : List (Str × Addr)) (fp : List Addr), DG w (X.blk s' H scope (compEnvC scope cl C X.env) fp) W1 tg g s) (ht : ∀ (s : Shared) (H : Hp) (C : Addr) (cl : List (Str × Addr)) (fp : List Addr), DTs (X.blk s H scope (compEnvC scope cl C X.env) fp) ifs tt ft)
    (he : ∀ (s : Shared) (H : Hp) (C : Addr) (cl : List (Str × Addr)) (fp : List Addr), DE (X.blk s H scope (compEnvC scope cl C X.env) fp) .fz elt te fe) (hW : ∀ j ∈ W1, j ∈ vs) (hc : X.calm = true := by rfl) (hs : ∀ x, foldedSetIterable iter X.env x = pure x := by intro _; rfl) (hvs : own.map (·.2) = vs := by rfl) :
    DE X .fr (.ListComp elt [⟨tg, iter, ifs, 0⟩] scope pos) (tLc wi g tt te (vs)) (fLc f s ft fe (vs)) := by
  subst hvs
  exact
  ⟨pe_lc hc hN hi.p (blkOk_by ok) (fun s H C cl fp => (hg s H C cl fp).p) (fun s H C cl fp => (ht s H C cl fp).p) (fun s H C cl fp => (he s H C cl fp).p) hs,
    sem_lc hi.pk.s (hg X.s_0 (fun _ => none) 0 [] []).s (ht X.s_0 (fun _ => none) 0 [] []).s (he X.s_0 (fun _ => none) 0 [] []).s hW⟩
/-- name = [..], the name a local on the same line -/
theorem ds_asgLc {m1 : Md} {vs : List Nat} {i : Nat} {y : Str} {py spos : Pos} (own : List (Str × Nat)) (hN : X.N.Nodup) (hi : DI w X m tg iter wi f) (ok : blkC X.N X.env.scope scope own = true)
    (hg : ∀ (s' : Shared) (H : Hp) (C : Addr) (cl : List (Str × Addr)) (fp : List Addr), DG w (X.blk s' H scope (compEnvC scope cl C X.env) fp) W1 tg g s) (ht : ∀ (s : Shared) (H : Hp) (C : Addr) (cl : List (Str × Addr)) (fp : List Addr), DTs (X.blk s H scope (compEnvC scope cl C X.env) fp) ifs tt ft)
    (he : ∀ (s : Shared) (H : Hp) (C : Addr) (cl : List (Str × Addr)) (fp : List Addr), DE (X.blk s H scope (compEnvC scope cl C X.env) fp) .fz elt te fe) (hW : ∀ j ∈ W1, j ∈ vs) (hsw : swapsWith (.ListComp elt [⟨tg, iter, ifs, 0⟩] scope pos) (some (.Name y py)) spos.line X.env = pure true)
    (hy : X.N[i]? = some y := by rfl) (hyl : X.env.scope.names.lookup y = some .local := by rfl) (hc : X.calm = true := by rfl) (hs : ∀ x, foldedSetIterable iter X.env x = pure x := by intro _; rfl) (hvs : own.map (·.2) = vs := by rfl) :
    DS X m1 [i] (.Assign [.Name y py] (.ListComp elt [⟨tg, iter, ifs, 0⟩] scope pos) spos) (tAsg (tLc wi g tt te (vs)) (gName i)) (bAsg i (fLc f s ft fe (vs))) := by
  subst hvs
  have d := de_lc (pos := pos) own hN hi ok hg ht he hW hc hs
  exact ⟨ps_setLc hc hN hy hyl hsw hi.p (blkOk_by ok) (fun s H C cl fp => (hg s H C cl fp).p) (fun s H C cl fp => (ht s H C cl fp).p) (fun s H C cl fp => (he s H C cl fp).p) hs, sem_asg d.frz.s⟩
theorem ds_ownLc {m1 : Md} {vs : List Nat} {i : Nat} {y : Str} {py spos : Pos} (own : List (Str × Nat)) (hN : X.N.Nodup) (hi : DI w X m tg iter wi f) (ok : blkC X.N X.env.scope scope own = true)
    (hg : ∀ (s' : Shared) (H : Hp) (C : Addr) (cl : List (Str × Addr)) (fp : List Addr), DG w (X.blk s' H scope (compEnvC scope cl C X.env) fp) W1 tg g s) (ht : ∀ (s : Shared) (H : Hp) (C : Addr) (cl : List (Str × Addr)) (fp : List Addr), DTs (X.blk s H scope (compEnvC scope cl C X.env) fp) ifs tt ft)
    (he : ∀ (s : Shared) (H : Hp) (C : Addr) (cl : List (Str × Addr)) (fp : List Addr), DE (X.blk s H scope (compEnvC scope cl C X.env) fp) .fz elt te fe) (hW : ∀ j ∈ W1, j ∈ vs) (hsw : swapsWith (.ListComp elt [⟨tg, iter, ifs, 0⟩] scope pos) (some (.Name y py)) spos.line X.env = pure true)
    (hy : X.N[i]? = some y := by rfl) (hyl : X.env.scope.names.lookup y = some .local := by rfl) (hc : X.calm = true := by rfl) (hs : ∀ x, foldedSetIterable iter X.env x = pure x := by intro _; rfl) (hvs : own.map (·.2) = vs := by rfl) :
    DS X m1 [i] (.Assign [.Name y py] (.ListComp elt [⟨tg, iter, ifs, 0⟩] scope pos) spos) (tAsg (tLc wi g tt te (vs)) (gName i)) (bOwn i (fLc f s ft fe (vs))) := by
  subst hvs
  have d := de_lc (pos := pos) own hN hi ok hg ht he hW hc hs
  exact ⟨ps_setLc hc hN hy hyl hsw hi.p (blkOk_by ok) (fun s H C cl fp => (hg s H C cl fp).p) (fun s H C cl fp => (ht s H C cl fp).p) (fun s H C cl fp => (he s H C cl fp).p) hs, sem_own d.s⟩
end
end Q
end

/-! part: Q8 -/
section
set_option Elab.async false
set_option linter.all false
set_option maxRecDepth 100000
set_option maxHeartbeats 4000000
set_option autoImplicit false
namespace Q
open PySem PySem.Spec PySem.Calls PyProof.Rows L2
/-! ### defs of the text -/
def spM (K : PySem.W.Frag) (m : Md) (Φ : List D → Option D) : Sp := fun vs H Q _ => ∃ F ds r, Same F H ∧ RepA K F vs ds ∧ Φ ds = some r ∧ ∀ v F' H', Ext F H F' H' → Res K m H F' H' v r → Q v H'
def runB (n : Nat) (b : Bd) : List D → Option D := fun ds => (b (ds.map .im ++ List.replicate (n - ds.length) .un)).bind fun o => match o with
  | .rt d => some d
  | .nx _ => some .none
  | _ => none
section
variable {P : Program} {w : World} {K : PySem.W.Frag} {mg : Str → Option Value} {base : Heap}
theorem start_nodp {ds : List D} {n i : Nat} {dss : Kd × List (List D)} (h1 : (ds.map Sl.im ++ List.replicate n .un)[i]? = some (.dp dss)) : False := by
  have := List.mem_of_getElem? h1
  rcases List.mem_append.mp this with h | h
  · obtain ⟨d, _, e⟩ := List.mem_map.mp h
    cases e
  · cases List.eq_of_mem_replicate h
theorem start_rel {N : List Str} {F H : Hp} : ∀ {vs : List V} {ds : List D}, RepA K F vs ds → ds.length ≤ N.length → Same F H → Rel K { F0 := F, G := H } F H (L2.start N vs) (ds.map Sl.im ++ List.replicate (N.length - ds.length) .un) := fun {vs ds} ra hl fh => by
  have el := ra.length
  refine ⟨?_, .refl _, .refl _, fh, .refl, fun i o s h1 h2 => ?_, fun i j d e a hij h1 h2 h3 h4 => ?_, fun i j dss e a c bs h1 _ _ _ _ => (start_nodp h1).elim, fun i j d e h1 _ => (start_nodp h1).elim⟩
  · unfold L2.start; simp [el]
  · unfold L2.start at h1
    by_cases hi : i < ds.length
    · rw [List.getElem?_append_left (by simpa using hi)] at h2
      rw [List.getElem?_append_left (by simpa [el] using hi)] at h1
      rw [List.getElem?_map] at h1 h2
      obtain ⟨d, e1, rfl⟩ := Option.map_eq_some_iff.mp h2
      obtain ⟨v, e2, e3⟩ := ra.get e1
      rw [e2] at h1
      cases h1
      exact ⟨v, rfl, e3⟩
    · rw [List.getElem?_append_right (by simpa using hi)] at h2
      rw [List.getElem?_replicate] at h2
      split at h2
      · cases h2; trivial
      · cases h2
  · by_cases hi : i < ds.length
    · rw [List.getElem?_append_left (by simpa using hi), List.getElem?_map] at h1
      obtain ⟨d, _, e1⟩ := Option.map_eq_some_iff.mp h1
      cases e1
    · rw [List.getElem?_append_right (by simpa using hi), List.getElem?_replicate] at h1
      split at h1 <;> cases h1
/-- A DEF KEEPS WHAT ITS BODY'S DENOTATION SAYS -/
theorem fn_den {x qual : Str} {params : Arguments} {body : List Stmt} {scope : Scope} {dvs : List V} {kws : List (Str × V)} {f : Addr} {fd : FuncData} {N ps : List Str} {k : Nat} {m : Md} {b : Bd}
    (Fd : FunD K x qual params body scope dvs kws f fd) (S : FnScope N ps scope) (Φ : List D → Option D) (hΦ : ∀ ds r, Φ ds = some r → ds.length = ps.length ∧ runB N.length b ds = some r) (hm : m = .fz ∨ ∀ ds ρ', b ds ≠ some (.nx ρ'))
    (hb : ∀ (cdv : Value) (A : Around) (outer : List Env) (s : Shared) (H : Hp) (E : XK), Room k (A.deeper (envOfC qual scope s.heap.objs.size f cdv)) →
      ∃ W t, DSs (cxOf CX0 P w K mg base N qual scope f cdv A outer s H E).nox m W body t b) : FnOk P w K mg base CX0 (k + 1) f fd ps (spM K m Φ) := by
  have lenOf : ∀ vs H Q E, spM K m Φ vs H Q E → vs.length = ps.length := fun vs H Q E h => by
    obtain ⟨F, ds, r, _, ra, hr, _⟩ := h
    rw [ra.length]
    exact (hΦ ds r hr).1
  refine Fd.ok S lenOf fun cdv A outer s H vs Q E hr h => ?_
  obtain ⟨W, t, D⟩ := hb cdv A outer s H E hr
  refine ⟨t, D.p.nox, ?_⟩
  obtain ⟨F, ds, r, fh, ra, hP, q⟩ := h
  obtain ⟨hl, hrun⟩ := hΦ ds r hP
  obtain ⟨o, e1, e2⟩ := bind_some hrun
  have hlen : ps.length ≤ N.length := by
    have e := congrArg List.length S.pre
    rw [List.length_take] at e
    omega
  refine D.s { F0 := F, G := H } F H _ _ o _ (start_rel ra (by rw [hl]; exact hlen) fh) e1 ?_
  cases o with
  | rt d =>
    cases e2
    intro v F' H' ro
    obtain ⟨a1, a2, a3, a4, a5⟩ := ro
    exact q v F' H' ⟨a1, a2, a4, a3⟩ a5
  | nx ρ' =>
    cases e2
    rcases hm with rfl | hm
    · intro σ' F' H' r' _
      exact q .non F' H' ⟨r'.f0, r'.g, r'.nw, r'.fh⟩ Rep.non
    · exact absurd e1 (hm _ _)
  | bk ρ' => cases e2
  | ct ρ' => cases e2
end
section
variable {X : Cx} {m : Md} {k : Nat} {f : Addr} {fd : FuncData} {ps : List Str} {Φ : List D → Option D} {x : Str} {p pos : Pos} {e : Expr} {es : List Expr} {t : TA} {fs : Rho → Option (List D)}
theorem sem_call {K : PySem.W.Frag} (h : SemA K .fz t fs) : SemE K m (tCall (spM K m Φ) [] E0 t) (fB Φ fs) := by
  intro B F H σ ρ z Q rel hf q
  obtain ⟨ds, h1, h2⟩ := bind_some hf
  refine h B F H σ ρ ds _ rel h1 fun vs F1 H1 x1 r1 => ?_
  rw [List.append_nil]
  exact ⟨F1, ds, z, x1.s, r1.rep, h2, fun v F' H' x2 r2 => q v F' H' (x1.trans x2) (r2.back (F1 := F1) x1.h)⟩
/-- f(e, ..), f a def of the text -/
theorem de_call (F : FnOk X.prog X.w X.K X.mg X.base CX0 k f fd ps (spM X.K m Φ)) (hr : Room k X.A) (hg : Gl X x) (hm : X.mg x = some (.ref f)) (hk : PySem.W.keepIn X.K (.ref f) = true) (hb : Binds X.K fd ps []) (ha : DA X .fz (e :: es) t fs)
    (hdb : (x == ("__debug__" : Str)) = false := by decide) (he : starEach (e :: es) X.env = (false, eval e X.env) :: starEach es X.env := by rfl) (hpl : (backTo pos (starEach es X.env)).any (·.1) = false := by rfl) :
    DE X m (.Call (.Name x p) (e :: es) [] pos) (tCall (spM X.K m Φ) [] E0 t) (fB Φ fs) := ⟨pe_call F hr hg hm hk hb .nil pass0 ha.p hdb he hpl, sem_call ha.s⟩
theorem de_call0 (F : FnOk X.prog X.w X.K X.mg X.base CX0 k f fd ps (spM X.K m Φ)) (hr : Room k X.A) (hg : Gl X x) (hm : X.mg x = some (.ref f)) (hk : PySem.W.keepIn X.K (.ref f) = true) (hb : Binds X.K fd ps [])
    (hdb : (x == ("__debug__" : Str)) = false := by decide) : DE X m (.Call (.Name x p) [] [] pos) (tCall (spM X.K m Φ) [] E0 tNil) (fB Φ aNil) := ⟨pe_call0 F hr hg hm hk hb .nil pass0 hdb, sem_call (fs := aNil) fun B F H σ ρ ds Q rel hf q => by cases hf; exact q [] F H (.refl rel.fh) .nil⟩
end
/-! a result without lists: arguments that are owned stay so -/
mutual
def nm : D → Bool
  | .none => true
  | .bool _ => true
  | .int _ => true
  | .str _ => true
  | .tuple ds => nmA ds
  | .list _ => false
  | .dict _ => false
def nmA : List D → Bool
  | [] => true
  | d :: ds => nm d && nmA ds
end
/-- of a new list: its items -/
def okR (m : Md) (d : D) : Bool := match m, d with
  | .fr, .list ds => nmA ds
  | .fr, .dict es => es.all fun e => nm e.2
  | .fr, _ => false
  | _, d => nm d
/-- a list or a dict -/
def Mb (o : HO) : Prop := (∃ xs, o = .lst xs) ∨ ∃ ks, o = .dK ks
section
variable {K : PySem.W.Frag} {F F2 : Hp}
mutual
theorem Rep.less (h : ∀ a o, F a = some o → ¬ Mb o → F2 a = some o) : ∀ {v : V} {d : D}, Rep K F v d → nm d = true → Rep K F2 v d
  | _, _, .non, _ => .non
  | _, _, .bl b, _ => .bl b
  | _, _, .int i, _ => .int i
  | _, _, .str x, _ => .str x
  | _, _, .lst _ _, e => by simp [nm] at e
  | _, _, .dct _ _, e => by simp [nm] at e
  | _, .tuple ds, .tup h1 r, e => .tup (by
      rcases h1 with ⟨o, h1, h2⟩ | h1
      · exact .inl ⟨o, h _ _ h1 (fun z => by rcases z with ⟨_, z⟩ | ⟨_, z⟩ <;> cases z), h2⟩
      · exact .inr h1) (RepA.less h r (by simpa [nm] using e))
theorem RepA.less (h : ∀ a o, F a = some o → ¬ Mb o → F2 a = some o) : ∀ {vs : List V} {ds : List D}, RepA K F vs ds → nmA ds = true → RepA K F2 vs ds
  | _, _, .nil, _ => .nil
  | _, d :: ds, .cons h1 r, e => by
    have e' : nm d = true ∧ nmA ds = true := by simpa [nmA] using e
    exact .cons (Rep.less h h1 e'.1) (RepA.less h r e'.2)
end
theorem RepK.less (h : ∀ a o, F a = some o → ¬ Mb o → F2 a = some o) : ∀ {ks : List (Key × V)} {es : List (D × D)}, RepK K F ks es → (es.all fun e => nm e.2) = true → RepK K F2 ks es
  | _, _, .nil, _ => .nil
  | _, _, .cons h1 r, e => by
    simp only [List.all_cons, Bool.and_eq_true] at e
    exact .cons (Rep.less h h1 e.1) (RepK.less h r e.2)
end
/-- F with the objects at L added as they stand in H -/
def plus (F H : Hp) (L : List Addr) : Hp := fun a => match F a with
  | some o => some o
  | none => if a ∈ L then H a else none
theorem plus_f {F H : Hp} {L : List Addr} : Same F (plus F H L) := fun a o h => by unfold plus; rw [h]
theorem plus_h {F H : Hp} {L : List Addr} (s : Same F H) : Same (plus F H L) H := fun a o h => by
  unfold plus at h
  split at h
  · rename_i o' e; cases h; exact s _ _ e
  · split at h
    · exact h
    · cases h
theorem plus_mono {F H : Hp} {L L' : List Addr} (h : ∀ a ∈ L, a ∈ L') : Same (plus F H L) (plus F H L') := fun a o q => by
  unfold plus at q ⊢
  cases e : F a with
  | some o' => rw [e] at q; exact q
  | none =>
    rw [e] at q
    have q' : (if a ∈ L then H a else none) = some o := q
    show (if a ∈ L' then H a else none) = some o
    by_cases hm : a ∈ L
    · rw [if_pos hm] at q'; rw [if_pos (h a hm)]; exact q'
    · rw [if_neg hm] at q'; cases q'
theorem args_plus {K : PySem.W.Frag} {H0 F H : Hp} : ∀ {vs : List V} {ds : List D}, ResA K .pk H0 F H vs ds → ∃ L : List Addr, (∀ a ∈ L, F a = none ∧ ∃ u, Mb u ∧ H a = some u) ∧ RepA K (plus F H L) vs ds
  | _, _, .nil => ⟨[], by simp, .nil⟩
  | _, _, .cons h r => by
    obtain ⟨L, h1, h2⟩ := args_plus r
    rcases h with h | ⟨a, rfl, hf, o⟩
    · exact ⟨L, h1, .cons (h.mono plus_f) h2⟩
    · rename_i d ds
      cases d with
      | list es =>
        obtain ⟨xs, e, ra⟩ := o
        refine ⟨a :: L, fun b hb => ?_, .cons (.lst (.of ?_) (ra.mono plus_f)) (h2.mono (plus_mono fun b hb => List.mem_cons_of_mem _ hb))⟩
        · rcases List.mem_cons.mp hb with rfl | hb
          · exact ⟨hf, _, .inl ⟨xs, rfl⟩, e⟩
          · exact h1 b hb
        · unfold plus; rw [hf]; show (if a ∈ a :: L then H a else none) = _; rw [if_pos List.mem_cons_self]; exact e
      | dict es =>
        obtain ⟨xs, e, ra⟩ := o
        refine ⟨a :: L, fun b hb => ?_, .cons (.dct (.of ?_) (ra.mono plus_f)) (h2.mono (plus_mono fun b hb => List.mem_cons_of_mem _ hb))⟩
        · rcases List.mem_cons.mp hb with rfl | hb
          · exact ⟨hf, _, .inr ⟨xs, rfl⟩, e⟩
          · exact h1 b hb
        · unfold plus; rw [hf]; show (if a ∈ a :: L then H a else none) = _; rw [if_pos List.mem_cons_self]; exact e
      | _ => exact o.elim
def fBP (m : Md) (Φ : List D → Option D) (fs : Rho → Option (List D)) : Rho → Option D := fun ρ => (fs ρ).bind fun ds => (Φ ds).bind fun r => if okR m r = true then some r else none
section
variable {X : Cx} {m m1 : Md} {k : Nat} {f : Addr} {fd : FuncData} {ps : List Str} {Φ : List D → Option D} {x : Str} {p pos : Pos} {e : Expr} {es : List Expr} {t : TA} {fs : Rho → Option (List D)}
theorem sem_callP {K : PySem.W.Frag} (hm : m = .fz ∨ m = .fr) (h : SemA K m1 t fs) : SemE K m (tCall (spM K m Φ) [] E0 t) (fBP m Φ fs) := by
  intro B F H σ ρ z Q rel hf q
  obtain ⟨ds, h1, h2⟩ := bind_some hf
  obtain ⟨r, h3, h4⟩ := bind_some h2
  obtain ⟨hn, rfl⟩ := if_some h4
  refine h B F H σ ρ ds _ rel h1 fun vs F1 H1 x1 r1 => ?_
  rw [List.append_nil]
  obtain ⟨L, hL, ra⟩ := args_plus r1.any
  refine ⟨plus F1 H1 L, ds, r, plus_h x1.s, ra, h3, fun v F' H' x2 r2 => ?_⟩
  -- what the callee froze, without the caller's own
  have hex : ∃ F3 : Hp, Ext F1 H1 F3 H' ∧ (∀ a o, F' a = some o → ¬ Mb o → F3 a = some o) ∧ ∀ a, F' a = none → F3 a = none := by
    refine ⟨fun a => if a ∈ L then none else F' a, ⟨fun a o h => ?_, x2.h, fun a h => ?_, fun a o h => ?_⟩, fun a o h1 h2 => ?_, fun a h => ?_⟩
    · have : a ∉ L := fun z => by rw [(hL a z).1] at h; cases h
      rw [if_neg this]
      exact x2.f _ _ (plus_f _ _ h)
    · by_cases z : a ∈ L
      · exact absurd (if_pos z) h
      · have h' : F' a ≠ none := by intro e; exact h (by rw [if_neg z]; exact e)
        rcases x2.n a h' with w | w
        · left
          intro e
          apply w
          unfold plus
          rw [e]
          exact if_neg z
        · exact .inr w
    · by_cases z : a ∈ L
      · have h' : (none : Option HO) = some o := by rw [← h]; exact (if_pos z).symm
        cases h'
      · have h' : F' a = some o := by rw [← h]; exact (if_neg z).symm
        exact x2.s _ _ h'
    · have : a ∉ L := fun z => by
        obtain ⟨f1, u, hu, e⟩ := hL a z
        have : plus F1 H1 L a = some u := by unfold plus; rw [f1]; show (if a ∈ L then H1 a else none) = _; rw [if_pos z]; exact e
        have q := x2.f _ _ this
        rw [h1] at q
        exact h2 (by rw [Option.some.inj q]; exact hu)
      exact (if_neg this).trans h1
    · by_cases z : a ∈ L
      · exact if_pos z
      · exact (if_neg z).trans h
  obtain ⟨F3, x3, k1, k2⟩ := hex
  refine q v F3 H' (x1.trans x3) ?_
  rcases hm with rfl | rfl
  · exact Rep.less k1 r2 hn
  · obtain ⟨a, rfl, h0, hf0, o⟩ := r2
    refine ⟨a, rfl, x1.h.free h0, k2 a hf0, ?_⟩
    cases r with
    | list es =>
      obtain ⟨ws, e1, e2⟩ := o
      exact ⟨ws, e1, e2.less k1 hn⟩
    | dict es =>
      obtain ⟨ws, e1, e2⟩ := o
      exact ⟨ws, e1, e2.less k1 hn⟩
    | _ => exact o.elim
/-- f(e, ..), owned names among the arguments, no list in what comes back -/
theorem de_callP (hm0 : m = .fz ∨ m = .fr) (F : FnOk X.prog X.w X.K X.mg X.base CX0 k f fd ps (spM X.K m Φ)) (hr : Room k X.A) (hg : Gl X x) (hm : X.mg x = some (.ref f)) (hk : PySem.W.keepIn X.K (.ref f) = true) (hb : Binds X.K fd ps []) (ha : DA X .pk (e :: es) t fs)
    (hdb : (x == ("__debug__" : Str)) = false := by decide) (he : starEach (e :: es) X.env = (false, eval e X.env) :: starEach es X.env := by rfl) (hpl : (backTo pos (starEach es X.env)).any (·.1) = false := by rfl) :
    DE X m (.Call (.Name x p) (e :: es) [] pos) (tCall (spM X.K m Φ) [] E0 t) (fBP m Φ fs) := ⟨pe_call F hr hg hm hk hb .nil pass0 ha.p hdb he hpl, sem_callP hm0 ha.s⟩
end
end Q
end

/-! part: Q9 -/
section
set_option Elab.async false
set_option linter.all false
set_option maxRecDepth 100000
set_option maxHeartbeats 4000000
set_option autoImplicit false
namespace PySem
set_option maxHeartbeats 1000000 in
theorem meets_enumerate_new1 {v : Value} {o : Obj} {H : Heap → Prop} (B : Begins v o H) :
    Meets (Builtin.«enumerate.__new__» ⟨[.type "enumerate", v], []⟩) (fun _ R s => H s.heap ∧
      R (.ok (.ret (.ref (s.heap.push o).objs.size))) { s with heap := (s.heap.push o).push { cls := .type "enumerate", data := .fields #[.none, .bool false, .ref s.heap.objs.size, rawInt 0, .none, .none] } }) :=
  .of_wp fun prog w A R s h => by
    obtain ⟨hp, g, d, tk, os⟩ := s; obtain ⟨h1, h⟩ := h
    have hsub := sub_enumerate
    have q1 : ∀ {A' : Around} {E : Value → Shared → Prop} {Q : Value → Shared → Prop}, Q (.ref hp.objs.size) ⟨hp.push o, g, d, tk, os⟩ → wpAny (model prog w) A' (pyIter v) Q E ⟨hp, g, d, tk, os⟩ :=
      fun q => B.iter prog w _ _ ⟨hp, g, d, tk, os⟩ _ h1 q
    wp_walk using q1
    refine wpAny_stack_any fun st => wpAny_pure ?_
    split
    · rename_i c _ _ _ _ _
      cases (c == Value.type "enumerate")
      · wp_walk using q1
        exact ⟨_, rfl, h⟩
      · wp_walk using q1
        exact ⟨_, rfl, h⟩
    · wp_walk using q1
      exact ⟨_, rfl, h⟩
theorem enum_begins1 {prog : Program} {w : World} {A : Around} {E : Value → Shared → Prop} {s : Shared} {v : Value} {o : Obj} {H : Heap → Prop} {Q : Value → Shared → Prop} (B : Begins v o H) (h1 : H s.heap)
    (h : ∀ h', IsEnum h' (s.heap.objs.size + 1) s.heap.objs.size 0 .none → h'.get? s.heap.objs.size = some o → h'.objs.size = s.heap.objs.size + 2 →
      (∀ b o, s.heap.get? b = some o → h'.get? b = some o) → Q (.ref (s.heap.objs.size + 1)) { s with heap := h' }) :
    wpAny (model prog w) A (call (.type "enumerate") [v]) Q E s := by
  refine callType_new F.called_enumerate (by decide) (F.typeCall_enumerate_1 _) (F.newCall_enumerate_1 _) (fun obj => F.args_object_init_2 obj _) F.entry_enumerate_new
    (meets_enumerate_new1 B) ⟨h1, ?_⟩
  have hz : (s.heap.push o).objs.size = s.heap.objs.size + 1 := Heap.size_push ..
  show _ ∧ _
  rw [hz]
  have he : IsEnum ((s.heap.push o).push { cls := .type "enumerate", data := .fields #[.none, .bool false, .ref s.heap.objs.size, rawInt 0, .none, .none] }) (s.heap.objs.size + 1) s.heap.objs.size 0 .none := by
    have := Heap.get?_push_size (s.heap.push o) (o := { cls := .type "enumerate", data := .fields #[.none, .bool false, .ref s.heap.objs.size, rawInt 0, .none, .none] }) rfl
    rw [hz] at this; exact this
  refine ⟨⟨_, he, rfl⟩, h _ he (Heap.get?_push_of_some _ (Heap.get?_push_size _ B.free)) (by rw [Heap.size_push, hz]) fun b o x => Heap.get?_push_of_some _ (Heap.get?_push_of_some _ x)⟩
end PySem
namespace Q
open PySem PySem.Spec PySem.Calls PyProof.Rows L2
/-! ### enumerate over a tuple -/
def IteT (K : PySem.W.Frag) (a : Addr) (n : Nat) : It :=
  ⟨fun i H => i < n ∧ ∃ (xs : List V) (x : V), SqT K H a xs ∧ xs[i]? = some x, fun i H v H' => ∃ T x, v = .ref T ∧ H T = none ∧ H' = upd H T (.tup [.int (i : Nat), x]) ∧ ∀ xs, SqT K H a xs → xs[i]? = some x, fun i H => n ≤ i ∧ ∃ xs : List V, SqT K H a xs ∧ xs.length = n⟩
theorem turn_enumT {P : Program} {w : World} {K : PySem.W.Frag} {elts : List Expr} {kk : Nat} {tpos : Pos} (a e it : Addr) (n : Nat) :
    Turn P w K (.Tuple elts kk tpos) (IteT K a n) [e, it] e (fun i h => i ≤ n ∧ (∃ old, IsEnum h e it ((i : Nat) : Int) old) ∧ h.IsTupleIter it a i ∧ e ≠ it ∧ a ≠ it ∧ a ≠ e) where
  mem := by simp
  obj := fun i h st b hb => by
    obtain ⟨_, ⟨old, he⟩, ⟨o, ho, hc, hd⟩, _⟩ := st
    have e' : b = e ∨ b = it := by simpa using hb
    rcases e' with z | z
    · rw [z]; exact ⟨_, he, fun v q => nomatch q⟩
    · rw [z]; exact ⟨o, ho, fun v q => by rw [hd] at q; cases q⟩
  keep := fun i h h' st k => let ⟨hn, ⟨old, he⟩, hi, hne⟩ := st; ⟨hn, ⟨old, k e (by simp) _ he⟩, hi.at fun o q => k it (by simp) o q, hne⟩
  item := by
    intro X hP hw hK hc i pins s σ H E I hf st hg
    subst hP hw hK
    obtain ⟨_, ⟨old, he⟩, hit, hne, hai, hae⟩ := st
    obtain ⟨hin, xs, x, hq, hx⟩ := hg
    obtain ⟨its, rv, p, hz⟩ := I.tuple hq
    obtain ⟨u, hu, ru⟩ := rv.get hx
    have hel : e < s.heap.objs.size := Heap.lt_size he
    have hil : it < s.heap.objs.size := by obtain ⟨_, q, _⟩ := hit; exact Heap.lt_size q
    have Dr := Draws.tuple (prog := X.prog) (w := X.w) (A := X.A.in1) (I.ok.hd hc) it a hai its.toArray
    have hlt : i < its.toArray.size := by rw [List.size_toArray, ← rv.length]; exact (List.getElem?_eq_some_iff.mp hx).1
    refine wpAny_pyNext_enum_itemD Dr he ⟨hit, p⟩ hlt hne (by simp [hne, Ne.symm hae]) fun u' h' tk hP' ho hit' hT hsz hk => ?_
    have eu : u' = u := by
      have h1 : its.toArray[i]? = some u := by simpa using hu
      rw [h1] at hP'
      exact (Option.some.inj hP').symm
    subst eu
    refine ⟨_, rfl, wpAny_letOwnedTupleGo_enum (s := { s with heap := h', toks := tk + 1 }) ho fun h'' he' sb => ?_⟩
    have hT2 : h''.get? s.heap.objs.size = some { cls := .type "tuple", data := .seq #[.int i tk, u'] } := (sb.2 _ (Nat.ne_of_gt hel)).trans hT
    have new : ObjOk X.prog X.w (upd H s.heap.objs.size (.tup [.int (i : Nat), x])) h'' s.heap.objs.size (.tup [.int (i : Nat), x]) :=
      ⟨by show 2 ≤ sizeLine; decide, [.int i tk, u'], .cons ⟨_, rfl⟩ (.cons ru .nil), ⟨_, hT2, rfl, _, rfl⟩⟩
    have I1 : Inv X pins σ (upd H s.heap.objs.size (.tup [.int (i : Nat), x])) { s with heap := h'', toks := tk + 1 } :=
      I.turnedNew (ch := [e, it]) (fun b ob hb q => (sb.2 b (fun z => hb (by simp [z]))).trans (hk b ob (fun z => hb (by simp [z])) (fun z => hb (by simp [z])) q)) hf (Nat.le_refl _) new
    refine ⟨.ref s.heap.objs.size, _, I1, rfl, ⟨_, x, rfl, I.hok.fresh (Nat.le_refl _), rfl, fun ys hy => by rw [I.tuple_inj hy hq]; exact hx⟩, ⟨hin, ⟨u', ?_⟩, hit'.1.at fun o q => (sb.2 it (Ne.symm hne)).trans q, hne, hai, hae⟩, fun b hb => ?_⟩
    · have e1 : ((i + 1 : Nat) : Int) = (i : Int) + 1 := by omega
      rw [e1]; exact he'
    · have hb' : b < s.heap.objs.size := by
        have e' : b = e ∨ b = it := by simpa using hb
        rcases e' with z | z
        · rw [z]; exact hel
        · rw [z]; exact hil
      rw [upd_ne (Nat.ne_of_lt hb')]
      exact (hf b hb).1
  done := by
    intro X hP hw hK hc i pins s σ H E I hf st hg
    subst hP hw hK
    obtain ⟨hin, ⟨old, he⟩, hit, hne, hai, hae⟩ := st
    obtain ⟨hge, xs, hq, hx⟩ := hg
    obtain ⟨its, rv, p, hz⟩ := I.tuple hq
    obtain ⟨f0, f1, f2, f3, f4, f5⟩ := hf it (by simp)
    have Dr := Draws.tuple (prog := X.prog) (w := X.w) (A := X.A.in1) (I.ok.hd hc) it a hai its.toArray
    have ei : i = its.toArray.size := by rw [List.size_toArray, ← rv.length]; omega
    subst ei
    exact wpAny_pyNext_enum_endD Dr he ⟨hit, p⟩ fun h' eb => ⟨rfl, I.turned (t' := s.toks) (fun b o hb q => eb b o hb q) f0 f1 f3 f4 f5⟩
  self := fun A i s Q E st h => let ⟨_, ⟨_, he⟩, _⟩ := st; wpAny_pyIter_enum he h
/-- enumerate(x), x a list or a tuple -/
def iEnumA (K : PySem.W.Frag) (te : TE) : TI := fun σ H R => te σ H fun v H1 => ∃ a xs, v = .ref a ∧ ((SqL K H1 a xs ∧ R (Ite K a) H1) ∨ (SqT K H1 a xs ∧ R (IteT K a xs.length) H1))
theorem pi_enumA {X : Cx} {e : Expr} {te : TE} {p pos tpos : Pos} {elts : List Expr} {kk : Nat} (hg : Gl X "enumerate") (hm : X.mg "enumerate" = none) (he : PE X e te) (hs : starEach [e] X.env = (false, eval e X.env) :: starEach [] X.env := by rfl) :
    PI X (.Tuple elts kk tpos) (.Call (.Name "enumerate" p) [e] [] pos) (iEnumA X.K te) := by
  refine ⟨fun pins s σ H R I h => ?_⟩
  refine Call_ (ld_blt I hg hm boot_enumerate (PyProof.Rows.callWith_type1 (args_cons (thn (he.run pins s σ H _ I h) fun u s1 ⟨v, H1, I1, r1, q1⟩ => args_nil ?_) hs) hs rfl))
  obtain ⟨a, xs, ev, q⟩ := q1
  subst ev
  obtain rfl : u = Value.ref a := r1
  have fresh2 : ∀ b, b ∈ [s1.heap.objs.size + 1, s1.heap.objs.size] → FpOk X pins H1 b := fun b hb => by
    have e' : b = s1.heap.objs.size + 1 ∨ b = s1.heap.objs.size := by simpa using hb
    have hle : s1.heap.objs.size ≤ b := by
      rcases e' with z | z
      · rw [z]; exact Nat.le_add_right _ _
      · rw [z]; exact Nat.le_refl _
    exact I1.fpOk hle (I1.hok.fresh hle)
  rcases q with ⟨hq, q⟩ | ⟨hq, q⟩
  · obtain ⟨its, rv, p', hz⟩ := I1.list hq
    refine call_enumerate_list p'.isList fun h' he hit hsz hk => wpAny_pyIter_enum he ?_
    have I2 : Inv X pins σ H1 { s1 with heap := h' } := I1.kept (t' := s1.toks) hk
    exact ⟨s1.heap.objs.size + 1, [s1.heap.objs.size + 1, s1.heap.objs.size], _, _, H1, rfl, I2, turn_enum a (s1.heap.objs.size + 1) s1.heap.objs.size, ⟨⟨.none, he⟩, hit, Nat.succ_ne_self _⟩, fresh2, q⟩
  · obtain ⟨its, rv, p', hz⟩ := I1.tuple hq
    have hal : a < s1.heap.objs.size := by obtain ⟨o, e, _⟩ := p'; exact Heap.lt_size e
    refine enum_begins1 (begins_tuple a its.toArray) p' fun h' he hit hsz hk => wpAny_pyIter_enum he ?_
    have I2 : Inv X pins σ H1 { s1 with heap := h' } := I1.kept (t' := s1.toks) hk
    exact ⟨s1.heap.objs.size + 1, [s1.heap.objs.size + 1, s1.heap.objs.size], _, _, H1, rfl, I2, turn_enumT a (s1.heap.objs.size + 1) s1.heap.objs.size xs.length, ⟨Nat.zero_le _, ⟨.none, he⟩, ⟨_, hit, rfl, rfl⟩, Nat.succ_ne_self _, Nat.ne_of_lt hal, Nat.ne_of_lt (Nat.lt_succ_of_lt hal)⟩, fresh2, q⟩
def numL : Nat → List D → List D
  | _, [] => []
  | i, d :: ds => .tuple [.int (i : Nat), d] :: numL (i + 1) ds
theorem numL_at : ∀ {ds : List D} {k i : Nat} {d : D}, (numL k ds)[i]? = some d → ∃ x, ds[i]? = some x ∧ d = .tuple [.int ((k + i : Nat) : Int), x]
  | [], _, _, _, h => by simp [numL] at h
  | x :: ds, k, 0, d, h => by simp [numL] at h; subst h; exact ⟨x, rfl, rfl⟩
  | x :: ds, k, i + 1, d, h => by
    have h' : (numL (k + 1) ds)[i]? = some d := by simpa [numL] using h
    obtain ⟨y, h1, h2⟩ := numL_at h'
    refine ⟨y, by simpa using h1, ?_⟩
    rw [h2, show k + 1 + i = k + (i + 1) by omega]
theorem numL_length : ∀ (ds : List D) (k : Nat), (numL k ds).length = ds.length
  | [], _ => rfl
  | x :: ds, k => by simp [numL, numL_length ds]
theorem ite_ok {K : PySem.W.Frag} {F : Hp} {a : Addr} {xs : List V} {ds : List D} {st : Hp → Prop} (hs : ∀ H, Same F H → st H → SqL K H a xs) (r : RepA K F xs ds) : ItO true K (Ite K a) F st (numL 0 ds) :=
  ⟨fun i F' H' hi s1 s2 s3 => by
    obtain ⟨x, h1, _⟩ := numL_at (List.getElem?_eq_getElem hi)
    obtain ⟨y, h3, _⟩ := r.get h1
    exact ⟨xs, y, hs H' (s1.trans s2) s3, h3⟩, fun i d F' H' v H3 hd s1 s2 s3 yy => by
    obtain ⟨T, x, rfl, hT, rfl, y1⟩ := yy
    obtain ⟨dx, h1, rfl⟩ := numL_at hd
    obtain ⟨x', h3, h5⟩ := r.get h1
    have e1 := y1 xs (hs H' (s1.trans s2) s3)
    rw [h3] at e1
    cases e1
    rw [Nat.zero_add]
    exact pair_ok s2 hT (Rep.int _) (h5.mono s1), fun i F' H' hi s1 s2 s3 => by
    rw [numL_length] at hi
    exact ⟨xs, hs H' (s1.trans s2) s3, by rw [r.length]; exact hi⟩⟩
theorem iteT_ok {K : PySem.W.Frag} {F : Hp} {a : Addr} {xs : List V} {ds : List D} {st : Hp → Prop} (hs : ∀ H, Same F H → st H → SqT K H a xs) (r : RepA K F xs ds) : ItO true K (IteT K a xs.length) F st (numL 0 ds) :=
  ⟨fun i F' H' hi s1 s2 s3 => by
    obtain ⟨x, h1, _⟩ := numL_at (List.getElem?_eq_getElem hi)
    obtain ⟨y, h3, _⟩ := r.get h1
    rw [numL_length, ← r.length] at hi
    exact ⟨hi, xs, y, hs H' (s1.trans s2) s3, h3⟩, fun i d F' H' v H3 hd s1 s2 s3 yy => by
    obtain ⟨T, x, rfl, hT, rfl, y1⟩ := yy
    obtain ⟨dx, h1, rfl⟩ := numL_at hd
    obtain ⟨x', h3, h5⟩ := r.get h1
    have e1 := y1 xs (hs H' (s1.trans s2) s3)
    rw [h3] at e1
    cases e1
    rw [Nat.zero_add]
    exact pair_ok s2 hT (Rep.int _) (h5.mono s1), fun i F' H' hi s1 s2 s3 => by
    rw [numL_length] at hi
    exact ⟨by rw [r.length]; exact hi, xs, hs H' (s1.trans s2) s3, rfl⟩⟩
def enumD (d : D) : Option (List D) := (itemsD d).map (numL 0)
def fEnum (f : Rho → Option D) : Rho → Option (List D) := fun ρ => (f ρ).bind enumD
section
variable {X : Cx} {m : Md} {e : Expr} {te : TE} {f : Rho → Option D} {p pos tpos : Pos} {elts : List Expr} {kk : Nat}
theorem sem_enum {K : PySem.W.Frag} (h : SemE K .fz te f) : SemI true K .fz (iEnumA K te) (fEnum f) := by
  intro B F H σ ρ ds R rel hf q
  obtain ⟨d, h1, h2⟩ := bind_some hf
  obtain ⟨es, h3, rfl⟩ := Option.map_eq_some_iff.mp h2
  refine h B F H σ ρ d _ rel h1 fun v F1 H1 x1 r1 => ?_
  cases d with
  | list es =>
    cases h3
    cases r1 with
    | lst hs hr => exact ⟨_, _, rfl, .inl ⟨x1.s.seq hs, q _ F1 H1 x1 (ite_ok (fun H s _ => s.seq hs) hr)⟩⟩
  | tuple es =>
    cases h3
    cases r1 with
    | tup hs hr => exact ⟨_, _, rfl, .inr ⟨(hs.mono x1.s).sq, q _ F1 H1 x1 (iteT_ok (fun H s _ => (hs.mono s).sq) hr)⟩⟩
  | _ => cases h3
theorem sem_enumP {K : PySem.W.Frag} (h : SemE K m te f) : SemI true K .pk (iEnumA K te) (fEnum f) := by
  intro B F H σ ρ ds R rel hf q
  obtain ⟨d, h1, h2⟩ := bind_some hf
  obtain ⟨es, h3, rfl⟩ := Option.map_eq_some_iff.mp h2
  refine h B F H σ ρ d _ rel h1 fun v F1 H1 x1 r1 => ?_
  cases d with
  | list es =>
    cases h3
    obtain ⟨a, xs, rfl, hs, hr⟩ := r1.list x1.s
    exact ⟨_, _, rfl, .inl ⟨hs, q _ F1 H1 x1 (ite_ok (fun H _ s => s.seq hs) hr)⟩⟩
  | tuple es =>
    cases h3
    obtain ⟨a, xs, rfl, hs, hr⟩ := r1.tup x1.s
    exact ⟨_, _, rfl, .inr ⟨hs.sq, q _ F1 H1 x1 (iteT_ok (fun H _ s => (hs.mono s).sq) hr)⟩⟩
  | _ => cases h3
theorem di_enum (hg : Gl X "enumerate") (hm : X.mg "enumerate" = none) (he : DE X .fz e te f) (hs : starEach [e] X.env = (false, eval e X.env) :: starEach [] X.env := by rfl) :
    DI true X .fz (.Tuple elts kk tpos) (.Call (.Name "enumerate" p) [e] [] pos) (iEnumA X.K te) (fEnum f) := ⟨pi_enumA hg hm he.p hs, sem_enum he.s⟩
theorem di_enumK (K' : PySem.W.Frag) (hg : Gl X "enumerate") (hm : X.mg "enumerate" = none) (he : DE X .fz e te f) (hs : starEach [e] X.env = (false, eval e X.env) :: starEach [] X.env := by rfl) (hK : X.K = K' := by rfl) : DI true X .fz (.Tuple elts kk tpos) (.Call (.Name "enumerate" p) [e] [] pos) (iEnumA K' te) (fEnum f) := by
  subst hK
  exact di_enum (hg := hg) (hm := hm) (he := he) (hs := hs)
theorem di_enumP (hg : Gl X "enumerate") (hm : X.mg "enumerate" = none) (he : DE X m e te f) (hs : starEach [e] X.env = (false, eval e X.env) :: starEach [] X.env := by rfl) :
    DI true X .pk (.Tuple elts kk tpos) (.Call (.Name "enumerate" p) [e] [] pos) (iEnumA X.K te) (fEnum f) := ⟨pi_enumA hg hm he.p hs, sem_enumP he.s⟩
theorem di_enumPK (K' : PySem.W.Frag) (hg : Gl X "enumerate") (hm : X.mg "enumerate" = none) (he : DE X m e te f) (hs : starEach [e] X.env = (false, eval e X.env) :: starEach [] X.env := by rfl) (hK : X.K = K' := by rfl) : DI true X .pk (.Tuple elts kk tpos) (.Call (.Name "enumerate" p) [e] [] pos) (iEnumA K' te) (fEnum f) := by
  subst hK
  exact di_enumP (hg := hg) (hm := hm) (he := he) (hs := hs)
end
end Q
end

/-! part: Q10 -/
section
set_option Elab.async false
set_option linter.all false
set_option maxRecDepth 100000
set_option maxHeartbeats 4000000
set_option autoImplicit false
namespace Q
open PySem PySem.Spec PySem.Calls PyProof.Rows L2
theorem DE.pk {X : Cx} {m : Md} {e : Expr} {t : TE} {f : Rho → Option D} (h : DE X m e t f) : DE X .pk e t f := ⟨h.p, fun B F H σ ρ d Q r hf q => h.s B F H σ ρ d Q r hf fun v F' H' x rs => q v F' H' x rs.any⟩
/-! ### slices -/
def SemO (K : PySem.W.Frag) (t : TO) (f : Rho → Option (Option Int)) : Prop :=
  ∀ (B : Bs) (F H : Hp) (σ : L2.St) (ρ : Rho) (o : Option Int) (Q : Option Int → Hp → Prop), Rel K B F H σ ρ → f ρ = some o → (∀ F' H', Ext F H F' H' → Q o H') → t σ H Q
structure DO (X : Cx) (e : Option Expr) (t : TO) (f : Rho → Option (Option Int)) : Prop where
  p : PO X e t
  s : SemO X.K t f
def oNo : Rho → Option (Option Int) := fun _ => some none
def oIs (f : Rho → Option D) : Rho → Option (Option Int) := fun ρ => (f ρ).bind fun d => match d with
  | .int i => some (some i)
  | _ => none
section
variable {X : Cx} {m m1 : Md} {e : Expr} {te : TE} {f : Rho → Option D} {p p2 pos : Pos} {lo hi : Option Expr} {tl th : TO} {fl fh : Rho → Option (Option Int)}
theorem do_no : DO X none tNoPart oNo := ⟨po_none, fun B F H σ ρ o Q r hf q => by cases hf; exact q F H (.refl r.fh)⟩
theorem do_is (h : DE X m e te f) : DO X (some e) (tPart te) (oIs f) := ⟨po_some h.p, fun B F H σ ρ o Q r hf q => by
  obtain ⟨d, h1, h2⟩ := bind_some hf
  refine h.s B F H σ ρ d _ r h1 fun v F1 H1 x1 r1 => ?_
  cases d with
  | int i => cases h2; exact ⟨i, r1.int, q F1 H1 x1⟩
  | _ => cases h2⟩
def cutL (ds : List D) (lo hi : Option Int) : List D := (ds.drop (HT.sIx ds.length 0 lo)).take (HT.sIx ds.length ds.length hi - HT.sIx ds.length 0 lo)
theorem repA_cut {K : PySem.W.Frag} {F : Hp} {xs : List V} {ds : List D} (r : RepA K F xs ds) (lo hi : Option Int) : RepA K F (cutV xs lo hi) (cutL ds lo hi) := by
  unfold cutV cutL
  rw [r.length]
  exact (r.drop _).take _
/-- t[lo:hi]: the whole of it is t itself -/
def rSlF (K : PySem.W.Frag) : V → Option Int → Option Int → Hp → VK → Prop := fun x lo hi H Q => ∃ a xs, x = .ref a ∧ SqT K H a xs ∧
  (HT.sIx xs.length 0 lo = 0 ∧ HT.sIx xs.length xs.length hi = xs.length → Q (.ref a) H) ∧ (¬ (HT.sIx xs.length 0 lo = 0 ∧ HT.sIx xs.length xs.length hi = xs.length) → NewT (cutV xs lo hi) H Q)
theorem sl_tupF : SlR X (rSlF X.K) := by
  intro pins s σ H x v vl vu lo hi sl Q I rx hs pl pu h
  obtain ⟨a, xs, rfl, hx, q1, q2⟩ := h
  cases rx
  obtain ⟨its, r, ht, hz⟩ := I.tuple hx
  have hlen : its.toArray.size = xs.length := by rw [List.size_toArray]; exact r.length.symm
  refine ⟨"tuple", _, PyProof.Rows.slot_tuple_getitem.lookup, ht.typeIs, ?_⟩
  by_cases hw : HT.sIx xs.length 0 lo = 0 ∧ HT.sIx xs.length xs.length hi = xs.length
  · exact getItem_tuple_whole ht hs pl pu (by rw [hlen]; exact hw) ⟨.ref a, H, I, rfl, q1 hw⟩
  · refine HT.getItem_tuple_cut ht hs pl pu (by rw [hlen]; exact hw) ?_ (by rw [hlen]; exact hz)
    rw [hlen]
    exact ⟨.ref s.heap.objs.size, _, I.laidT (t' := s.toks) ((r.drop (HT.sIx xs.length 0 lo)).take (HT.sIx xs.length xs.length hi - HT.sIx xs.length 0 lo)) (Nat.le_trans (cutV_length xs lo hi) hz), rfl, q2 hw _ _ (I.hok.fresh (Nat.le_refl _)) rfl rfl⟩
def rSlC (K : PySem.W.Frag) : V → Option Int → Option Int → Hp → VK → Prop := fun x lo hi H Q => rSlF K x lo hi H Q ∨ (rSlL K x lo hi H Q ∨ rSlS x lo hi H Q)
theorem sl_all : SlR X (rSlC X.K) := sl_tupF.or (sl_list.or sl_str)
def cutD (d : D) (lo hi : Option Int) : Option D := match d with
  | .tuple ds => some (.tuple (cutL ds lo hi))
  | .list ds => some (.list (cutL ds lo hi))
  | .str z => if z.length ≤ sizeLine then some (.str (cutS z lo hi)) else none
  | _ => none
def fSl (f : Rho → Option D) (fl fh : Rho → Option (Option Int)) : Rho → Option D := fun ρ => (f ρ).bind fun d => (fl ρ).bind fun l => (fh ρ).bind fun h => cutD d l h
theorem cut_whole {ds : List D} {lo hi : Option Int} (h : HT.sIx ds.length 0 lo = 0 ∧ HT.sIx ds.length ds.length hi = ds.length) : cutL ds lo hi = ds := by
  unfold cutL
  rw [h.1, h.2]
  simp
theorem de_sl (he : DE X m e te f) (hl : DO X lo tl fl) (hh : DO X hi th fh) : DE X .fz (.Subscript e (.Slice lo hi none p2) pos) (tSl (rSlC X.K) te tl th) (fSl f fl fh) := ⟨pe_slice sl_all he.p hl.p hh.p, fun B F H σ ρ z Q r hf q => by
  obtain ⟨d, h1, h2⟩ := bind_some hf
  obtain ⟨l, h3, h4⟩ := bind_some h2
  obtain ⟨h, h5, h6⟩ := bind_some h4
  refine he.s B F H σ ρ d _ r h1 fun v F1 H1 x1 r1 => ?_
  refine hl.s B F1 H1 σ ρ l _ (r.ext x1) h3 fun F2 H2 x2 => ?_
  refine hh.s B F2 H2 σ ρ h _ ((r.ext x1).ext x2) h5 fun F3 H3 x3 => ?_
  have r3 := (r1.mono x2).mono x3
  have x13 := (x1.trans x2).trans x3
  cases d with
  | tuple ds =>
    cases h6
    have rt := Res.rep r3 (fun _ z => nomatch z) (fun _ z => nomatch z)
    obtain ⟨a, xs, rfl, s1, p1⟩ := r3.tup x3.s
    refine .inl ⟨a, xs, rfl, s1.sq, fun hw => ?_, fun _ => newT_rep x13 (repA_cut p1 l h) q⟩
    rw [p1.length] at hw
    rw [cut_whole hw] at q
    exact q _ F3 H3 x13 rt
  | list ds =>
    cases h6
    obtain ⟨a, xs, rfl, s1, p1⟩ := r3.list x3.s
    refine .inr (.inl ⟨a, xs, rfl, s1, ?_⟩)
    refine newL_res x13 (repA_cut p1 l h) fun v F' H' x' r' => ?_
    obtain ⟨F5, x5, r5⟩ := fr_fz x' r'
    exact q v F5 H' x5 r5
  | str z =>
    obtain ⟨hz, rfl⟩ := if_some h6
    exact .inr (.inr ⟨z, r3.str, hz, q _ F3 H3 x13 (Rep.str _)⟩)
  | _ => cases h6⟩
theorem de_slK (K' : PySem.W.Frag) (he : DE X m e te f) (hl : DO X lo tl fl) (hh : DO X hi th fh) (hK : X.K = K' := by rfl) : DE X .fz (.Subscript e (.Slice lo hi none p2) pos) (tSl (rSlC K') te tl th) (fSl f fl fh) := by
  subst hK
  exact de_sl (he := he) (hl := hl) (hh := hh)
/-! ### list(range(..)) -/
theorem repA_rg {K : PySem.W.Frag} {F : Hp} (a b : Int) : RepA K F (rgV a b) (rgD a (b - a).toNat) := by
  unfold rgV rgD
  have e1 : (List.range (b - a).toNat).map (fun i => V.int (a + (i : Nat))) = ((List.range (b - a).toNat).map fun i => (a + (i : Nat))).map V.int := by rw [List.map_map]; rfl
  have e2 : (List.range (b - a).toNat).map (fun i => (.int (a + (i : Nat)) : D)) = ((List.range (b - a).toNat).map fun i => (a + (i : Nat))).map .int := by rw [List.map_map]; rfl
  rw [e1, e2]
  exact RepA.of_ints _
def fLr1 (f : Rho → Option D) : Rho → Option D := fun ρ => (f ρ).bind fun d => match d with
  | .int n => if -(2 ^ 62) ≤ n ∧ n ≤ 16777216 then some (.list (rgD 0 n.toNat)) else none
  | _ => none
theorem de_lr1 {q : Pos} (hg : Gl X "list") (hm : X.mg "list" = none) (hg2 : Gl X "range") (hm2 : X.mg "range" = none) (he : DE X m e te f) (hc : X.calm = true := by rfl) (na : starEach [.Call (.Name "range" p2) [e] [] q] X.env = (false, eval (.Call (.Name "range" p2) [e] [] q) X.env) :: starEach [] X.env := by rfl)
    (na2 : starEach [e] X.env = (false, eval e X.env) :: starEach [] X.env := by rfl) : DE X .fr (.Call (.Name "list" p) [.Call (.Name "range" p2) [e] [] q] [] pos) (tLstRg (tRg1 te)) (fLr1 f) := ⟨pe_listRg hc hg hm (prg_1 hg2 hm2 he.p na2) na, fun B F H σ ρ z Q r hf q => by
  obtain ⟨d, h1, h2⟩ := bind_some hf
  refine he.s B F H σ ρ d _ r h1 fun v F1 H1 x1 r1 => ?_
  cases d with
  | int n =>
    obtain ⟨hn, rfl⟩ := if_some h2
    refine ⟨n, r1.int, ⟨by omega, by omega, by omega, by omega, by omega⟩, ?_⟩
    have ra : RepA X.K F1 (rgV 0 n) (rgD 0 n.toNat) := by have := repA_rg (K := X.K) (F := F1) 0 n; rwa [Int.sub_zero] at this
    exact newL_res x1 ra q
  | _ => cases h2⟩
/-! ### isinstance -/
def tyName : D → String
  | .none => "NoneType"
  | .bool _ => "bool"
  | .int _ => "int"
  | .str _ => "str"
  | .list _ => "list"
  | .tuple _ => "tuple"
  | .dict _ => "dict"
def isiN (a b : String) : Bool := a == b || (a == "bool" && b == "int")
def tyB (b : String) : Bool := ["int", "bool", "str", "list", "tuple", "dict"].contains b
theorem kit_all : (["NoneType", "bool", "int", "str", "list", "tuple"].all fun a => ["int", "bool", "str", "list", "tuple", "dict"].all fun b => decide (kitB a b = some (isiN a b))) = true := by decide +kernel
theorem kit_of2 {K : PySem.W.Frag} {d : D} {b : String} (hd : tyName d ≠ "dict") (hb : tyB b = true) : PySem.W.kitOne K (.type (tyName d)) (.type b) = some (isiN (tyName d) b) := by
  refine kit_ty ?_
  have h := List.all_eq_true.mp kit_all (tyName d) (by cases d <;> first | (simp [tyName]; done) | exact absurd rfl hd)
  exact of_decide_eq_true (List.all_eq_true.mp h b (by simpa [tyB, List.contains_iff_mem] using hb))
theorem tyX_of {K : PySem.W.Frag} {m : Md} {H0 F H : Hp} {x : V} {d : D} (r : Res K m H0 F H x d) (fh : Same F H) (hd : tyName d ≠ "dict") : TyX K H x (.type (tyName d)) := by
  rcases r.any with r | ⟨a, rfl, _, o⟩
  · cases r with
    | non => exact .base .non
    | bl b => exact .base (.bl b)
    | int i => exact .base (.int i)
    | str x => exact .base (.str x)
    | lst h _ =>
      rcases h with (h | ⟨o, h⟩) | ⟨o, its, n, h1, h2, _⟩
      · exact .base (.lst (fh _ _ h))
      · exact .base (.frz (fh _ _ h))
      · exact .kList h1 h2
    | tup h _ =>
      rcases h with ⟨o, h, _⟩ | ⟨o, its, n, h1, h2, _⟩
      · exact .fTuple (fh _ _ h)
      · exact .kTuple h1 h2
    | dct _ _ => exact absurd rfl hd
  · cases d with
    | list ds => obtain ⟨vs, e, _⟩ := o; exact .base (.lst e)
    | dict es => exact absurd rfl hd
    | _ => exact o.elim
/-- isinstance(x, T) -/
def fIsi (b : String) (f : Rho → Option D) : Rho → Option D := fun ρ => (f ρ).bind fun d => match d with
  | .dict _ => none
  | d => some (.bool (isiN (tyName d) b))
theorem isi_some {b : String} {d z : D} (h : (match d with
  | .dict _ => none
  | d => some (.bool (isiN (tyName d) b))) = some z) : tyName d ≠ "dict" ∧ z = .bool (isiN (tyName d) b) := by
  cases d <;> first | (cases h; done) | (cases h; exact ⟨by simp [tyName], rfl⟩)
theorem ld_ty {b : String} {x : Str} {pos : Pos} (hg : Gl X x) (hm : X.mg x = none) (hv : bootBuiltins x = some (.type b)) (hn : x ≠ "__name__") (hdb : (x == ("__debug__" : Str)) = false) : PE X (.Name x pos) (tC (.ty b)) := pe_bltn hg hm hv (show RelV (.ty b) (.type b) from rfl) hn hdb
theorem de_isi {x y : Str} {b : String} {p3 : Pos} (hx : x = "isinstance") (hgi : Gl X x) (hmi : X.mg x = none) (hv0 : bootBuiltins x = some (.builtin "isinstance")) (hg : Gl X y) (hm : X.mg y = none) (hv : bootBuiltins y = some (.type b)) (he : DE X m e te f) (hb : tyB b = true := by decide) (hn0 : x ≠ "__name__" := by decide) (hdb0 : (x == ("__debug__" : Str)) = false := by decide) (hn : y ≠ "__name__" := by decide) (hdb : (y == ("__debug__" : Str)) = false := by decide)
    (s1 : starEach [e, .Name y p3] X.env = (false, eval e X.env) :: starEach [.Name y p3] X.env := by rfl) (s2 : starEach [.Name y p3] X.env = (false, eval (.Name y p3) X.env) :: starEach [] X.env := by rfl) (hpl : (backTo pos (starEach [.Name y p3] X.env)).any (·.1) = false := by rfl) :
    DE X .fz (.Call (.Name x p) [e, .Name y p3] [] pos) (tCB (rIsi X.K) (tCons te (tCons (tC (.ty b)) tNil))) (fIsi b f) :=
  ⟨pe_callB call_isi hgi hmi hv0 (pa_cons he.p (pa_cons (ld_ty hg hm hv hn hdb) pa_nil s2) s1) hn0 hdb0 s1 hpl, fun B F H σ ρ z Q r hf q => by
    obtain ⟨d, h1, h2⟩ := bind_some hf
    obtain ⟨hd, rfl⟩ := isi_some h2
    refine he.s B F H σ ρ d _ r h1 fun v F1 H1 x1 r1 => ?_
    exact ⟨v, .ty b, _, _, _, rfl, .ty b, tyX_of r1 x1.s hd, kit_of2 hd hb, q _ F1 H1 x1 (Rep.bl _)⟩⟩
theorem de_isiK (K' : PySem.W.Frag) {x y : Str} {b : String} {p3 : Pos} (hx : x = "isinstance") (hgi : Gl X x) (hmi : X.mg x = none) (hv0 : bootBuiltins x = some (.builtin "isinstance")) (hg : Gl X y) (hm : X.mg y = none) (hv : bootBuiltins y = some (.type b)) (he : DE X m e te f) (hb : tyB b = true := by decide) (hn0 : x ≠ "__name__" := by decide) (hdb0 : (x == ("__debug__" : Str)) = false := by decide) (hn : y ≠ "__name__" := by decide) (hdb : (y == ("__debug__" : Str)) = false := by decide) (s1 : starEach [e, .Name y p3] X.env = (false, eval e X.env) :: starEach [.Name y p3] X.env := by rfl) (s2 : starEach [.Name y p3] X.env = (false, eval (.Name y p3) X.env) :: starEach [] X.env := by rfl) (hpl : (backTo pos (starEach [.Name y p3] X.env)).any (·.1) = false := by rfl) (hK : X.K = K' := by rfl) : DE X .fz (.Call (.Name x p) [e, .Name y p3] [] pos) (tCB (rIsi K') (tCons te (tCons (tC (.ty b)) tNil))) (fIsi b f) := by
  subst hK
  exact de_isi (hx := hx) (hgi := hgi) (hmi := hmi) (hv0 := hv0) (hg := hg) (hm := hm) (hv := hv) (he := he) (hb := hb) (hn0 := hn0) (hdb0 := hdb0) (hn := hn) (hdb := hdb) (s1 := s1) (s2 := s2) (hpl := hpl)
/-- isinstance(x, (T, U)) -/
def fIsi2 (b c : String) (f : Rho → Option D) : Rho → Option D := fun ρ => (f ρ).bind fun d => match d with
  | .dict _ => none
  | d => some (.bool (isiN (tyName d) b || isiN (tyName d) c))
theorem de_isi2 {x y z : Str} {b c : String} {p3 p4 p5 : Pos} {k : Nat} (hx : x = "isinstance") (hgi : Gl X x) (hmi : X.mg x = none) (hv0 : bootBuiltins x = some (.builtin "isinstance")) (hg : Gl X y) (hm : X.mg y = none) (hv : bootBuiltins y = some (.type b)) (hg' : Gl X z) (hm' : X.mg z = none) (hv' : bootBuiltins z = some (.type c)) (he : DE X m e te f) (hb : tyB b = true := by decide) (hc : tyB c = true := by decide)
    (hn0 : x ≠ "__name__" := by decide) (hdb0 : (x == ("__debug__" : Str)) = false := by decide) (hn : y ≠ "__name__" := by decide) (hdb : (y == ("__debug__" : Str)) = false := by decide) (hn' : z ≠ "__name__" := by decide) (hdb' : (z == ("__debug__" : Str)) = false := by decide)
    (s1 : starEach [e, .Tuple [.Name y p3, .Name z p4] k p5] X.env = (false, eval e X.env) :: starEach [.Tuple [.Name y p3, .Name z p4] k p5] X.env := by rfl) (s2 : starEach [.Tuple [.Name y p3, .Name z p4] k p5] X.env = (false, eval (.Tuple [.Name y p3, .Name z p4] k p5) X.env) :: starEach [] X.env := by rfl) (hpl : (backTo pos (starEach [.Tuple [.Name y p3, .Name z p4] k p5] X.env)).any (·.1) = false := by rfl)
    (s3 : starEach [.Name y p3, .Name z p4] X.env = (false, eval (.Name y p3) X.env) :: starEach [.Name z p4] X.env := by rfl) (s4 : starEach [.Name z p4] X.env = (false, eval (.Name z p4) X.env) :: starEach [] X.env := by rfl) :
    DE X .fz (.Call (.Name x p) [e, .Tuple [.Name y p3, .Name z p4] k p5] [] pos) (tCB (rIsiT X.K) (tCons te (tCons (tTup (tCons (tC (.ty b)) (tCons (tC (.ty c)) tNil))) tNil))) (fIsi2 b c f) :=
  ⟨pe_callB call_isiT hgi hmi hv0 (pa_cons he.p (pa_cons (pe_tup (pa_cons (ld_ty hg hm hv hn hdb) (pa_cons (ld_ty hg' hm' hv' hn' hdb') pa_nil s4) s3)) pa_nil s2) s1) hn0 hdb0 s1 hpl, fun B F H σ ρ zz Q r hf q => by
    obtain ⟨d, h1, h2⟩ := bind_some hf
    have hd : tyName d ≠ "dict" ∧ zz = .bool (isiN (tyName d) b || isiN (tyName d) c) := by
      cases d <;> first | (cases h2; done) | (cases h2; exact ⟨by simp [tyName], rfl⟩)
    obtain ⟨hd, rfl⟩ := hd
    refine he.s B F H σ ρ d _ r h1 fun v F1 H1 x1 r1 => ⟨by show 2 ≤ sizeLine; decide, fun tp htp => ?_⟩
    have x2 := ext_own (o := .tup [.ty b, .ty c]) x1 htp
    have ty : TyX X.K (upd H1 tp (.tup [.ty b, .ty c])) v (.type (tyName d)) := tyX_of (r1.mono (ext_own (o := .tup [.ty b, .ty c]) (.refl x1.s) htp)) x2.s hd
    refine ⟨v, tp, _, _, [.type b, .type c], isiN (tyName d) b || isiN (tyName d) c, rfl, upd_same, .cons (.ty b) (.cons (.ty c) .nil), ty, ?_, q _ F1 _ x2 (Rep.bl _)⟩
    refine kitAny_cons (kit_of2 hd hb) (fun e1 => ?_) (fun e1 => by rw [e1]; rfl)
    rw [e1, Bool.false_or]
    refine kitAny_cons (kit_of2 hd hc) (fun e2 => ?_) (fun e2 => e2)
    rw [e2]
    rfl⟩
theorem de_isi2K (K' : PySem.W.Frag) {x y z : Str} {b c : String} {p3 p4 p5 : Pos} {k : Nat} (hx : x = "isinstance") (hgi : Gl X x) (hmi : X.mg x = none) (hv0 : bootBuiltins x = some (.builtin "isinstance")) (hg : Gl X y) (hm : X.mg y = none) (hv : bootBuiltins y = some (.type b)) (hg' : Gl X z) (hm' : X.mg z = none) (hv' : bootBuiltins z = some (.type c)) (he : DE X m e te f) (hb : tyB b = true := by decide) (hc : tyB c = true := by decide) (hn0 : x ≠ "__name__" := by decide) (hdb0 : (x == ("__debug__" : Str)) = false := by decide) (hn : y ≠ "__name__" := by decide) (hdb : (y == ("__debug__" : Str)) = false := by decide) (hn' : z ≠ "__name__" := by decide) (hdb' : (z == ("__debug__" : Str)) = false := by decide) (s1 : starEach [e, .Tuple [.Name y p3, .Name z p4] k p5] X.env = (false, eval e X.env) :: starEach [.Tuple [.Name y p3, .Name z p4] k p5] X.env := by rfl) (s2 : starEach [.Tuple [.Name y p3, .Name z p4] k p5] X.env = (false, eval (.Tuple [.Name y p3, .Name z p4] k p5) X.env) :: starEach [] X.env := by rfl) (hpl : (backTo pos (starEach [.Tuple [.Name y p3, .Name z p4] k p5] X.env)).any (·.1) = false := by rfl) (s3 : starEach [.Name y p3, .Name z p4] X.env = (false, eval (.Name y p3) X.env) :: starEach [.Name z p4] X.env := by rfl) (s4 : starEach [.Name z p4] X.env = (false, eval (.Name z p4) X.env) :: starEach [] X.env := by rfl) (hK : X.K = K' := by rfl) : DE X .fz (.Call (.Name x p) [e, .Tuple [.Name y p3, .Name z p4] k p5] [] pos) (tCB (rIsiT K') (tCons te (tCons (tTup (tCons (tC (.ty b)) (tCons (tC (.ty c)) tNil))) tNil))) (fIsi2 b c f) := by
  subst hK
  exact de_isi2 (hx := hx) (hgi := hgi) (hmi := hmi) (hv0 := hv0) (hg := hg) (hm := hm) (hv := hv) (hg' := hg') (hm' := hm') (hv' := hv') (he := he) (hb := hb) (hc := hc) (hn0 := hn0) (hdb0 := hdb0) (hn := hn) (hdb := hdb) (hn' := hn') (hdb' := hdb') (s1 := s1) (s2 := s2) (hpl := hpl) (s3 := s3) (s4 := s4)
end
/-! ### methods that change a list -/
section
variable {X : Cx} {m m1 : Md} {e : Expr} {te : TE} {f : Rho → Option D} {p p2 pos apos : Pos} {j : Nat} {x : Str}
theorem tyL {K : PySem.W.Frag} {H : Hp} {a : Addr} {xs : List V} (h : H a = some (.lst xs)) : tyV K "list" (.ref a) H := .inl ⟨rfl, xs, .of h⟩
/-- the owned list of a name -/
theorem Rel.own {K : PySem.W.Frag} {B : Bs} {F H : Hp} {σ : L2.St} {ρ : Rho} (r : Rel K B F H σ ρ) {ds : List D} (h : ρ[j]? = some (.ow (.list ds))) : ∃ a vs, σ[j]? = some (some (.ref a)) ∧ F a = none ∧ B.G a = none ∧ H a = some (.lst vs) ∧ RepA K F vs ds := by
  obtain ⟨o, e, a, rfl, h1, h2, vs, h3, h4⟩ := r.at h
  exact ⟨a, vs, e, h1, h2, h3, h4⟩
def bApp (j : Nat) (f : Rho → Option D) : Bd := fun ρ => match ρ[j]? with
  | some (.ow (.list ds)) => (f ρ).bind fun d => if ds.length < sizeLine then some (.nx (ρ.set j (.ow (.list (ds ++ [d]))))) else none
  | _ => none
theorem app_some {j : Nat} {f : Rho → Option D} {ρ : Rho} {o : Out} (h : bApp j f ρ = some o) : ∃ ds d, ρ[j]? = some (.ow (.list ds)) ∧ f ρ = some d ∧ ds.length < sizeLine ∧ o = .nx (ρ.set j (.ow (.list (ds ++ [d])))) := by
  unfold bApp at h
  split at h
  · rename_i ds e
    obtain ⟨d, h1, h2⟩ := bind_some h
    obtain ⟨h3, rfl⟩ := if_some h2
    exact ⟨ds, d, e, h1, h3, rfl⟩
  · cases h
theorem sem_app {K : PySem.W.Frag} (h : SemE K .fz te f) : SemS K m [] (tDrop (tBM K "list" rAppend (tVar j) (tCons te tNil))) (bApp j f) := by
  intro B F H σ ρ o D r hb q
  obtain ⟨ds, d, e1, e2, hl, rfl⟩ := app_some hb
  obtain ⟨a, vs, h1, h2, h3, h4, h5⟩ := r.own e1
  refine ⟨_, h1, tyL h4, ?_⟩
  refine h B F H σ ρ d _ r e2 fun v F1 H1 x1 r1 => ?_
  have h6 := x1.h _ _ h4
  refine ⟨a, vs, v, rfl, rfl, h6, by rw [h5.length]; exact hl, ?_⟩
  have hF1 : F1 a = none := x1.keepNone h2 (by rw [h4]; exact fun z => nomatch z)
  exact q σ F1 _ ((r.ext x1).write e1 h1 hF1 h3 ⟨vs ++ [v], upd_same, (h5.mono x1.f).append (.cons r1 .nil)⟩) fun _ _ => rfl
theorem pe_app {a : Expr} {r : V → List V → Hp → VK → Prop} {id : String} {name : Str} {ta : TE} {t : TA} {e : Expr} {es : List Expr} (slot : Slot "list" name id) (hty : typeOf (.builtin id) = pure (.type "method_descriptor")) (hm : MtR X id r) (ho : PE X a ta) (ha : PA X (e :: es) t)
    (hbase : attributeBase a name X.env (eval a X.env) = eval a X.env := by rfl)
    (hfew : ((backTo p (starEach (e :: es) X.env)).all (fun x => !x.1) && (backToKw p (keywordEach [] X.env)).all (fun x => x.1.isSome)
      && decide ((e :: es).length + ([] : List Keyword).length + (if ([] : List Keyword).isEmpty then 0 else 1) < 30)) = true := by rfl)
    (hline : (apos.endLine == p.line) = true := by rfl) (hs : starEach (e :: es) X.env = (false, eval e X.env) :: starEach es X.env := by rfl) (hplain : (backTo p (starEach es X.env)).any (·.1) = false := by rfl) :
    PE X (.Call (.Attribute a name apos) (e :: es) [] p) (tBM X.K "list" r ta t) := pe_bm PySem.F.plainAttrs_list slot hty hm ho ha hbase hfew hline hs hplain
/-- x.append(e) -/
theorem ds_app {pn : Pos} (he : DE X .fz e te f) (hN : X.N[j]? = some x := by rfl) (hv : Vis X.env.scope x := by first | exact Or.inl rfl | exact Or.inr (Or.inl rfl) | exact Or.inr (Or.inr rfl)) (hd : (x == ("__debug__" : Str)) = false := by decide) (hcd : (x == ("__classdict__" : Str)) = false := by decide)
    (hbase : attributeBase (.Name x pn) "append" X.env (eval (.Name x pn) X.env) = eval (.Name x pn) X.env := by rfl)
    (hfew : ((backTo p (starEach [e] X.env)).all (fun x => !x.1) && (backToKw p (keywordEach [] X.env)).all (fun x => x.1.isSome)
      && decide ([e].length + ([] : List Keyword).length + (if ([] : List Keyword).isEmpty then 0 else 1) < 30)) = true := by rfl)
    (hline : (apos.endLine == p.line) = true := by rfl) (hs : starEach [e] X.env = (false, eval e X.env) :: starEach [] X.env := by rfl) (hsw : swapsWith (.Call (.Attribute (.Name x pn) "append" apos) [e] [] p) none pos.line X.env = pure false := by rfl) :
    DS X m [] (.Expr (.Call (.Attribute (.Name x pn) "append" apos) [e] [] p) pos) (tDrop (tBM X.K "list" rAppend (tVar j) (tCons te tNil))) (bApp j f) :=
  ⟨ps_expr (pe_bm PySem.F.plainAttrs_list PySem.F.slot_list_append PySem.F.type_list_append mt_append (pe_var hN hv hd hcd) (pa_cons he.p pa_nil hs) hbase hfew hline hs rfl) hsw, sem_app he.s⟩
/-! effects within expressions -/
def SemX (K : PySem.W.Frag) (t : TE) (f : Rho → Option (D × Rho)) : Prop :=
  ∀ (B : Bs) (F H : Hp) (σ : L2.St) (ρ ρ' : Rho) (d : D) (Q : VK), Rel K B F H σ ρ → f ρ = some (d, ρ') → (∀ v F' H', Rel K B F' H' σ ρ' → Same F F' → Rep K F' v d → Q v H') → t σ H Q
structure DX (X : Cx) (e : Expr) (t : TE) (f : Rho → Option (D × Rho)) : Prop where
  p : PE X e t
  s : SemX X.K t f
def xPop (j : Nat) : Rho → Option (D × Rho) := fun ρ => match ρ[j]? with
  | some (.ow (.list ds)) => (ds[ds.length - 1]?).map fun d => (d, ρ.set j (.ow (.list ds.dropLast)))
  | _ => none
theorem dx_pop {pn : Pos} (hN : X.N[j]? = some x := by rfl) (hv : Vis X.env.scope x := by first | exact Or.inl rfl | exact Or.inr (Or.inl rfl) | exact Or.inr (Or.inr rfl)) (hd : (x == ("__debug__" : Str)) = false := by decide) (hcd : (x == ("__classdict__" : Str)) = false := by decide)
    (hbase : attributeBase (.Name x pn) "pop" X.env (eval (.Name x pn) X.env) = eval (.Name x pn) X.env := by rfl) (hline : (apos.endLine == p.line) = true := by rfl) :
    DX X (.Call (.Attribute (.Name x pn) "pop" apos) [] [] p) (tBM0 X.K "list" rPop (tVar j)) (xPop j) :=
  ⟨pe_bm0 PySem.F.plainAttrs_list PySem.F.slot_list_pop PySem.F.type_list_pop mt_pop (pe_var hN hv hd hcd) hbase hline, fun B F H σ ρ ρ' d Q r hf q => by
    unfold xPop at hf
    split at hf
    · rename_i ds e1
      obtain ⟨d', e2, e3⟩ := Option.map_eq_some_iff.mp hf
      cases e3
      obtain ⟨a, vs, h1, h2, h3, h4, h5⟩ := r.own e1
      obtain ⟨v, h6, h7⟩ := h5.get e2
      refine ⟨_, h1, tyL h4, a, vs, v, rfl, rfl, h4, by rw [h5.length]; exact h6, ?_⟩
      exact q v F _ (r.write e1 h1 h2 h3 ⟨vs.dropLast, upd_same, h5.dropLast⟩) (.refl _) h7
    · cases hf⟩
def xPopAt (j : Nat) (f : Rho → Option D) : Rho → Option (D × Rho) := fun ρ => match ρ[j]? with
  | some (.ow (.list ds)) => (f ρ).bind fun i => match i with
    | .int i => if -(2 ^ 63) ≤ i ∧ i < 2 ^ 63 then (seqIndex? i ds.length).bind fun k => (ds[k]?).map fun d => (d, ρ.set j (.ow (.list (ds.eraseIdx k)))) else none
    | _ => none
  | _ => none
theorem dx_popAt {pn : Pos} (he : DE X m e te f) (hN : X.N[j]? = some x := by rfl) (hv : Vis X.env.scope x := by first | exact Or.inl rfl | exact Or.inr (Or.inl rfl) | exact Or.inr (Or.inr rfl)) (hd : (x == ("__debug__" : Str)) = false := by decide) (hcd : (x == ("__classdict__" : Str)) = false := by decide)
    (hbase : attributeBase (.Name x pn) "pop" X.env (eval (.Name x pn) X.env) = eval (.Name x pn) X.env := by rfl)
    (hfew : ((backTo p (starEach [e] X.env)).all (fun x => !x.1) && (backToKw p (keywordEach [] X.env)).all (fun x => x.1.isSome)
      && decide ([e].length + ([] : List Keyword).length + (if ([] : List Keyword).isEmpty then 0 else 1) < 30)) = true := by rfl)
    (hline : (apos.endLine == p.line) = true := by rfl) (hs : starEach [e] X.env = (false, eval e X.env) :: starEach [] X.env := by rfl) :
    DX X (.Call (.Attribute (.Name x pn) "pop" apos) [e] [] p) (tBM X.K "list" rPopAt (tVar j) (tCons te tNil)) (xPopAt j f) :=
  ⟨pe_bm PySem.F.plainAttrs_list PySem.F.slot_list_pop PySem.F.type_list_pop mt_popAt (pe_var hN hv hd hcd) (pa_cons he.p pa_nil hs) hbase hfew hline hs rfl, fun B F H σ ρ ρ' d Q r hf q => by
    unfold xPopAt at hf
    split at hf
    · rename_i ds e1
      obtain ⟨i, e2, e3⟩ := bind_some hf
      obtain ⟨a, vs, h1, h2, h3, h4, h5⟩ := r.own e1
      refine ⟨_, h1, tyL h4, ?_⟩
      refine he.s B F H σ ρ i _ r e2 fun v F1 H1 x1 r1 => ?_
      cases i with
      | int i =>
        have e3' : (if -(2 ^ 63) ≤ i ∧ i < 2 ^ 63 then (seqIndex? i ds.length).bind fun k => (ds[k]?).map fun d => (d, ρ.set j (.ow (.list (ds.eraseIdx k)))) else none) = some (d, ρ') := e3
        by_cases hb : -(2 ^ 63) ≤ i ∧ i < 2 ^ 63
        · rw [if_pos hb] at e3'
          obtain ⟨k, e4, e5⟩ := bind_some e3'
          obtain ⟨d', e6, e7⟩ := Option.map_eq_some_iff.mp e5
          cases e7
          obtain ⟨w, h6, h7⟩ := h5.get e6
          have h8 := x1.h _ _ h4
          have hF1 : F1 a = none := x1.keepNone h2 (by rw [h4]; exact fun z => nomatch z)
          refine ⟨a, vs, i, k, w, rfl, by rw [r1.int], h8, hb.1, hb.2, by rw [h5.length]; exact e4, h6, ?_⟩
          exact q w F1 _ ((r.ext x1).write e1 h1 hF1 h3 ⟨vs.eraseIdx k, upd_same, (h5.mono x1.f).eraseIdx k⟩) x1.f (h7.mono x1.f)
        · rw [if_neg hb] at e3'; cases e3'
      | _ => cases e3
    · cases hf⟩
variable {fx : Rho → Option (D × Rho)}
/-- x = (an expression with an effect) -/
def bAsgX (i : Nat) (f : Rho → Option (D × Rho)) : Bd := fun ρ => (f ρ).bind fun z => some (.nx (z.2.set i (.im z.1)))
theorem sem_asgX {K : PySem.W.Frag} {i : Nat} (h : SemX K te fx) : SemS K m [i] (tAsg te (gName i)) (bAsgX i fx) := by
  intro B F H σ ρ o D r hb q
  obtain ⟨⟨d, ρ'⟩, h1, h2⟩ := bind_some hb
  cases h2
  exact h B F H σ ρ ρ' d _ r h1 fun v F1 H1 r1 _ rv => q _ F1 H1 (r1.setIm rv) set_keep
theorem ds_asgX {i : Nat} {x : Str} {pos' : Pos} (he : DX X e te fx) (hN : X.N.Nodup) (hi : X.N[i]? = some x := by rfl) (hx : Loc X.env.scope x := by first | exact Or.inl rfl | exact Or.inr rfl) (hs : swapsWith e (some (.Name x pos')) pos.line X.env = pure false := by rfl)
    (hf : X.fn x = true ∨ X.env.scope.names.lookup x = some .local := by first | exact .inl rfl | exact .inr rfl) : DS X m [i] (.Assign [.Name x pos'] e pos) (tAsg te (gName i)) (bAsgX i fx) := ⟨ps_set hN hi hx he.p hs hf, sem_asgX he.s⟩
/-- y.append(an expression with an effect) -/
def bAppX (j : Nat) (f : Rho → Option (D × Rho)) : Bd := fun ρ => (f ρ).bind fun z => match ρ[j]?, z.2[j]? with
  | some (.ow (.list _)), some (.ow (.list ds)) => if ds.length < sizeLine then some (.nx (z.2.set j (.ow (.list (ds ++ [z.1]))))) else none
  | _, _ => none
theorem sem_appX {K : PySem.W.Frag} (h : SemX K te fx) : SemS K m [] (tDrop (tBM K "list" rAppend (tVar j) (tCons te tNil))) (bAppX j fx) := by
  intro B F H σ ρ o D r hb q
  obtain ⟨⟨d, ρ'⟩, h1, h2⟩ := bind_some hb
  simp only at h2
  split at h2
  · rename_i ds0 ds e0 e1
    obtain ⟨hl, rfl⟩ := if_some h2
    obtain ⟨a, vs0, g1, g2, g3, g4, g5⟩ := r.own e0
    refine ⟨_, g1, tyL g4, ?_⟩
    refine h B F H σ ρ ρ' d _ r h1 fun v F1 H1 r1 s1 rv => ?_
    obtain ⟨a', vs, k1, k2, k3, k4, k5⟩ := r1.own e1
    rw [g1] at k1
    cases k1
    refine ⟨a, vs, v, rfl, rfl, k4, by rw [k5.length]; exact hl, ?_⟩
    exact q σ F1 _ (r1.write e1 g1 k2 k3 ⟨vs ++ [v], upd_same, k5.append (.cons rv .nil)⟩) fun _ _ => rfl
  · cases h2
theorem ds_appX {pn : Pos} (he : DX X e te fx) (hN : X.N[j]? = some x := by rfl) (hv : Vis X.env.scope x := by first | exact Or.inl rfl | exact Or.inr (Or.inl rfl) | exact Or.inr (Or.inr rfl)) (hd : (x == ("__debug__" : Str)) = false := by decide) (hcd : (x == ("__classdict__" : Str)) = false := by decide)
    (hbase : attributeBase (.Name x pn) "append" X.env (eval (.Name x pn) X.env) = eval (.Name x pn) X.env := by rfl)
    (hfew : ((backTo p (starEach [e] X.env)).all (fun x => !x.1) && (backToKw p (keywordEach [] X.env)).all (fun x => x.1.isSome)
      && decide ([e].length + ([] : List Keyword).length + (if ([] : List Keyword).isEmpty then 0 else 1) < 30)) = true := by rfl)
    (hline : (apos.endLine == p.line) = true := by rfl) (hs : starEach [e] X.env = (false, eval e X.env) :: starEach [] X.env := by rfl) (hsw : swapsWith (.Call (.Attribute (.Name x pn) "append" apos) [e] [] p) none pos.line X.env = pure false := by rfl) :
    DS X m [] (.Expr (.Call (.Attribute (.Name x pn) "append" apos) [e] [] p) pos) (tDrop (tBM X.K "list" rAppend (tVar j) (tCons te tNil))) (bAppX j fx) :=
  ⟨ps_expr (pe_bm PySem.F.plainAttrs_list PySem.F.slot_list_append PySem.F.type_list_append mt_append (pe_var hN hv hd hcd) (pa_cons he.p pa_nil hs) hbase hfew hline hs rfl) hsw, sem_appX he.s⟩
/-- y.append(x), x owned: frozen first -/
def bAppMv (j i : Nat) : Bd := fun ρ => match ρ[j]?, ρ[i]? with
  | some (.ow (.list ds)), some (.ow d) => if i ≠ j ∧ ds.length < sizeLine then some (.nx ((ρ.set i (.im d)).set j (.ow (.list (ds ++ [d]))))) else none
  | some (.ow (.list ds)), some (.im d) => if ds.length < sizeLine then some (.nx (ρ.set j (.ow (.list (ds ++ [d]))))) else none
  | _, _ => none
theorem sem_appMv {K : PySem.W.Frag} {i : Nat} : SemS K m [] (tDrop (tBM K "list" rAppend (tVar j) (tCons (tVar i) tNil))) (bAppMv j i) := by
  intro B F H σ ρ o D r hb q
  unfold bAppMv at hb
  split at hb
  · rename_i ds d e0 e1
    obtain ⟨⟨hij, hl⟩, rfl⟩ := if_some hb
    obtain ⟨a, vs, h1, h2, h3, h4, h5⟩ := r.own e0
    obtain ⟨F', v, s1, g1, g2, r2⟩ := r.freeze e1
    have e0' : (ρ.set i (.im d))[j]? = some (.ow (.list ds)) := by rw [List.getElem?_set_ne hij]; exact e0
    obtain ⟨a', vs', k1, k2, k3, k4, k5⟩ := r2.own e0'
    rw [h1] at k1
    cases k1
    refine ⟨_, h1, tyL h4, v, g1, a, vs', v, rfl, rfl, k4, by rw [k5.length]; exact hl, ?_⟩
    exact q σ F' _ (r2.write e0' h1 k2 k3 ⟨vs' ++ [v], upd_same, k5.append (.cons g2 .nil)⟩) fun _ _ => rfl
  · rename_i ds d e0 e1
    obtain ⟨hl, rfl⟩ := if_some hb
    obtain ⟨a, vs, h1, h2, h3, h4, h5⟩ := r.own e0
    obtain ⟨oo, g1, v, rfl, g2⟩ := r.at e1
    refine ⟨_, h1, tyL h4, v, g1, a, vs, v, rfl, rfl, h4, by rw [h5.length]; exact hl, ?_⟩
    exact q σ F _ (r.write e0 h1 h2 h3 ⟨vs ++ [v], upd_same, h5.append (.cons g2 .nil)⟩) fun _ _ => rfl
  · cases hb
theorem ds_appMv {i : Nat} {y : Str} {pn pm : Pos} (hN : X.N[j]? = some x := by rfl) (hv : Vis X.env.scope x := by first | exact Or.inl rfl | exact Or.inr (Or.inl rfl) | exact Or.inr (Or.inr rfl)) (hd : (x == ("__debug__" : Str)) = false := by decide) (hcd : (x == ("__classdict__" : Str)) = false := by decide)
    (hNi : X.N[i]? = some y := by rfl) (hvi : Vis X.env.scope y := by first | exact Or.inl rfl | exact Or.inr (Or.inl rfl) | exact Or.inr (Or.inr rfl)) (hdi : (y == ("__debug__" : Str)) = false := by decide) (hcdi : (y == ("__classdict__" : Str)) = false := by decide)
    (hbase : attributeBase (.Name x pn) "append" X.env (eval (.Name x pn) X.env) = eval (.Name x pn) X.env := by rfl)
    (hfew : ((backTo p (starEach [.Name y pm] X.env)).all (fun x => !x.1) && (backToKw p (keywordEach [] X.env)).all (fun x => x.1.isSome)
      && decide ([Expr.Name y pm].length + ([] : List Keyword).length + (if ([] : List Keyword).isEmpty then 0 else 1) < 30)) = true := by rfl)
    (hline : (apos.endLine == p.line) = true := by rfl) (hs : starEach [.Name y pm] X.env = (false, eval (.Name y pm) X.env) :: starEach [] X.env := by rfl) (hsw : swapsWith (.Call (.Attribute (.Name x pn) "append" apos) [.Name y pm] [] p) none pos.line X.env = pure false := by rfl) :
    DS X m [] (.Expr (.Call (.Attribute (.Name x pn) "append" apos) [.Name y pm] [] p) pos) (tDrop (tBM X.K "list" rAppend (tVar j) (tCons (tVar i) tNil))) (bAppMv j i) :=
  ⟨ps_expr (pe_bm PySem.F.plainAttrs_list PySem.F.slot_list_append PySem.F.type_list_append mt_append (pe_var hN hv hd hcd) (pa_cons (pe_var hNi hvi hdi hcdi) pa_nil hs) hbase hfew hline hs rfl) hsw, sem_appMv⟩
/-! x[i] = e -/
def bSet (j : Nat) (fi f : Rho → Option D) : Bd := fun ρ => (f ρ).bind fun d => match ρ[j]? with
  | some (.ow (.list ds)) => (fi ρ).bind fun i => match i with
    | .int i => (ixN ds.length i).bind fun k => some (.nx (ρ.set j (.ow (.list (ds.set k d)))))
    | _ => none
  | _ => none
theorem sem_set {K : PySem.W.Frag} {ti : TE} {fi : Rho → Option D} (h : SemE K .fz te f) (hi : SemE K m1 ti fi) : SemS K m [] (tAsg te (gSub (tVar j) ti rSetL)) (bSet j fi f) := by
  intro B F H σ ρ o D r hb q
  obtain ⟨d, h1, h2⟩ := bind_some hb
  split at h2
  · rename_i ds e1
    obtain ⟨i, h3, h4⟩ := bind_some h2
    refine h B F H σ ρ d _ r h1 fun v F1 H1 x1 r1 => ?_
    obtain ⟨a, vs, g1, g2, g3, g4, g5⟩ := (r.ext x1).own e1
    refine ⟨_, g1, ?_⟩
    refine hi B F1 H1 σ ρ i _ (r.ext x1) h3 fun w F2 H2 x2 r2 => ?_
    cases i with
    | int i =>
      obtain ⟨k, h5, h6⟩ := bind_some h4
      cases h6
      have hF2 : F2 a = none := x2.keepNone g2 (by rw [g4]; exact fun z => nomatch z)
      refine ⟨a, vs, i, k, rfl, r2.int, x2.h _ _ g4, by rw [g5.length]; exact h5, ?_⟩
      exact q σ F2 _ (((r.ext x1).ext x2).write e1 g1 hF2 g3 ⟨vs.set k v, upd_same, (g5.mono x2.f).set k (Rep.mono x2.f r1)⟩) fun _ _ => rfl
    | _ => cases h4
  · cases h2
theorem ds_set {i : Expr} {ti : TE} {fi : Rho → Option D} {pn : Pos} (he : DE X .fz e te f) (hi : DE X m1 i ti fi) (hN : X.N[j]? = some x := by rfl) (hv : Vis X.env.scope x := by first | exact Or.inl rfl | exact Or.inr (Or.inl rfl) | exact Or.inr (Or.inr rfl)) (hd : (x == ("__debug__" : Str)) = false := by decide) (hcd : (x == ("__classdict__" : Str)) = false := by decide)
    (ha : ∀ v, assign (.Subscript (.Name x pn) i p) X.env v = (do
      let ov ← holding [v] (eval (.Name x pn) X.env)
      let iv ← holding [v, ov] (eval i X.env)
      standAt p
      holding [v, ov, iv] (setItem ov iv v)
      release [v, ov, iv] []) := by intro _; rfl) (hs : swapsWithSole [.Subscript (.Name x pn) i p] e pos.line X.env = pure false := by rfl) (hw : swappedStores [.Subscript (.Name x pn) i p] e X.env = pure none := by rfl)
    (h1 : (assignEach [.Subscript (.Name x pn) i p] X.env).map (·.2) = [assign (.Subscript (.Name x pn) i p) X.env] := by rfl) : DS X m [] (.Assign [.Subscript (.Name x pn) i p] e pos) (tAsg te (gSub (tVar j) ti rSetL)) (bSet j fi f) :=
  ⟨ps_asg he.p (pg_sub (pe_var hN hv hd hcd) hi.p set_list ha) hs hw h1, sem_set he.s hi.s⟩
/-! x += e, x a number or a text -/
def augD (op : D → D → Option D) (i : Nat) (f : Rho → Option D) : Bd := fun ρ => match ρ[i]? with
  | some (.im d) => (f ρ).bind fun e => (op d e).bind fun z => some (.nx (ρ.set i (.im z)))
  | _ => none
theorem sem_aug {K : PySem.W.Frag} {i : Nat} {r2 : R2} {g : D → D → Option D} (hs : OpS K .fz r2 g) (h : SemE K m1 te f) : SemS K m [i] (tAug i te r2) (augD g i f) := by
  intro B F H σ ρ o D r hb q
  unfold augD at hb
  split at hb
  · rename_i d e1
    obtain ⟨e, h1, h2⟩ := bind_some hb
    obtain ⟨z, h3, h4⟩ := bind_some h2
    cases h4
    obtain ⟨oo, g1, v, rfl, g2⟩ := r.at e1
    refine ⟨v, g1, ?_⟩
    refine h B F H σ ρ e _ r h1 fun w F1 H1 x1 r1 => ?_
    exact hs F1 H1 H H v w d e z _ x1.s (Or.inl (g2.mono x1.f)) r1.any h3 fun u F2 H2 x2 r3 => q _ F2 H2 (((r.ext x1).ext x2).setIm r3) set_keep
  · cases hb
def addS : D → D → Option D
  | .int i, .int j => some (.int (i + j))
  | .str a, .str b => if a.length + b.length ≤ sizeLine then some (.str (a ++ b)) else none
  | _, _ => none
def rAddS : R2 := fun x y H Q => rI0 (fun i j => .int (i + j)) x y H Q ∨ (∃ i j, x = .str i ∧ y = .str j ∧ i.length + j.length ≤ sizeLine ∧ Q (.str (i ++ j)) H)
theorem iop_addS : OpR X (inplaceOp .Add) rAddS := iop_add.or iop_add_str
theorem ops_addS {K : PySem.W.Frag} : OpS K .fz rAddS addS := by
  intro F H Ha Hb x y d e z Q fh r1 r2 hz q
  cases d with
  | int i =>
    cases e with
    | int j => cases hz; exact .inl ⟨i, j, r1.int, r2.int, q _ F H (.refl fh) (Rep.int _)⟩
    | _ => cases hz
  | str i =>
    cases e with
    | str j =>
      obtain ⟨hl, rfl⟩ := if_some hz
      exact .inr ⟨i, j, r1.str, r2.str, hl, q _ F H (.refl fh) (Rep.str _)⟩
    | _ => cases hz
  | _ => cases hz
theorem ds_augAdd {i : Nat} {pos' : Pos} (he : DE X m1 e te f) (hN : X.N.Nodup) (hi : X.N[i]? = some x := by rfl) (hx : Loc X.env.scope x := by first | exact Or.inl rfl | exact Or.inr rfl)
    (hf : X.fn x = true ∨ X.env.scope.names.lookup x = some .local := by first | exact .inl rfl | exact .inr rfl) : DS X m [i] (.AugAssign (.Name x pos') .Add e pos) (tAug i te rAddS) (augD addS i f) := ⟨ps_aug hN hi hx he.p iop_addS hf, sem_aug ops_addS he.s⟩
theorem ds_augSub {i : Nat} {pos' : Pos} (he : DE X m1 e te f) (hN : X.N.Nodup) (hi : X.N[i]? = some x := by rfl) (hx : Loc X.env.scope x := by first | exact Or.inl rfl | exact Or.inr rfl)
    (hf : X.fn x = true ∨ X.env.scope.names.lookup x = some .local := by first | exact .inl rfl | exact .inr rfl) : DS X m [i] (.AugAssign (.Name x pos') .Sub e pos) (tAug i te (rI0 fun i j => .int (i - j))) (augD subD i f) := ⟨ps_aug hN hi hx he.p iop_sub hf, sem_aug ops_sub he.s⟩
/-- an expression for nothing -/
def bDrop (f : Rho → Option D) : Bd := fun ρ => (f ρ).bind fun _ => some (.nx ρ)
theorem ds_drop (he : DE X m1 e te f) (hs : swapsWith e none pos.line X.env = pure false := by rfl) : DS X m [] (.Expr e pos) (tDrop te) (bDrop f) := ⟨ps_expr he.p hs, fun B F H σ ρ o D r hb q => by
  obtain ⟨d, h1, h2⟩ := bind_some hb
  cases h2
  exact he.s B F H σ ρ d _ r h1 fun v F1 H1 x1 r1 => q σ F1 H1 (r.ext x1) fun _ _ => rfl⟩
theorem ds_doc {z : Str} {k : Nat} {p' : Pos} : DS X m [] (.Expr (.Constant (.str z) k p') pos) tNext bNext := ⟨ps_doc, fun B F H σ ρ o D r hb e => by cases hb; exact e σ F H r fun _ _ => rfl⟩
/-! (*xs, e) -/
def aStar (f : Rho → Option D) (fs : Rho → Option (List D)) : Rho → Option (List D) := fun ρ => (f ρ).bind fun d => (itemsD d).bind fun ds => (fs ρ).bind fun es => some (ds ++ es)
/-- a row with stars: no length known -/
structure DAs (X : Cx) (m : Md) (es : List Expr) (t : TA) (f : Rho → Option (List D)) : Prop where
  p : PA X es t
  s : SemA X.K m t f
variable {es : List Expr} {t : TA} {fs : Rho → Option (List D)}
theorem das_nil : DAs X m [] tNil aNil := ⟨pa_nil, (da_nil (X := X)).s⟩
theorem sem_cons {K : PySem.W.Frag} (ha : SemE K m te f) (hr : SemA K m t fs) : SemA K m (tCons te t) (aCons f fs) := fun B F H σ ρ ds Q rel hf q => by
  obtain ⟨d, h1, h2⟩ := bind_some hf
  obtain ⟨ds', h3, h4⟩ := bind_some h2
  cases h4
  refine ha B F H σ ρ d _ rel h1 fun x F1 H1 x1 r1 => ?_
  exact hr B F1 H1 σ ρ ds' _ (rel.ext x1) h3 fun xs F2 H2 x2 r2 => q _ F2 H2 (x1.trans x2) (.cons (r1.mono x2) (r2.back x1.h))
theorem das_cons (ha : DE X m e te f) (hr : DAs X m es t fs) (hs : starEach (e :: es) X.env = (false, eval e X.env) :: starEach es X.env := by rfl) : DAs X m (e :: es) (tCons te t) (aCons f fs) := ⟨pa_cons ha.p hr.p hs, sem_cons ha.s hr.s⟩
theorem resA_app {K : PySem.W.Frag} {H0 F H : Hp} : ∀ {vs ws : List V} {ds es : List D}, RepA K F vs ds → ResA K .fz H0 F H ws es → ResA K .fz H0 F H (vs ++ ws) (ds ++ es)
  | _, _, _, _, .nil, s => s
  | _, _, _, _, .cons h r, s => .cons (show Res K .fz H0 F H _ _ from h) (resA_app r s)
theorem das_star {p : Pos} (ha : DE X m1 e te f) (hr : DAs X .fz es t fs) (hs : starEach (.Starred e p :: es) X.env = (true, eval e X.env) :: starEach es X.env := by rfl) : DAs X .fz (.Starred e p :: es) (StX.tStar X.K te t) (aStar f fs) :=
  ⟨StX.pa_star ha.p hr.p hs, fun B F H σ ρ ds Q rel hf q => by
    obtain ⟨d, h1, h2⟩ := bind_some hf
    obtain ⟨es', h3, h4⟩ := bind_some h2
    obtain ⟨ds', h5, h6⟩ := bind_some h4
    cases h6
    refine ha.s B F H σ ρ d _ rel h1 fun x F1 H1 x1 r1 => ?_
    obtain ⟨a, xs, rfl, s1, p1⟩ := r1.items x1.s h3
    refine ⟨a, xs, rfl, s1.symm, ?_⟩
    exact hr.s B F1 H1 σ ρ ds' _ (rel.ext x1) h5 fun ys F2 H2 x2 r2 => q _ F2 H2 (x1.trans x2) (resA_app (p1.mono x2.f) (r2.back x1.h))⟩
theorem das_starK (K' : PySem.W.Frag) {p : Pos} (ha : DE X m1 e te f) (hr : DAs X .fz es t fs) (hs : starEach (.Starred e p :: es) X.env = (true, eval e X.env) :: starEach es X.env := by rfl) (hK : X.K = K' := by rfl) : DAs X .fz (.Starred e p :: es) (StX.tStar K' te t) (aStar f fs) := by
  subst hK
  exact das_star (ha := ha) (hr := hr) (hs := hs)
def fTupS (fs : Rho → Option (List D)) : Rho → Option D := fun ρ => (fs ρ).bind fun ds => if ds.length ≤ sizeLine then some (.tuple ds) else none
def fLstS (fs : Rho → Option (List D)) : Rho → Option D := fun ρ => (fs ρ).bind fun ds => if ds.length ≤ sizeLine then some (.list ds) else none
theorem de_tupS {k : Nat} (h : DAs X .fz es t fs) : DE X .fz (.Tuple es k pos) (tTupF t) (fTupS fs) := ⟨pe_tupF h.p, fun B F H σ ρ d Q rel hf q => by
  obtain ⟨ds, h1, h2⟩ := bind_some hf
  obtain ⟨hl, rfl⟩ := if_some h2
  exact h.s B F H σ ρ ds _ rel h1 fun xs F1 H1 x1 r1 => ⟨by rw [r1.length]; exact hl, newT_rep x1 r1.rep q⟩⟩
theorem de_lstS (h : DAs X .fz es t fs) : DE X .fr (.List es pos) (tLst t) (fLstS fs) := ⟨pe_lst h.p, fun B F H σ ρ d Q rel hf q => by
  obtain ⟨ds, h1, h2⟩ := bind_some hf
  obtain ⟨hl, rfl⟩ := if_some h2
  exact h.s B F H σ ρ ds _ rel h1 fun xs F1 H1 x1 r1 => ⟨by rw [r1.length]; exact hl, newL_res x1 r1.rep q⟩⟩
end
end Q
end

/-! part: Q11 -/
section
set_option Elab.async false
set_option linter.all false
set_option maxRecDepth 100000
set_option maxHeartbeats 4000000
set_option autoImplicit false
namespace Q
open PySem PySem.Spec PySem.Calls PyProof.Rows L2
/-! ### x, y = a, b -/
section
variable {X : Cx} {m m1 : Md} {a b c e : Expr} {te : TE} {f : Rho → Option D} {ta : TA} {fs : Rho → Option (List D)} {p p2 pos px py pz pt : Pos} {kt k2 : Nat} {pt2 : Pos} {x y z : Str}
def bPar (i j : Nat) (fs : Rho → Option (List D)) : Bd := fun ρ => (fs ρ).bind fun ds => match ds with
  | [d, e] => some (.nx ((ρ.set i (.im d)).set j (.im e)))
  | _ => none
def bPar3 (i j l : Nat) (fs : Rho → Option (List D)) : Bd := fun ρ => (fs ρ).bind fun ds => match ds with
  | [d, e, g] => some (.nx (((ρ.set i (.im d)).set j (.im e)).set l (.im g)))
  | _ => none
theorem sem_par {K : PySem.W.Frag} {i j : Nat} (h : SemA K .fz ta fs) : SemS K m [i, j] (tPar i j ta) (bPar i j fs) := by
  intro B F H σ ρ o D r hb q
  obtain ⟨ds, h1, h2⟩ := bind_some hb
  match ds, h1, h2 with
  | [d, e], h1, h2 =>
    cases h2
    refine h B F H σ ρ _ _ r h1 fun vs F1 H1 x1 r1 => ?_
    obtain ⟨v, w, rfl, r2, r3⟩ := resA2 r1
    refine ⟨v, w, rfl, q _ F1 H1 (((r.ext x1).setIm r2).setIm r3) fun k hk => ?_⟩
    have h4 : k ≠ i ∧ k ≠ j := by simpa using hk
    rw [List.getElem?_set_ne (Ne.symm h4.2), List.getElem?_set_ne (Ne.symm h4.1)]
theorem resA3 {K : PySem.W.Frag} {m : Md} {H0 F H : Hp} {vs : List V} {d e g : D} (h : ResA K m H0 F H vs [d, e, g]) : ∃ u v w, vs = [u, v, w] ∧ Res K m H0 F H u d ∧ Res K m H0 F H v e ∧ Res K m H0 F H w g := by
  cases h with
  | cons h1 r => cases r with
    | cons h2 r => cases r with
      | cons h3 r => cases r; exact ⟨_, _, _, rfl, h1, h2, h3⟩
theorem sem_par3 {K : PySem.W.Frag} {i j l : Nat} (h : SemA K .fz ta fs) : SemS K m [i, j, l] (tPar3 i j l ta) (bPar3 i j l fs) := by
  intro B F H σ ρ o D r hb q
  obtain ⟨ds, h1, h2⟩ := bind_some hb
  match ds, h1, h2 with
  | [d, e, g], h1, h2 =>
    cases h2
    refine h B F H σ ρ _ _ r h1 fun vs F1 H1 x1 r1 => ?_
    obtain ⟨u, v, w, rfl, r2, r3, r4⟩ := resA3 r1
    refine ⟨u, v, w, rfl, q _ F1 H1 ((((r.ext x1).setIm r2).setIm r3).setIm r4) fun k hk => ?_⟩
    have h4 : k ≠ i ∧ k ≠ j ∧ k ≠ l := by simpa using hk
    rw [List.getElem?_set_ne (Ne.symm h4.2.2), List.getElem?_set_ne (Ne.symm h4.2.1), List.getElem?_set_ne (Ne.symm h4.1)]
theorem ds_par {i j : Nat} (ha : DA X .fz [a, b] ta fs) (hN : X.N.Nodup) (hi : X.N[i]? = some x := by rfl) (hj : X.N[j]? = some y := by rfl) (hij : i ≠ j := by decide)
    (hx : X.env.scope.names.lookup x = some .local := by rfl) (hy : X.env.scope.names.lookup y = some .local := by rfl)
    (hw : swappedStores [.Tuple [.Name x px, .Name y py] kt pt] (.Tuple [a, b] k2 pt2) X.env = pure (some [x, y]) := by rfl)
    (hs : swapsWithSole [.Tuple [.Name x px, .Name y py] kt pt] (.Tuple [a, b] k2 pt2) pos.line X.env = pure false := by rfl) (hc : X.calm = true := by rfl) :
    DS X m [i, j] (.Assign [.Tuple [.Name x px, .Name y py] kt pt] (.Tuple [a, b] k2 pt2) pos) (tPar i j ta) (bPar i j fs) := ⟨ps_par hc hN hi hj hij hx hy ha.p hw hs, sem_par ha.s⟩
theorem ds_par3 {i j l : Nat} (ha : DA X .fz [a, b, c] ta fs) (hN : X.N.Nodup) (hi : X.N[i]? = some x := by rfl) (hj : X.N[j]? = some y := by rfl) (hl : X.N[l]? = some z := by rfl) (hij : i ≠ j := by decide) (hil : i ≠ l := by decide) (hjl : j ≠ l := by decide)
    (hx : X.env.scope.names.lookup x = some .local := by rfl) (hy : X.env.scope.names.lookup y = some .local := by rfl) (hz : X.env.scope.names.lookup z = some .local := by rfl)
    (hw : swappedStores [.Tuple [.Name x px, .Name y py, .Name z pz] kt pt] (.Tuple [a, b, c] k2 pt2) X.env = pure (some [x, y, z]) := by rfl)
    (hs : swapsWithSole [.Tuple [.Name x px, .Name y py, .Name z pz] kt pt] (.Tuple [a, b, c] k2 pt2) pos.line X.env = pure false := by rfl) (hc : X.calm = true := by rfl) :
    DS X m [i, j, l] (.Assign [.Tuple [.Name x px, .Name y py, .Name z pz] kt pt] (.Tuple [a, b, c] k2 pt2) pos) (tPar3 i j l ta) (bPar3 i j l fs) := ⟨ps_par3 hc hN hi hj hl hij hil hjl hx hy hz ha.p hw hs, sem_par3 ha.s⟩
/-- target = e, the target a tuple of names (or more) -/
def bAsgG (f : Rho → Option D) (s : D → Rho → Option Rho) : Bd := fun ρ => (f ρ).bind fun d => (s d ρ).bind fun ρ' => some (.nx ρ')
theorem ds_asgG {W : List Nat} {tg : Expr} {g : TG} {s : D → Rho → Option Rho} (he : DE X .fz e te f) (hg : DG false X W tg g s) (hs : swapsWithSole [tg] e pos.line X.env = pure false := by rfl) (hw : swappedStores [tg] e X.env = pure none := by rfl)
    (h1 : (assignEach [tg] X.env).map (·.2) = [assign tg X.env] := by rfl) : DS X m W (.Assign [tg] e pos) (tAsg te g) (bAsgG f s) := ⟨ps_asg he.p hg.p hs hw h1, fun B F H σ ρ o D r hb q => by
  obtain ⟨d, e1, e2⟩ := bind_some hb
  obtain ⟨ρ', e3, e4⟩ := bind_some e2
  cases e4
  refine he.s B F H σ ρ d _ r e1 fun v F1 H1 x1 r1 => ?_
  exact hg.s B F1 H1 σ ρ ρ' v d _ (r.ext x1) (.inl r1) e3 fun σ' r' k' _ => q σ' F1 H1 r' k'⟩
/-! ### len(set(xs)), ints -/
def dedupI : List Int → List Int
  | [] => []
  | n :: ns => if n ∈ ns then dedupI ns else n :: dedupI ns
theorem dedupI_mem (k : Int) : ∀ ns : List Int, k ∈ dedupI ns ↔ k ∈ ns
  | [] => by simp [dedupI]
  | n :: ns => by
    unfold dedupI
    by_cases h : n ∈ ns
    · rw [if_pos h, dedupI_mem k ns, List.mem_cons]
      exact ⟨.inr, fun z => z.elim (fun e => e ▸ h) id⟩
    · rw [if_neg h, List.mem_cons, List.mem_cons, dedupI_mem k ns]
theorem dedupI_nodup : ∀ ns : List Int, (dedupI ns).Nodup
  | [] => by simp [dedupI]
  | n :: ns => by
    unfold dedupI
    by_cases h : n ∈ ns
    · rw [if_pos h]; exact dedupI_nodup ns
    · rw [if_neg h, List.nodup_cons]; exact ⟨fun z => h ((dedupI_mem n ns).mp z), dedupI_nodup ns⟩
theorem dedup_len {l ns : List Int} (h : l.Nodup) (hm : ∀ k, k ∈ l ↔ k ∈ ns) : l.length = (dedupI ns).length :=
  ((List.perm_ext_iff_of_nodup h (dedupI_nodup ns)).mpr fun k => (hm k).trans (dedupI_mem k ns).symm).length_eq
theorem firstMet_all (f : Nat → Int) : ∀ i, (firstMet f i).Nodup ∧ ∀ k, k ∈ firstMet f i ↔ ∃ j, j < i ∧ f j = k
  | 0 => ⟨by simp [firstMet_zero], fun k => by simp [firstMet_zero]⟩
  | i + 1 => by
    obtain ⟨h1, h2⟩ := firstMet_all f i
    have key : ∀ k, (∃ j, j < i + 1 ∧ f j = k) ↔ (∃ j, j < i ∧ f j = k) ∨ f i = k := fun k => by
      constructor
      · rintro ⟨j, hj, e⟩
        by_cases z : j = i
        · subst z; exact .inr e
        · exact .inl ⟨j, by omega, e⟩
      · rintro (⟨j, hj, e⟩ | e)
        · exact ⟨j, by omega, e⟩
        · exact ⟨i, by omega, e⟩
    rw [firstMet_succ]
    unfold step_dedup
    cases hb : (firstMet f i).any (· == f i) with
    | true =>
      obtain ⟨y, hy, ey⟩ := List.any_eq_true.mp hb
      have ey2 : y = f i := eq_of_beq ey
      subst ey2
      refine ⟨by simpa using h1, fun k => ?_⟩
      rw [key, ← h2 k]
      simp only [if_true]
      exact ⟨.inl, fun z => z.elim id fun e => e ▸ hy⟩
    | false =>
      have hn : f i ∉ firstMet f i := fun z => by
        have : (firstMet f i).any (· == f i) = true := List.any_eq_true.mpr ⟨_, z, by simp⟩
        rw [hb] at this; cases this
      simp only [Bool.false_eq_true, if_false]
      refine ⟨?_, fun k => ?_⟩
      · rw [List.nodup_append]
        exact ⟨h1, by simp, fun a ha b hb e => by
          have hb' : b = f i := by simpa using hb
          subst hb'; subst e; exact hn ha⟩
      · rw [key, ← h2 k, List.mem_append, List.mem_singleton]
        exact ⟨fun z => z.imp id fun e => e.symm, fun z => z.imp id fun e => e.symm⟩
theorem firstMet_len (ns : List Int) : (firstMet (fun i => ns.getD i 0) ns.length).length = (dedupI ns).length := by
  obtain ⟨h1, h2⟩ := firstMet_all (fun i => ns.getD i 0) ns.length
  refine dedup_len h1 fun k => (h2 k).trans ?_
  constructor
  · rintro ⟨j, hj, e⟩
    rw [List.getD_eq_getElem?_getD, List.getElem?_eq_getElem hj] at e
    have e' : ns[j] = k := e
    exact e' ▸ List.getElem_mem hj
  · intro h
    obtain ⟨j, hj, e⟩ := List.mem_iff_getElem.mp h
    exact ⟨j, hj, by show ns.getD j 0 = k; rw [List.getD_eq_getElem?_getD, List.getElem?_eq_getElem hj]; exact e⟩
def tLenSetA (K : PySem.W.Frag) (ta : TE) : TE := fun σ H Q => ta σ H fun x H1 => ∃ (l : Addr) (ns : List Int), x = .ref l ∧ SqA K H1 l (ns.map V.int) ∧ ns.length ≤ 4000 ∧ Q (.int ((dedupI ns).length : Nat)) H1
theorem pe_lenSetA {a : Expr} {ta : TE} {p p2 q pos : Pos} (hg : Gl X "len") (hm : X.mg "len" = none) (hg2 : Gl X "set") (hm2 : X.mg "set" = none) (ha : PE X a ta) (hc : X.calm = true := by rfl)
    (na : starEach [a] X.env = (false, eval a X.env) :: starEach [] X.env := by rfl) : PE X (.Call (.Name "len" p) [.Call (.Name "set" p2) [a] [] q] [] pos) (tLenSetA X.K ta) := by
  refine ⟨fun pins s σ H Q I h => ?_⟩
  refine Call_ (ld_blt I hg hm PySem.boot_len ?_)
  refine PyProof.Rows.callWith_builtin1 (PyProof.Rows.args_cons ?_ rfl) rfl rfl
  refine Call_ (ld_blt I hg2 hm2 PyProof.Rows.boot_set ?_)
  refine PyProof.Rows.callWith_type1 (PyProof.Rows.args_cons (thn (ha.run pins s σ H _ I h) fun v s1 ⟨x, H1, I1, r1, q1⟩ => PyProof.Rows.args_nil ?_) na) na rfl
  obtain ⟨l, ns, rfl, hq, hl, q1⟩ := q1
  cases r1
  rcases hq with hq | hq
  · obtain ⟨its, r, pl, hz⟩ := I1.list hq
    have hlen : its.toArray.size = ns.length := by rw [List.size_toArray, ← r.length, List.length_map]
    refine call_set_list (I1.ok.hd hc) pl.isList (by simpa using RZ.intsAre_vals r) (by rw [hlen]; unfold scanBound; omega) fun h' tk hS hk => ?_
    refine PyProof.Rows.args_nil ?_
    rw [hlen, firstMet_len] at hS
    obtain ⟨o, es, ep, t, ho, hex, hd, _, _, _, hf, hn⟩ := hS
    have hle : (dedupI ns).length ≤ 4000 := by
      rw [← firstMet_len]
      exact Nat.le_trans (firstMet_length_le _ _) hl
    have I2 : Inv X pins σ H1 { s1 with heap := h', toks := tk } := I1.kept fun b o e => hk b o (Heap.lt_size e) e
    exact call_len_set ho hex hd hf (by rw [hn] <;> omega) ⟨.int (dedupI ns).length, H1, I2.tok _, ⟨_, by rw [hn]⟩, q1⟩
  · obtain ⟨its, r, pl, hz⟩ := I1.tuple hq
    refine call_set_tupI ns (I1.ok.hd hc) pl (by simpa using RZ.intsAre_vals r) (by unfold scanBound; omega) fun h' tk c hS hcl hk => ?_
    refine PyProof.Rows.args_nil ?_
    obtain ⟨o, es, ep, t, ho, hex, hd, _, nd, hmm, hb, hf, hn, _⟩ := hS
    have e1 : es.size = (dedupI ns).length := by
      have := dedup_len nd fun k => ((hmm k).symm.trans (by simp) : k ∈ es.toList.map keyOf ↔ k ∈ ns)
      simpa using this
    have I2 : Inv X pins σ H1 { s1 with heap := h', toks := tk } := I1.kept fun b o e => hk b o e
    exact call_len_set ho hex hd hf (by rw [hn] <;> omega) ⟨.int (dedupI ns).length, H1, I2.tok _, ⟨_, by rw [e1]⟩, q1⟩
def fLenSet (f : Rho → Option D) : Rho → Option D := fun ρ => (f ρ).bind fun d => (itemsD d).bind fun ds => (intsOf ds).bind fun ns => if ns.length ≤ 4000 then some (.int ((dedupI ns).length : Nat)) else none
theorem de_lenSet {a : Expr} {fa : Rho → Option D} {p p2 q pos : Pos} (hg : Gl X "len") (hm : X.mg "len" = none) (hg2 : Gl X "set") (hm2 : X.mg "set" = none) (ha : DE X m1 a te fa) (hc : X.calm = true := by rfl)
    (na : starEach [a] X.env = (false, eval a X.env) :: starEach [] X.env := by rfl) : DE X .fz (.Call (.Name "len" p) [.Call (.Name "set" p2) [a] [] q] [] pos) (tLenSetA X.K te) (fLenSet fa) :=
  ⟨pe_lenSetA hg hm hg2 hm2 ha.p hc na, fun B F H σ ρ z Q r hf q => by
    obtain ⟨d, h1, h2⟩ := bind_some hf
    obtain ⟨ds, h3, h4⟩ := bind_some h2
    obtain ⟨ns, h5, h6⟩ := bind_some h4
    obtain ⟨h7, rfl⟩ := if_some h6
    refine ha.s B F H σ ρ d _ r h1 fun v F1 H1 x1 r1 => ?_
    obtain ⟨a, xs, rfl, s1, p1⟩ := r1.items x1.s h3
    cases intsOf_map h5
    refine ⟨a, ns, rfl, ?_, h7, q _ F1 H1 x1 (Rep.int _)⟩
    rw [← p1.ints]
    exact s1⟩
theorem de_lenSetK (K' : PySem.W.Frag) {a : Expr} {fa : Rho → Option D} {p p2 q pos : Pos} (hg : Gl X "len") (hm : X.mg "len" = none) (hg2 : Gl X "set") (hm2 : X.mg "set" = none) (ha : DE X m1 a te fa) (hc : X.calm = true := by rfl) (na : starEach [a] X.env = (false, eval a X.env) :: starEach [] X.env := by rfl) (hK : X.K = K' := by rfl) : DE X .fz (.Call (.Name "len" p) [.Call (.Name "set" p2) [a] [] q] [] pos) (tLenSetA K' te) (fLenSet fa) := by
  subst hK
  exact de_lenSet (hg := hg) (hm := hm) (hg2 := hg2) (hm2 := hm2) (ha := ha) (hc := hc) (na := na)
/-! ### a tuple times an int -/
def rRepF (K : PySem.W.Frag) : R2 := fun x y H Q => ∃ l k xs, x = .ref l ∧ y = .int k ∧ SqT K H l xs ∧ xs ≠ [] ∧ 2 ≤ k ∧ k ≤ 1000 ∧ xs.length ≤ 1000 ∧ NewT (List.replicate k.toNat xs).flatten H Q
theorem op_repF : OpR X (binaryOp .Mult) (rRepF X.K) := by
  intro pins s σ H x y v u Q I rx ry h
  obtain ⟨l, k, xs, rfl, rfl, hT, hne, h1, h2, hz, q⟩ := h
  cases rx
  obtain ⟨t, rfl⟩ := ry
  obtain ⟨its, r, ⟨⟨cls, dd, data, sl⟩, ho, hc, n, hd⟩, hs⟩ := I.tuple hT
  simp only at hc hd
  subst hc hd
  have hle : its.length = xs.length := r.length.symm
  have hn : its ≠ [] := fun e => hne (by
    rw [e] at hle
    exact List.eq_nil_of_length_eq_zero hle.symm)
  have hi : its.toArray.isEmpty = false := by
    cases its with
    | nil => exact absurd rfl hn
    | cons a b => rfl
  have hsz0 : its.toArray.size = xs.length := by rw [List.size_toArray, hle]
  have hm : ((its.toArray.size : Nat) : Int) * k ≤ 1000000 := by
    rw [hsz0]
    have a1 : ((xs.length : Nat) : Int) * k ≤ 1000 * k := Int.mul_le_mul_of_nonneg_right (by omega) (by omega)
    omega
  have flen : (List.replicate k.toNat its).flatten.length ≤ sizeLine := by
    rw [PyProof.Rows.lm_len_rep_flat, hle, sizeLine_eq]
    have a1 : k.toNat * xs.length ≤ 1000 * 1000 := Nat.mul_le_mul (by omega) hz
    omega
  have c0 : (decide (k < -(2 ^ 63)) || decide (k ≥ 2 ^ 63)) = false := by
    rw [decide_eq_false (by omega), decide_eq_false (by omega)] <;> rfl
  have c1 : (its.toArray.isEmpty || k == 1) = false := by
    rw [hi, Bool.false_or]
    exact beq_eq_false_iff_ne.mpr (by omega)
  have c2 : (decide (k ≤ 0) || its.toArray.isEmpty) = false := by
    rw [hi, Bool.or_false]
    exact decide_eq_false (by omega)
  have c4 : Builtin.Tuple.tupleTooMany (((its.toArray.size : Nat) : Int) * k) = false := by
    unfold Builtin.Tuple.tupleTooMany
    rw [sizeLine_eq]
    exact decide_eq_false (by omega)
  refine wpAny_binaryOp_repeat_ref (T := "tuple") (U := "int") (by decide) ⟨_, ho, rfl⟩ (fun s' => typeIs_int s' k t) noFill_tuple_mul PySem.F.fills_int_mul PySem.F.slot_int_rmul repeat_tuple PySem.F.slot_int_index.lookup
    (call_meets PySem.F.slot_int_rmul (typeIs_int s k t) PySem.F.entry_int_rmul (PySem.F.args_int_rmul_2 _ _) (int_rmul_tuple k t l its.toArray n dd sl)
      ⟨ho, rfl, ⟨_, ho, rfl⟩, call_meets PySem.F.slot_tuple_mul ⟨_, ho, rfl⟩ PySem.F.entry_tuple_mul (PySem.F.args_tuple_mul_2 _ _) (tuple_mulW l its.toArray n dd sl k t c0 c1 c2 (by omega) c4 (by rw [size_rep, List.size_toArray]; exact flen)) ⟨ho, ?_⟩⟩)
  rw [size_rep]
  refine ⟨.ref s.heap.objs.size, _, I.laidT (t' := s.toks) (r.rep k.toNat) (by rw [PyProof.Rows.lm_len_rep_flat, sizeLine_eq]; have a1 : k.toNat * xs.length ≤ 1000 * 1000 := Nat.mul_le_mul (by omega) hz; omega), rfl, q _ _ (I.hok.fresh (Nat.le_refl _)) rfl rfl⟩
theorem op_repFK (K' : PySem.W.Frag) (hK : X.K = K' := by rfl) : OpR X (binaryOp .Mult) (rRepF K') := by
  subst hK
  exact op_repF 
theorem RepA.rep {K : PySem.W.Frag} {F : Hp} {vs : List V} {ds : List D} (r : RepA K F vs ds) : ∀ n : Nat, RepA K F (List.replicate n vs).flatten (List.replicate n ds).flatten
  | 0 => .nil
  | n + 1 => by rw [List.replicate_succ, List.replicate_succ, List.flatten_cons, List.flatten_cons]; exact r.append (RepA.rep r n)
def repTD : D → D → Option D
  | .tuple ds, .int k => if ds ≠ [] ∧ 2 ≤ k ∧ k ≤ 1000 ∧ ds.length ≤ 1000 then some (.tuple (List.replicate k.toNat ds).flatten) else none
  | _, _ => none
theorem ops_repT {K : PySem.W.Frag} : OpS K .fz (rRepF K) repTD := by
  intro F H Ha Hb x y d e z Q fh r1 r2 hz q
  match d, e, r1, r2, hz with
  | .tuple ds, .int k, r1, r2, hz =>
    obtain ⟨⟨h1, h2, h3, h4⟩, rfl⟩ := if_some hz
    obtain ⟨a, vs, rfl, s1, p1⟩ := r1.tup fh
    exact ⟨a, k, vs, rfl, r2.int, s1.sq, fun e0 => h1 (by subst e0; cases p1; rfl), h2, h3, by rw [p1.length]; exact h4, newT_rep (.refl fh) (p1.rep _) q⟩
/-! ### a list times an int: a new list -/
def repLD : D → D → Option D
  | .list ds, .int k => if -(2 ^ 63) ≤ k ∧ k < 2 ^ 63 ∧ ds.length * k.toNat ≤ sizeLine then some (.list (List.replicate k.toNat ds).flatten) else none
  | _, _ => none
/-- [..] * e -/
theorem de_repL {es : List Expr} (ha : DE X .fr (.List es p) te f) {tb : TE} {fb : Rho → Option D} (hb : DE X m1 b tb fb) : DE X .fr (.BinOp (.List es p) .Mult b pos) (tOp rRep te tb) (f2 repLD f fb) :=
  ⟨pe_op op_rep ha.p hb.p, fun B F H σ ρ z Q r hf q => by
    obtain ⟨d, h1, h2⟩ := bind_some hf
    obtain ⟨e, h3, h4⟩ := bind_some h2
    refine ha.s B F H σ ρ d _ r h1 fun v F1 H1 x1 r1 => ?_
    refine hb.s B F1 H1 σ ρ e _ (r.ext x1) h3 fun u F2 H2 x2 r2 => ?_
    match d, e, r1, r2, h4 with
    | .list ds, .int k, r1, r2, h4 =>
      obtain ⟨⟨h5, h6, h7⟩, rfl⟩ := if_some h4
      obtain ⟨a, rfl, h0, hf, xs, hH, ra⟩ := r1
      refine ⟨a, k, xs, rfl, r2.int, x2.h _ _ hH, h5, h6, by rw [ra.length]; exact h7, ?_⟩
      exact newL_res (x1.trans x2) ((ra.mono x2.f).rep _) fun v' F' H' x' r' => q v' F' H' x' (r'.back (F1 := F1) (.refl _))⟩
end
end Q
end

/-! part: Q12 -/
section
set_option Elab.async false
set_option linter.all false
set_option maxRecDepth 100000
set_option maxHeartbeats 4000000
set_option autoImplicit false
namespace Q
open PySem PySem.Spec PySem.Calls PyProof.Rows L2
theorem bt_len : bootBuiltins "len" = some (.builtin "len") := by decide +kernel
theorem bt_sorted : bootBuiltins "sorted" = some (.builtin "sorted") := by decide +kernel
theorem bt_sum : bootBuiltins "sum" = some (.builtin "sum") := by decide +kernel
theorem bt_min : bootBuiltins "min" = some (.builtin "min") := by decide +kernel
theorem bt_max : bootBuiltins "max" = some (.builtin "max") := by decide +kernel
theorem bt_abs : bootBuiltins "abs" = some (.builtin "abs") := by decide +kernel
theorem bt_all : bootBuiltins "all" = some (.builtin "all") := by decide +kernel
theorem bt_any : bootBuiltins "any" = some (.builtin "any") := by decide +kernel
theorem bt_isinstance : bootBuiltins "isinstance" = some (.builtin "isinstance") := by decide +kernel
theorem bt_int : bootBuiltins "int" = some (.type "int") := by decide +kernel
theorem bt_bool : bootBuiltins "bool" = some (.type "bool") := by decide +kernel
theorem bt_str : bootBuiltins "str" = some (.type "str") := by decide +kernel
theorem bt_list : bootBuiltins "list" = some (.type "list") := by decide +kernel
theorem bt_tuple : bootBuiltins "tuple" = some (.type "tuple") := by decide +kernel
theorem bt_dict : bootBuiltins "dict" = some (.type "dict") := by decide +kernel
theorem _root_.L2.Room.u64 {k : Nat} {A : Around} (r : Room k A) : A.units + 64 < cLine := r.units
theorem _root_.L2.Room.u65 {k : Nat} {A : Around} (r : Room k A) : A.units + 65 < cLine := by have := r.un; omega
theorem _root_.L2.Room.u70 {k : Nat} {A : Around} (r : Room k A) : A.units + 70 < cLine := by have := r.un; omega
theorem blk_of {N : List Str} {sc scope : Scope} {own : List (Str × Nat)} (h : blkC N sc scope own = true) : blkC N sc scope own = true := h
/-! ### a if t else b as a test; the given rules with the written part named -/
section
variable {X : Cx} {a b c : Expr} {tc ta tb : TT} {fc fa fb : Rho → Option Bool} {pos : Pos}
def tIfT (t a b : TT) : TT := fun σ H Q => t σ H fun c H1 => if c = true then a σ H1 Q else b σ H1 Q
def fIfT (fc fa fb : Rho → Option Bool) : Rho → Option Bool := fun ρ => (fc ρ).bind fun k => if k = true then fa ρ else fb ρ
theorem dt_if (hc : DT X c tc fc) (ha : DT X a ta fa) (hb : DT X b tb fb) : DT X (.IfExp c a b pos) (tIfT tc ta tb) (fIfT fc fa fb) :=
  ⟨⟨fun pins s σ H Q I h => by
    refine PyProof.Rows.isTrue_IfExp (thn (hc.p.run pins s σ H _ I h) fun d s1 ⟨H1, I1, q1⟩ => ?_)
    cases d with
    | true => exact ha.p.run pins s1 σ H1 Q I1 q1
    | false => exact hb.p.run pins s1 σ H1 Q I1 q1⟩, fun B F H σ ρ z Q r hf q => by
    obtain ⟨k, h1, h2⟩ := bind_some hf
    refine hc.s B F H σ ρ k _ r h1 fun F1 H1 x1 => ?_
    cases k with
    | true => exact ha.s B F1 H1 σ ρ z _ (r.ext x1) h2 fun F2 H2 x2 => q F2 H2 (x1.trans x2)
    | false => exact hb.s B F1 H1 σ ρ z _ (r.ext x1) h2 fun F2 H2 x2 => q F2 H2 (x1.trans x2)⟩
theorem op_eqDK (K' : PySem.W.Frag) (hu : X.A.units + 64 < cLine) (hK : X.K = K' := by rfl) : OpR X (compareOp .Eq) (rEqD K') := by
  subst hK; exact op_eqD hu
theorem op_neDK (K' : PySem.W.Frag) (hu : X.A.units + 64 < cLine) (hK : X.K = K' := by rfl) : OpR X (compareOp .NotEq) (rNeD K') := by
  subst hK; exact op_neD hu
theorem call_lenK (K' : PySem.W.Frag) (hK : X.K = K' := by rfl) : CallR X (.builtin "len") (rLen K') := by
  subst hK; exact call_len
theorem call_list_ofK (K' : PySem.W.Frag) (hK : X.K = K' := by rfl) : CallR X (.type "list") (rLstC K') := by
  subst hK; exact call_list_of
theorem cr_allK (K' : PySem.W.Frag) (hc : X.calm = true) (hK : X.K = K' := by rfl) : CallR X (.builtin "all") (rAll K') := by
  subst hK; exact cr_all hc
theorem cr_anyK (K' : PySem.W.Frag) (hc : X.calm = true) (hK : X.K = K' := by rfl) : CallR X (.builtin "any") (rAny K') := by
  subst hK; exact cr_any hc
end
/-! ### what is known of a def by its name -/
def Ok (P : Program) (w : World) (K : PySem.W.Frag) (mg : Str → Option Value) (base : Heap) (k : Nat) (x : Str) (ps : List Str) (m : Md) (Φ : List D → Option D) : Prop :=
  ∃ fd : FuncData, FnOk P w K mg base CX0 k (He.ga K x) fd ps (spM K m Φ) ∧ PySem.W.keepIn K (.ref (He.ga K x)) = true ∧ Binds K fd ps [] ∧ mg x = some (.ref (He.ga K x))
def fnB (n p : Nat) (b : Bd) : List D → Option D := fun ds => if ds.length = p then runB n b ds else none
/-- a def that never runs off its end -/
def runR (n : Nat) (b : Bd) : List D → Option D := fun ds => (b (ds.map .im ++ List.replicate (n - ds.length) .un)).bind fun o => match o with
  | .rt d => some d
  | _ => none
def fnR (n p : Nat) (b : Bd) : List D → Option D := fun ds => if ds.length = p then runR n b ds else none
section
variable {P : Program} {w : World} {K : PySem.W.Frag} {mg : Str → Option Value} {base : Heap} {x qual : Str} {params : Arguments} {body : List Stmt} {scope : Scope} {fd : FuncData} {N ps : List Str} {k j : Nat} {m : Md} {b : Bd} {Φ : List D → Option D}
theorem Ok.mono (h : Ok P w K mg base j x ps m Φ) (e : j ≤ k) : Ok P w K mg base k x ps m Φ := by
  obtain ⟨fd, h1, h2, h3, h4⟩ := h
  exact ⟨fd, h1.mono e, h2, h3, h4⟩
theorem ok_fz (Fd : FunD K x qual params body scope [] [] (He.ga K x) fd) (S : FnScope N ps scope)
    (hb0 : ∀ (kV doc pm : Value) (an : Option Addr) (cdv ct : Value) (us : List Value), us.length = ps.length → bindArgs (PySem.W.fnOf x qual params body scope .none kV doc pm an cdv ct) ⟨us, []⟩ = pure (ps.zip us))
    (hg : mg x = some (.ref (He.ga K x)))
    (hb : ∀ (cdv : Value) (A : Around) (outer : List Env) (s : Shared) (H : Hp) (E : XK), Room k (A.deeper (envOfC qual scope s.heap.objs.size (He.ga K x) cdv)) →
      ∃ W t, DSs (cxOf CX0 P w K mg base N qual scope (He.ga K x) cdv A outer s H E).nox .fz W body t b) : Ok P w K mg base (k + 1) x ps .fz (fnB N.length ps.length b) :=
  ⟨fd, fn_den Fd S _ (fun ds r h => if_someB h) (.inl rfl) hb, Fd.kp, Fd.bindsN hb0, hg⟩
where
  if_someB {ds : List D} {r : D} (h : fnB N.length ps.length b ds = some r) : ds.length = ps.length ∧ runB N.length b ds = some r := by
    unfold fnB at h
    by_cases hl : ds.length = ps.length
    · rw [if_pos hl] at h; exact ⟨hl, h⟩
    · rw [if_neg hl] at h; cases h
/-- as fn_den, the body ends by return -/
theorem fn_denR {f : Addr} (Fd : FunD K x qual params body scope [] [] f fd) (S : FnScope N ps scope) (Φ : List D → Option D) (hΦ : ∀ ds r, Φ ds = some r → ds.length = ps.length ∧ runR N.length b ds = some r)
    (hb : ∀ (cdv : Value) (A : Around) (outer : List Env) (s : Shared) (H : Hp) (E : XK), Room k (A.deeper (envOfC qual scope s.heap.objs.size f cdv)) →
      ∃ W t, DSs (cxOf CX0 P w K mg base N qual scope f cdv A outer s H E).nox m W body t b) : FnOk P w K mg base CX0 (k + 1) f fd ps (spM K m Φ) := by
  have lenOf : ∀ vs H Q E, spM K m Φ vs H Q E → vs.length = ps.length := fun vs H Q E h => by
    obtain ⟨F, ds, r, _, ra, hr, _⟩ := h
    rw [ra.length]
    exact (hΦ ds r hr).1
  refine Fd.ok S lenOf fun cdv A outer s H vs Q E hr h => ?_
  obtain ⟨W, t, D⟩ := hb cdv A outer s H E hr
  refine ⟨t, D.p.nox, ?_⟩
  obtain ⟨F, ds, r, fh, ra, hP, q⟩ := h
  obtain ⟨hl, hrun⟩ := hΦ ds r hP
  obtain ⟨o, e1, e2⟩ := bind_some hrun
  have hlen : ps.length ≤ N.length := by
    have e := congrArg List.length S.pre
    rw [List.length_take] at e
    omega
  refine D.s { F0 := F, G := H } F H _ _ o _ (start_rel ra (by rw [hl]; exact hlen) fh) e1 ?_
  cases o with
  | rt d =>
    cases e2
    intro v F' H' ro
    obtain ⟨a1, a2, a3, a4, a5⟩ := ro
    exact q v F' H' ⟨a1, a2, a4, a3⟩ a5
  | nx ρ' => cases e2
  | bk ρ' => cases e2
  | ct ρ' => cases e2
theorem ok_fr (Fd : FunD K x qual params body scope [] [] (He.ga K x) fd) (S : FnScope N ps scope)
    (hb0 : ∀ (kV doc pm : Value) (an : Option Addr) (cdv ct : Value) (us : List Value), us.length = ps.length → bindArgs (PySem.W.fnOf x qual params body scope .none kV doc pm an cdv ct) ⟨us, []⟩ = pure (ps.zip us))
    (hg : mg x = some (.ref (He.ga K x)))
    (hb : ∀ (cdv : Value) (A : Around) (outer : List Env) (s : Shared) (H : Hp) (E : XK), Room k (A.deeper (envOfC qual scope s.heap.objs.size (He.ga K x) cdv)) →
      ∃ W t, DSs (cxOf CX0 P w K mg base N qual scope (He.ga K x) cdv A outer s H E).nox m W body t b) : Ok P w K mg base (k + 1) x ps m (fnR N.length ps.length b) :=
  ⟨fd, fn_denR Fd S _ (fun ds r h => if_someR h) hb, Fd.kp, Fd.bindsN hb0, hg⟩
where
  if_someR {ds : List D} {r : D} (h : fnR N.length ps.length b ds = some r) : ds.length = ps.length ∧ runR N.length b ds = some r := by
    unfold fnR at h
    by_cases hl : ds.length = ps.length
    · rw [if_pos hl] at h; exact ⟨hl, h⟩
    · rw [if_neg hl] at h; cases h
/-- the law itself -/
theorem law_fz {f : Addr} (Fd : FunD K x qual params body scope [] [] f fd) (S : FnScope N ps scope)
    (hb : ∀ (cdv : Value) (A : Around) (outer : List Env) (s : Shared) (H : Hp) (E : XK), Room k (A.deeper (envOfC qual scope s.heap.objs.size f cdv)) →
      ∃ W t, DSs (cxOf CX0 P w K mg base N qual scope f cdv A outer s H E).nox .fz W body t b) : FnOk P w K mg base CX0 (k + 1) f fd ps (spM K .fz (fnB N.length ps.length b)) :=
  fn_den Fd S _ (fun ds r h => ok_fz.if_someB h) (.inl rfl) hb
/-- the ground of a recursion: no promise -/
theorem ok_zero (Fd : FunD K x qual params body scope [] [] (He.ga K x) fd)
    (hb0 : ∀ (kV doc pm : Value) (an : Option Addr) (cdv ct : Value) (us : List Value), us.length = ps.length → bindArgs (PySem.W.fnOf x qual params body scope .none kV doc pm an cdv ct) ⟨us, []⟩ = pure (ps.zip us))
    (hg : mg x = some (.ref (He.ga K x))) : Ok P w K mg base k x ps m (fun _ => none) :=
  ⟨fd, ⟨fun vs H Q E h => (by obtain ⟨F, ds, r, _, _, h, _⟩ := h; cases h), fun A outer s H args us vs Q E _ _ _ _ h => (by obtain ⟨F, ds, r, _, _, h, _⟩ := h; cases h)⟩, Fd.kp, Fd.bindsN hb0, hg⟩
end
section
variable {X : Cx} {m m1 : Md} {k j : Nat} {ps : List Str} {Φ : List D → Option D} {x : Str} {p pos : Pos} {e : Expr} {es : List Expr} {t : TA} {fs : Rho → Option (List D)}
theorem de_fn (h : Ok X.prog X.w X.K X.mg X.base j x ps m Φ) (hr : Room k X.A) (hj : j ≤ k) (hg : Gl X x) (ha : DA X .fz (e :: es) t fs)
    (hdb : (x == ("__debug__" : Str)) = false := by decide) (he : starEach (e :: es) X.env = (false, eval e X.env) :: starEach es X.env := by rfl) (hpl : (backTo pos (starEach es X.env)).any (·.1) = false := by rfl) :
    DE X m (.Call (.Name x p) (e :: es) [] pos) (tCall (spM X.K m Φ) [] E0 t) (fB Φ fs) := by
  obtain ⟨fd, h1, h2, h3, h4⟩ := h
  exact de_call (h1.mono hj) hr hg h4 h2 h3 ha hdb he hpl
theorem de_fnK (K' : PySem.W.Frag) (h : Ok X.prog X.w K' X.mg X.base j x ps m Φ) (hr : Room k X.A) (hj : j ≤ k) (hg : Gl X x) (ha : DA X .fz (e :: es) t fs) (hdb : (x == ("__debug__" : Str)) = false := by decide) (he : starEach (e :: es) X.env = (false, eval e X.env) :: starEach es X.env := by rfl) (hpl : (backTo pos (starEach es X.env)).any (·.1) = false := by rfl) (hK : X.K = K' := by rfl) : DE X m (.Call (.Name x p) (e :: es) [] pos) (tCall (spM K' m Φ) [] E0 t) (fB Φ fs) := by
  subst hK
  exact de_fn (h := h) (hr := hr) (hj := hj) (hg := hg) (ha := ha) (hdb := hdb) (he := he) (hpl := hpl)
theorem de_fn0 (h : Ok X.prog X.w X.K X.mg X.base j x ps m Φ) (hr : Room k X.A) (hj : j ≤ k) (hg : Gl X x) (hdb : (x == ("__debug__" : Str)) = false := by decide) :
    DE X m (.Call (.Name x p) [] [] pos) (tCall (spM X.K m Φ) [] E0 tNil) (fB Φ aNil) := by
  obtain ⟨fd, h1, h2, h3, h4⟩ := h
  exact de_call0 (h1.mono hj) hr hg h4 h2 h3 hdb
theorem de_fn0K (K' : PySem.W.Frag) (h : Ok X.prog X.w K' X.mg X.base j x ps m Φ) (hr : Room k X.A) (hj : j ≤ k) (hg : Gl X x) (hdb : (x == ("__debug__" : Str)) = false := by decide) (hK : X.K = K' := by rfl) : DE X m (.Call (.Name x p) [] [] pos) (tCall (spM K' m Φ) [] E0 tNil) (fB Φ aNil) := by
  subst hK
  exact de_fn0 (h := h) (hr := hr) (hj := hj) (hg := hg) (hdb := hdb)
theorem de_fnP (hm0 : m = .fz ∨ m = .fr) (h : Ok X.prog X.w X.K X.mg X.base j x ps m Φ) (hr : Room k X.A) (hj : j ≤ k) (hg : Gl X x) (ha : DA X .pk (e :: es) t fs)
    (hdb : (x == ("__debug__" : Str)) = false := by decide) (he : starEach (e :: es) X.env = (false, eval e X.env) :: starEach es X.env := by rfl) (hpl : (backTo pos (starEach es X.env)).any (·.1) = false := by rfl) :
    DE X m (.Call (.Name x p) (e :: es) [] pos) (tCall (spM X.K m Φ) [] E0 t) (fBP m Φ fs) := by
  obtain ⟨fd, h1, h2, h3, h4⟩ := h
  exact de_callP hm0 (h1.mono hj) hr hg h4 h2 h3 ha hdb he hpl
theorem de_fnPK (K' : PySem.W.Frag) (hm0 : m = .fz ∨ m = .fr) (h : Ok X.prog X.w K' X.mg X.base j x ps m Φ) (hr : Room k X.A) (hj : j ≤ k) (hg : Gl X x) (ha : DA X .pk (e :: es) t fs) (hdb : (x == ("__debug__" : Str)) = false := by decide) (he : starEach (e :: es) X.env = (false, eval e X.env) :: starEach es X.env := by rfl) (hpl : (backTo pos (starEach es X.env)).any (·.1) = false := by rfl) (hK : X.K = K' := by rfl) : DE X m (.Call (.Name x p) (e :: es) [] pos) (tCall (spM K' m Φ) [] E0 t) (fBP m Φ fs) := by
  subst hK
  exact de_fnP (hm0 := hm0) (h := h) (hr := hr) (hj := hj) (hg := hg) (ha := ha) (hdb := hdb) (he := he) (hpl := hpl)
end
end Q
end

/-! part: Q13 -/
section
set_option Elab.async false
set_option linter.all false
set_option maxRecDepth 100000
set_option maxHeartbeats 4000000
set_option autoImplicit false
namespace Q
open PySem PySem.Spec PySem.Calls PyProof.Rows L2
/-! ### the denotations unfolded, for simp -/
section
variable {ρ : Rho} {i j l n : Nat} {f g fa fb fc : Rho → Option D} {ft fu fw : Rho → Option Bool} {fs : Rho → Option (List D)} {g2 h2 : D → D → Option D} {g1 : D → Option D} {gl : List D → Option D} {gi : List D → Option (List D)} {a b : Bd} {d e : D} {ds es : List D}
def imD : Option Sl → Option D
  | some (.im d) => some d
  | _ => none
def anD : Option Sl → Option D
  | some (.im d) => some d
  | some (.ow d) => some d
  | _ => none
def owL : Option Sl → Option (List D)
  | some (.ow (.list ds)) => some ds
  | _ => none
@[simp] theorem imD_im : imD (some (.im d)) = some d := rfl
@[simp] theorem anD_im : anD (some (.im d)) = some d := rfl
@[simp] theorem anD_ow : anD (some (.ow d)) = some d := rfl
@[simp] theorem owL_ow : owL (some (.ow (.list ds))) = some ds := rfl
@[simp] theorem vF_e : vF i ρ = imD ρ[i]? := by unfold vF; split <;> simp_all [imD]
@[simp] theorem vP_e : vP i ρ = anD ρ[i]? := by unfold vP; split <;> simp_all [anD]
def owD : Option Sl → Option D
  | some (.ow d) => some d
  | _ => none
@[simp] theorem owD_ow : owD (some (.ow d)) = some d := rfl
@[simp] theorem vO_e : vO i ρ = owD ρ[i]? := by unfold vO; split <;> simp_all [owD]
@[simp] theorem cD_e : cD d ρ = some d := rfl
@[simp] theorem f2_e : f2 g2 fa fb ρ = (fa ρ).bind fun x => (fb ρ).bind fun y => g2 x y := rfl
@[simp] theorem f1_e : f1 g1 fa ρ = (fa ρ).bind g1 := rfl
@[simp] theorem fB_e : fB gl fs ρ = (fs ρ).bind gl := rfl
@[simp] theorem fT_e : fT f ρ = (f ρ).bind boolD := rfl
@[simp] theorem boolD_e {k : Bool} : boolD (.bool k) = some k := rfl
@[simp] theorem fTr_e : fTr f ρ = (f ρ).bind truD := rfl
@[simp] theorem fNotT_e : fNotT ft ρ = (ft ρ).map not := rfl
@[simp] theorem fAndT_e : fAndT ft fu ρ = (ft ρ).bind fun b => if b = true then fu ρ else some false := rfl
@[simp] theorem fOrT_e : fOrT ft fu ρ = (ft ρ).bind fun b => if b = true then some true else fu ρ := rfl
@[simp] theorem fIfT_e : fIfT ft fu fw ρ = (ft ρ).bind fun b => if b = true then fu ρ else fw ρ := rfl
@[simp] theorem fNot_e : fNot f ρ = ((f ρ).bind truD).map fun b => .bool (!b) := rfl
@[simp] theorem fAnd_e : fAnd f g ρ = (f ρ).bind fun d => (truD d).bind fun b => if b = true then g ρ else some d := rfl
@[simp] theorem fOr_e : fOr f g ρ = (f ρ).bind fun d => (truD d).bind fun b => if b = true then some d else g ρ := rfl
@[simp] theorem fIf_e : fIf ft f g ρ = (ft ρ).bind fun b => if b = true then f ρ else g ρ := rfl
@[simp] theorem aNil_e : aNil ρ = some [] := rfl
@[simp] theorem aCons_e : aCons f fs ρ = (f ρ).bind fun d => (fs ρ).bind fun ds => some (d :: ds) := rfl
@[simp] theorem aStar_e : aStar f fs ρ = (f ρ).bind fun d => (itemsD d).bind fun ds => (fs ρ).bind fun es => some (ds ++ es) := rfl
@[simp] theorem fTup_e : fTup fs ρ = (fs ρ).map .tuple := rfl
@[simp] theorem fLst_e : fLst fs ρ = (fs ρ).map .list := rfl
@[simp] theorem fTupS_e : fTupS fs ρ = (fs ρ).bind fun ds => if ds.length ≤ sizeLine then some (.tuple ds) else none := rfl
@[simp] theorem fLstS_e : fLstS fs ρ = (fs ρ).bind fun ds => if ds.length ≤ sizeLine then some (.list ds) else none := rfl
@[simp] theorem fI_e : fI f ρ = (f ρ).bind walkD := rfl
@[simp] theorem fIs_e : fIs gi fs ρ = (fs ρ).bind gi := rfl
@[simp] theorem fRev_e : fRev f ρ = (f ρ).bind revD := rfl
@[simp] theorem fEnum_e : fEnum f ρ = (f ρ).bind enumD := rfl
def chB (z : D) (k : Option D) : Option D := match z with
  | .bool true => k
  | .bool false => some (.bool false)
  | _ => none
@[simp] theorem chB_b {c : Bool} {k : Option D} : chB (.bool c) k = if c = true then k else some (.bool false) := by cases c <;> rfl
@[simp] theorem f3_e : f3 g2 h2 fa fb fc ρ = (fa ρ).bind fun x => (fb ρ).bind fun y => (g2 x y).bind fun z => chB z ((fc ρ).bind fun w => h2 y w) := by
  unfold f3
  rfl
def isiD (b : String) (d : D) : Option D := match d with
  | .dict _ => none
  | d => some (.bool (isiN (tyName d) b))
def isiD2 (b c : String) (d : D) : Option D := match d with
  | .dict _ => none
  | d => some (.bool (isiN (tyName d) b || isiN (tyName d) c))
@[simp] theorem isiD_i {b : String} {k : Int} : isiD b (.int k) = some (.bool (isiN "int" b)) := rfl
@[simp] theorem isiD_b {b : String} {k : Bool} : isiD b (.bool k) = some (.bool (isiN "bool" b)) := rfl
@[simp] theorem isiD_n {b : String} : isiD b .none = some (.bool (isiN "NoneType" b)) := rfl
@[simp] theorem isiD_s {b : String} {z : Str} : isiD b (.str z) = some (.bool (isiN "str" b)) := rfl
@[simp] theorem isiD_l {b : String} : isiD b (.list ds) = some (.bool (isiN "list" b)) := rfl
@[simp] theorem isiD_t {b : String} : isiD b (.tuple ds) = some (.bool (isiN "tuple" b)) := rfl
@[simp] theorem isiD2_i {b c : String} {k : Int} : isiD2 b c (.int k) = some (.bool (isiN "int" b || isiN "int" c)) := rfl
@[simp] theorem isiD2_b {b c : String} {k : Bool} : isiD2 b c (.bool k) = some (.bool (isiN "bool" b || isiN "bool" c)) := rfl
@[simp] theorem isiD2_n {b c : String} : isiD2 b c .none = some (.bool (isiN "NoneType" b || isiN "NoneType" c)) := rfl
@[simp] theorem isiD2_s {b c : String} {z : Str} : isiD2 b c (.str z) = some (.bool (isiN "str" b || isiN "str" c)) := rfl
@[simp] theorem isiD2_l {b c : String} : isiD2 b c (.list ds) = some (.bool (isiN "list" b || isiN "list" c)) := rfl
@[simp] theorem isiD2_t {b c : String} : isiD2 b c (.tuple ds) = some (.bool (isiN "tuple" b || isiN "tuple" c)) := rfl
@[simp] theorem isiN_e {b c : String} : isiN b c = (b == c || (b == "bool" && c == "int")) := rfl
@[simp] theorem fIsi_e {b : String} : fIsi b f ρ = (f ρ).bind (isiD b) := rfl
@[simp] theorem fIsi2_e {b c : String} : fIsi2 b c f ρ = (f ρ).bind (isiD2 b c) := rfl
@[simp] theorem fYes_e : fYes ρ = some true := rfl
@[simp] theorem oNo_e : oNo ρ = some none := rfl
def intO : D → Option (Option Int)
  | .int i => some (some i)
  | _ => none
@[simp] theorem intO_i {k : Int} : intO (.int k) = some (some k) := rfl
@[simp] theorem oIs_e : oIs f ρ = (f ρ).bind intO := by unfold oIs; congr; try (funext d; cases d <;> rfl)
@[simp] theorem fSl_e {fl fh : Rho → Option (Option Int)} : fSl f fl fh ρ = (f ρ).bind fun d => (fl ρ).bind fun l => (fh ρ).bind fun h => cutD d l h := rfl
@[simp] theorem fLr1_e : fLr1 f ρ = (f ρ).bind fun d => match d with
  | .int n => if -(2 ^ 62) ≤ n ∧ n ≤ 16777216 then some (.list (rgD 0 n.toNat)) else none
  | _ => none := rfl
@[simp] theorem fLenSet_e : fLenSet f ρ = (f ρ).bind fun d => (itemsD d).bind fun ds => (intsOf ds).bind fun ns => if ns.length ≤ 4000 then some (.int ((dedupI ns).length : Nat)) else none := rfl
def outB : Out → Option D
  | .rt d => some d
  | .nx _ => some .none
  | _ => none
@[simp] theorem outB_r : outB (.rt d) = some d := rfl
@[simp] theorem outB_n : outB (.nx ρ) = some .none := rfl
def outR : Out → Option D
  | .rt d => some d
  | _ => none
@[simp] theorem outR_r : outR (.rt d) = some d := rfl
@[simp] theorem fnB_e {p : Nat} : fnB n p b ds = if ds.length = p then (b (ds.map .im ++ List.replicate (n - ds.length) .un)).bind outB else none := by
  unfold fnB runB
  rfl
@[simp] theorem fnR_e {p : Nat} : fnR n p b ds = if ds.length = p then (b (ds.map .im ++ List.replicate (n - ds.length) .un)).bind outR else none := by
  unfold fnR runR
  rfl
/-! statements -/
def seqO (b : Bd) : Out → Option Out
  | .nx ρ => b ρ
  | o => some o
@[simp] theorem seqO_n : seqO b (.nx ρ) = b ρ := rfl
@[simp] theorem seqO_b : seqO b (.bk ρ) = some (.bk ρ) := rfl
@[simp] theorem seqO_c : seqO b (.ct ρ) = some (.ct ρ) := rfl
@[simp] theorem seqO_r : seqO b (.rt d) = some (.rt d) := rfl
@[simp] theorem bSeq_e : bSeq a b ρ = (a ρ).bind (seqO b) := by
  unfold bSeq
  congr
  try (funext o; cases o <;> rfl)
@[simp] theorem bNext_e : bNext ρ = some (.nx ρ) := rfl
@[simp] theorem bBreak_e : bBreak ρ = some (.bk ρ) := rfl
@[simp] theorem bCont_e : bCont ρ = some (.ct ρ) := rfl
@[simp] theorem bNever_e : bNever ρ = none := rfl
@[simp] theorem bIf_e : bIf ft a b ρ = (ft ρ).bind fun k => if k = true then a ρ else b ρ := rfl
@[simp] theorem bAsg_e : bAsg i f ρ = (f ρ).bind fun d => some (.nx (ρ.set i (.im d))) := rfl
@[simp] theorem bOwn_e : bOwn i f ρ = (f ρ).bind fun d => some (.nx (ρ.set i (.ow d))) := rfl
@[simp] theorem bRet_e : bRet f ρ = (f ρ).map .rt := rfl
@[simp] theorem bDrop_e : bDrop f ρ = (f ρ).bind fun _ => some (.nx ρ) := rfl
@[simp] theorem bPar_e : bPar i j fs ρ = (fs ρ).bind fun ds => match ds with
  | [d, e] => some (.nx ((ρ.set i (.im d)).set j (.im e)))
  | _ => none := rfl
@[simp] theorem bAsgG_e {s : D → Rho → Option Rho} : bAsgG f s ρ = (f ρ).bind fun d => (s d ρ).bind fun ρ' => some (.nx ρ') := rfl
@[simp] theorem sN_e : sN i d ρ = some (ρ.set i (.im d)) := rfl
@[simp] theorem sNil_e : sNil [] ρ = some ρ := rfl
@[simp] theorem sCons_e {s : D → Rho → Option Rho} {ss : List D → Rho → Option Rho} : sCons s ss (d :: ds) ρ = (s d ρ).bind (ss ds) := rfl
@[simp] theorem sT_e {ss : List D → Rho → Option Rho} : sT n ss (.tuple ds) ρ = if ds.length = n then ss ds ρ else none := rfl
@[simp] theorem bFor_e {s : D → Rho → Option Rho} : bFor fs s b ρ = (fs ρ).bind fun ds => forL (turnD s b) ds ρ := rfl
@[simp] theorem turnD_e {s : D → Rho → Option Rho} : turnD s b d ρ = (s d ρ).bind b := rfl
@[simp] theorem bApp_e : bApp j f ρ = (owL ρ[j]?).bind fun ds => (f ρ).bind fun d => if ds.length < sizeLine then some (.nx (ρ.set j (.ow (.list (ds ++ [d]))))) else none := by
  unfold bApp
  cases ρ[j]? with
  | none => rfl
  | some s =>
    cases s with
    | ow d => cases d <;> rfl
    | _ => rfl
end
/-! ### operations on ints -/
section
variable {i j : Int} {k c : Bool} {ds es : List D} {z y : Str}
theorem shp_int : SeqAt.shaped (.int i) = true := by with_unfolding_all rfl
theorem shp_bool : SeqAt.shaped (.bool k) = true := by with_unfolding_all rfl
theorem shp_none : SeqAt.shaped (.none) = true := by with_unfolding_all rfl
@[simp] theorem add_ii : addD (.int i) (.int j) = some (.int (i + j)) := rfl
@[simp] theorem addS_ii : addS (.int i) (.int j) = some (.int (i + j)) := rfl
@[simp] theorem sub_ii : subD (.int i) (.int j) = some (.int (i - j)) := rfl
@[simp] theorem mul_ii : mulD (.int i) (.int j) = mulI i j := rfl
@[simp] theorem mulI_r (h1 : -18446744073709551616 < j) (h2 : j < 18446744073709551616) : mulI i j = some (.int (i * j)) := if_pos (.inr ⟨by omega, by omega⟩)
theorem fdiv_ii : fdivD (.int i) (.int j) = if j ≠ 0 ∧ j.natAbs < 1073741824 then some (.int (i.fdiv j)) else none := rfl
theorem mod_ii : modD (.int i) (.int j) = if j ≠ 0 then some (.int (i.fmod j)) else none := rfl
@[simp] theorem mod_pos (h : 0 < j) : modD (.int i) (.int j) = some (.int (i % j)) := by
  rw [mod_ii, if_pos (by omega), Int.fmod_eq_emod_of_nonneg i (by omega)]
@[simp] theorem fdiv_pos (h : 0 < j) (h2 : j < 1073741824) : fdivD (.int i) (.int j) = some (.int (i / j)) := by
  rw [fdiv_ii, if_pos (by omega), Int.fdiv_eq_ediv_of_nonneg i (by omega)]
@[simp] theorem pow_ii : powD (.int i) (.int j) = if 0 ≤ j ∧ j ≤ 1000000 ∧ i.natAbs < 2 ^ 64 then some (.int (i ^ j.toNat)) else none := rfl
@[simp] theorem neg_i : negD (.int i) = some (.int (-i)) := rfl
@[simp] theorem eq_ii : eqD (.int i) (.int j) = some (.bool (i == j)) := by
  unfold eqD
  rw [if_pos ⟨shp_int, shp_int⟩]
  rfl
@[simp] theorem ne_ii : neD (.int i) (.int j) = some (.bool (!(i == j))) := by
  unfold neD
  rw [if_pos ⟨shp_int, shp_int⟩]
  rfl
@[simp] theorem eq_bb : eqD (.bool k) (.bool c) = some (.bool (k == c)) := by
  unfold eqD
  rw [if_pos ⟨shp_bool, shp_bool⟩]
  rfl
theorem ord_ii : ordOk (.int i) (.int j) = true := by with_unfolding_all rfl
@[simp] theorem lt_ii : ltD (.int i) (.int j) = some (.bool (decide (i < j))) := by
  unfold ltD
  rw [if_pos ord_ii, PySem.W.dataLt_int]
@[simp] theorem gt_ii : gtD (.int i) (.int j) = some (.bool (decide (j < i))) := by
  unfold gtD
  rw [if_pos ord_ii, PySem.W.dataLt_int]
@[simp] theorem le_ii : leD (.int i) (.int j) = some (.bool (decide (i ≤ j))) := by
  unfold leD
  rw [if_pos ord_ii, PySem.W.dataLt_int]
  congr 2
  by_cases h : i ≤ j
  · simp [h, Int.not_lt.mpr h]
  · simp [h, Int.not_le.mp h]
@[simp] theorem ge_ii : geD (.int i) (.int j) = some (.bool (decide (j ≤ i))) := by
  unfold geD
  rw [if_pos ord_ii, PySem.W.dataLt_int]
  congr 2
  by_cases h : j ≤ i
  · simp [h, Int.not_lt.mpr h]
  · simp [h, Int.not_le.mp h]
@[simp] theorem isN_n : isND .none .none = some (.bool true) := rfl
@[simp] theorem isN_i : isND (.int i) .none = some (.bool false) := rfl
@[simp] theorem isN_b : isND (.bool k) .none = some (.bool false) := rfl
@[simp] theorem isN_t : isND (.tuple ds) .none = some (.bool false) := rfl
@[simp] theorem isN_l : isND (.list ds) .none = some (.bool false) := rfl
@[simp] theorem isN_s : isND (.str z) .none = some (.bool false) := rfl
@[simp] theorem notN_n : notND .none .none = some (.bool false) := rfl
@[simp] theorem notN_i : notND (.int i) .none = some (.bool true) := rfl
@[simp] theorem notN_t : notND (.tuple ds) .none = some (.bool true) := rfl
@[simp] theorem notN_l : notND (.list ds) .none = some (.bool true) := rfl
@[simp] theorem int_i : intD [.int i] = some (.int i) := rfl
@[simp] theorem len_l : lenD [.list ds] = some (.int ds.length) := rfl
@[simp] theorem len_t : lenD [.tuple ds] = some (.int ds.length) := rfl
@[simp] theorem tup_l : tupD [.list ds] = some (.tuple ds) := rfl
@[simp] theorem tup_t : tupD [.tuple ds] = some (.tuple ds) := rfl
@[simp] theorem lst_l : lstD [.list ds] = some (.list ds) := rfl
@[simp] theorem lst_t : lstD [.tuple ds] = some (.list ds) := rfl
@[simp] theorem items_l : itemsD (.list ds) = some ds := rfl
@[simp] theorem items_t : itemsD (.tuple ds) = some ds := rfl
@[simp] theorem walk_l : walkD (.list ds) = some ds := rfl
@[simp] theorem walk_t : walkD (.tuple ds) = some ds := rfl
@[simp] theorem ix_l : ixD (.list ds) (.int i) = atI ds i := rfl
@[simp] theorem ix_t : ixD (.tuple ds) (.int i) = atI ds i := rfl
@[simp] theorem tru_n : truD .none = some false := rfl
@[simp] theorem tru_b : truD (.bool k) = some k := rfl
@[simp] theorem tru_i : truD (.int i) = some (i != 0) := rfl
@[simp] theorem tru_l : truD (.list ds) = some (!ds.isEmpty) := rfl
@[simp] theorem tru_t : truD (.tuple ds) = some (!ds.isEmpty) := rfl
@[simp] theorem cut_l {o p : Option Int} : cutD (.list ds) o p = some (.list (cutL ds o p)) := rfl
@[simp] theorem cut_t {o p : Option Int} : cutD (.tuple ds) o p = some (.tuple (cutL ds o p)) := rfl
@[simp] theorem add_tt : addD (.tuple ds) (.tuple es) = if ds.length + es.length ≤ sizeLine then some (.tuple (ds ++ es)) else none := rfl
@[simp] theorem add_ll : addD (.list ds) (.list es) = if ds.length + es.length ≤ sizeLine then some (.list (ds ++ es)) else none := rfl
@[simp] theorem intsOf_m (ns : List Int) : intsOf (ns.map .int) = some ns := intsOf_ints ns
@[simp] theorem blsOf_f {α : Type} (p : α → Bool) (xs : List α) : blsOf (xs.map fun x => .bool (p x)) = some (xs.map p) := by
  rw [← blsOf_bls (xs.map p), List.map_map]
  rfl
@[simp] theorem intsOf_f {α : Type} (p : α → Int) (xs : List α) : intsOf (xs.map fun x => .int (p x)) = some (xs.map p) := by
  rw [← intsOf_ints (xs.map p), List.map_map]
  rfl
@[simp] theorem all_l : allD [.list ds] = (blsOf ds).map fun bs => .bool (bs.all id) := rfl
@[simp] theorem any_l : anyD [.list ds] = (blsOf ds).map fun bs => .bool (bs.any id) := rfl
@[simp] theorem sum_l (ns : List Int) : sumD [.list (ns.map .int)] = some (.int ns.sum) := by
  simp only [sumD, items_l, Option.bind_some, intsOf_ints, Option.map_some]
@[simp] theorem sum_t (ns : List Int) : sumD [.tuple (ns.map .int)] = some (.int ns.sum) := by
  simp only [sumD, items_t, Option.bind_some, intsOf_ints, Option.map_some]
@[simp] theorem blsOf_m (ns : List Bool) : blsOf (ns.map .bool) = some ns := blsOf_bls ns
theorem atI_nat {ds : List D} {n : Nat} (h : n < ds.length) : atI ds (n : Int) = some ds[n] := by
  unfold atI ixN
  rw [if_pos (by omega)]
  simp [h]
theorem atI_lit {ds : List D} {i : Int} (h0 : 0 ≤ i) (h : i < ds.length) : atI ds i = ds[i.toNat]? := by
  unfold atI ixN
  rw [if_pos h0]
  simp [h]
end
/-! ### places of int rows -/
theorem at_n (ns : List Int) {k : Nat} (h : k < ns.length) : atI (ns.map PyData.int) (k : Int) = some (.int (ns.getD k 0)) := by
  rw [atI_nat (by simpa using h)]
  simp [h]
theorem at_i (ns : List Int) {i : Int} (h0 : 0 ≤ i) (h : i < ns.length) : atI (ns.map PyData.int) i = some (.int (ns.getD i.toNat 0)) := by
  have := at_n ns (k := i.toNat) (by omega)
  rwa [Int.toNat_of_nonneg h0] at this
theorem at_last (ns : List Int) (h : ns ≠ []) : atI (ns.map PyData.int) (-1) = some (.int (ns.getLastD 0)) := by
  have hl : 0 < ns.length := List.length_pos_iff.mpr h
  unfold atI ixN
  rw [if_neg (by omega), List.length_map, if_pos (by omega), Option.bind_some]
  have e : (-1 + (ns.length : Int)).toNat = ns.length - 1 := by omega
  rw [e, List.getElem?_map, List.getElem?_eq_getElem (by omega), Option.map_some]
  congr 2
  rw [List.getLastD_eq_getLast?, List.getLast?_eq_getElem?, List.getElem?_eq_getElem (by omega)]
  rfl
theorem cut_to (ns : List Int) {i : Int} (h0 : 0 ≤ i) : cutL (ns.map PyData.int) none (some i) = (ns.take i.toNat).map .int := by
  unfold cutL HT.sIx
  simp only [List.length_map, if_neg (Int.not_lt.mpr h0), List.drop_zero, Nat.sub_zero, ← List.map_take]
  congr 1
  rw [List.take_eq_take_iff]
  omega
theorem cut_from (ns : List Int) {i : Int} (h0 : 0 ≤ i) : cutL (ns.map PyData.int) (some i) none = (ns.drop i.toNat).map .int := by
  unfold cutL HT.sIx
  simp only [List.length_map, if_neg (Int.not_lt.mpr h0), ← List.map_drop]
  by_cases h : i.toNat ≤ ns.length
  · rw [Nat.min_eq_left h, List.take_of_length_le (by simp)]
  · rw [Nat.min_eq_right (by omega)]
    simp [List.drop_eq_nil_of_le (by omega : ns.length ≤ i.toNat)]
theorem line_ge : 100000 ≤ sizeLine := by rw [sizeLine_eq]; decide
/-! ### pops -/
theorem erase_m {α β : Type} (f : α → β) : ∀ (l : List α) (k : Nat), (l.map f).eraseIdx k = (l.eraseIdx k).map f
  | [], _ => rfl
  | _ :: _, 0 => rfl
  | x :: l, k + 1 => congrArg (f x :: ·) (erase_m f l k)
theorem pop_at {ρ : Rho} {j : Nat} {f : Rho → Option D} {ns : List Int} {i : Int} (h1 : ρ[j]? = some (.ow (.list (ns.map .int)))) (h2 : f ρ = some (.int i)) (h0 : 0 ≤ i) (h : i < ns.length) (hb : ns.length ≤ 100000) :
    xPopAt j f ρ = some (.int (ns.getD i.toNat 0), ρ.set j (.ow (.list ((ns.eraseIdx i.toNat).map .int)))) := by
  unfold xPopAt
  rw [h1, h2]
  simp only [Option.bind_some]
  rw [if_pos (by omega)]
  have e : seqIndex? i (ns.map PyData.int).length = some i.toNat := by
    unfold seqIndex?
    simp only [if_neg (Int.not_lt.mpr h0), List.length_map]
    rw [if_pos (by simp; omega)]
  have hk : i.toNat < ns.length := by omega
  rw [e, Option.bind_some, List.getElem?_map, List.getElem?_eq_getElem hk]
  simp [hk, erase_m]
theorem appX_e {ρ ρ' : Rho} {j : Nat} {f : Rho → Option (D × Rho)} {ds0 ds : List D} {d : D} (h1 : f ρ = some (d, ρ')) (h2 : ρ[j]? = some (.ow (.list ds0))) (h3 : ρ'[j]? = some (.ow (.list ds))) (h : ds.length ≤ 90000) :
    bAppX j f ρ = some (.nx (ρ'.set j (.ow (.list (ds ++ [d]))))) := by
  unfold bAppX
  rw [h1]
  simp only [Option.bind_some]
  rw [h2, h3]
  simp only
  have := line_ge
  rw [if_pos (by omega)]
/-! ### while -/
def whO (c : Rho → Option Bool) (b : Bd) (n : Nat) : Out → Option Out
  | .nx ρ => whileL c b n ρ
  | .ct ρ => whileL c b n ρ
  | .bk ρ => some (.nx ρ)
  | .rt d => some (.rt d)
theorem whileL_s {c : Rho → Option Bool} {b : Bd} {n : Nat} {ρ : Rho} : whileL c b (n + 1) ρ = (c ρ).bind fun k => if k = true then (b ρ).bind (whO c b n) else some (.nx ρ) := by
  conv => lhs; unfold whileL
  congr
  try (funext k; split <;> rfl)
theorem whileL_go {c : Rho → Option Bool} {b : Bd} {n : Nat} {ρ ρ' : Rho} (h1 : c ρ = some true) (h2 : b ρ = some (.nx ρ')) : whileL c b (n + 1) ρ = whileL c b n ρ' := by
  rw [whileL_s, h1, Option.bind_some, if_pos rfl, h2]
  rfl
theorem whileL_end {c : Rho → Option Bool} {b : Bd} {n : Nat} {ρ : Rho} (h1 : c ρ = some false) : whileL c b (n + 1) ρ = some (.nx ρ) := by
  rw [whileL_s, h1, Option.bind_some, if_neg (by decide)]
/-! ### comprehensions, loops -/
def lcB (rs : List D) : Option D := if rs.length ≤ sizeLine then some (.list rs) else none
@[simp] theorem fLc_e {ρ : Rho} {f : Rho → Option (List D)} {s : D → Rho → Option Rho} {ft : Rho → Option Bool} {fe : Rho → Option D} {vs : List Nat} : fLc f s ft fe vs ρ = (f ρ).bind fun ds => (lcL (fun d => (s d (wipeR ρ vs)).bind ft) (fun d => (s d (wipeR ρ vs)).bind fe) ds).bind lcB := rfl
@[simp] theorem wipeR_n {ρ : Rho} : wipeR ρ [] = ρ := rfl
@[simp] theorem wipeR_c {ρ : Rho} {v : Nat} {vs : List Nat} : wipeR ρ (v :: vs) = (wipeR ρ vs).set v .un := rfl
theorem lcB_of {rs : List D} (h : rs.length ≤ sizeLine) : lcB rs = some (.list rs) := if_pos h
theorem lcB_small {rs : List D} (h : rs.length ≤ 100000) : lcB rs = some (.list rs) := if_pos (Nat.le_trans h line_ge)
theorem rg1_n {k : Nat} (h : k ≤ 100000) : rg1D [.int (k : Int)] = some ((List.range k).map fun i => .int (i : Nat)) := by
  rw [rg1D, if_pos (by omega), Int.toNat_natCast]
  unfold rgD
  simp
theorem rg1_i {i : Int} (h : 0 ≤ i ∧ i ≤ 100000) : rg1D [.int i] = some ((List.range i.toNat).map fun i => .int (i : Nat)) := by
  have := rg1_n (k := i.toNat) (by omega)
  rwa [Int.toNat_of_nonneg h.1] at this
theorem lr1_n {k : Nat} (h : k ≤ 100000) : rgD 0 k = (List.range k).map fun i => .int (i : Nat) := by
  unfold rgD
  simp
theorem same_filter {ns ms : List Int} (h : ns.length = ms.length) : ((List.range ns.length).filter fun k => !(ns.getD k 0 == ms.getD k 0)).isEmpty = decide (ns = ms) := by
  by_cases e : ns = ms
  · subst e
    simp
  · rw [decide_eq_false e]
    cases hb : ((List.range ns.length).filter fun k => !(ns.getD k 0 == ms.getD k 0)).isEmpty with
    | false => rfl
    | true =>
      exfalso
      apply e
      have hn := List.isEmpty_iff.mp hb
      rw [List.filter_eq_nil_iff] at hn
      apply List.ext_getElem h
      intro k h1 h2
      have := hn k (by simpa using h1)
      simp only [Bool.not_eq_true, Bool.not_eq_false'] at this
      have := eq_of_beq this
      simpa [List.getD_eq_getElem?_getD, h1, h2] using this
theorem forL_ex {α : Type} {step : D → Bd} {xs : List α} {mk : α → D} (inv : Nat → Rho → Prop) : ∀ (ρ : Rho), inv 0 ρ → (∀ (k : Nat) (ρ : Rho) (x : α), inv k ρ → xs[k]? = some x → ∃ ρ', (step (mk x) ρ = some (.nx ρ') ∨ step (mk x) ρ = some (.ct ρ')) ∧ inv (k + 1) ρ') →
    ∃ ρ', forL step (xs.map mk) ρ = some (.nx ρ') ∧ inv xs.length ρ' := by
  induction xs generalizing inv with
  | nil => intro ρ h _; exact ⟨ρ, rfl, h⟩
  | cons x xs ih =>
    intro ρ h0 h
    obtain ⟨ρ1, h1, h2⟩ := h 0 ρ x h0 rfl
    obtain ⟨ρ2, h3, h4⟩ := ih (fun k => inv (k + 1)) ρ1 h2 (fun k ρ' y hk hy => h (k + 1) ρ' y hk (by simpa using hy))
    refine ⟨ρ2, ?_, h4⟩
    rw [List.map_cons]
    unfold forL
    rcases h1 with h1 | h1 <;> rw [h1] <;> exact h3
theorem shpA_ints : ∀ (ns : List Int), PyData.canLayAll0 (ns.map .int) = true ∧ PyData.depthAll (ns.map .int) = 0
  | [] => ⟨rfl, rfl⟩
  | n :: ns => by
    obtain ⟨h1, h2⟩ := shpA_ints ns
    refine ⟨?_, ?_⟩
    · rw [List.map_cons]
      unfold PyData.canLayAll0
      rw [h1]
      rfl
    · rw [List.map_cons]
      unfold PyData.depthAll
      rw [h2]
      rfl
@[simp] theorem shp_l (ns : List Int) : SeqAt.shaped (.list (ns.map .int)) = true := by
  obtain ⟨h1, h2⟩ := shpA_ints ns
  unfold SeqAt.shaped PyData.canLay0 PyData.depth
  rw [h1, h2]
  rfl
@[simp] theorem shp_t (ns : List Int) : SeqAt.shaped (.tuple (ns.map .int)) = true := by
  obtain ⟨h1, h2⟩ := shpA_ints ns
  unfold SeqAt.shaped PyData.canLay0 PyData.depth
  rw [h1, h2]
  rfl
theorem eqvA_ints : ∀ (ns ms : List Int), PyData.eqvAll (ns.map .int) (ms.map .int) = decide (ns = ms)
  | [], [] => rfl
  | [], _ :: _ => rfl
  | _ :: _, [] => rfl
  | n :: ns, m :: ms => by
    rw [List.map_cons, List.map_cons]
    unfold PyData.eqvAll
    rw [eqvA_ints ns ms]
    have e : PyData.eqv (.int n) (.int m) = decide (n = m) := by
      unfold PyData.eqv
      by_cases h : n = m <;> simp [h]
    rw [e]
    by_cases h : n = m <;> by_cases h' : ns = ms <;> simp [h, h']
@[simp] theorem eq_ll (ns ms : List Int) : eqD (.list (ns.map .int)) (.list (ms.map .int)) = some (.bool (decide (ns = ms))) := by
  unfold eqD
  rw [if_pos ⟨shp_l ns, shp_l ms⟩, ← eqvA_ints]
  rfl
@[simp] theorem eq_tt (ns ms : List Int) : eqD (.tuple (ns.map .int)) (.tuple (ms.map .int)) = some (.bool (decide (ns = ms))) := by
  unfold eqD
  rw [if_pos ⟨shp_t ns, shp_t ms⟩, ← eqvA_ints]
  rfl
@[simp] theorem eq_l0 (ns : List Int) : eqD (.list (ns.map .int)) (.list []) = some (.bool (decide (ns = []))) := eq_ll ns []
@[simp] theorem eq_f0 {α : Type} (p : α → Int) (L : List α) : eqD (.list (L.map fun x => .int (p x))) (.list []) = some (.bool L.isEmpty) := by
  have e : (L.map fun x => PyData.int (p x)) = (L.map p).map .int := by rw [List.map_map]; rfl
  rw [e, eq_l0]
  cases L <;> simp
@[simp] theorem ne_l0 (ns : List Int) : neD (.list (ns.map .int)) (.list []) = some (.bool (!decide (ns = []))) := by
  unfold neD
  rw [if_pos ⟨shp_l ns, shp_l []⟩]
  have := eqvA_ints ns []
  show some (PyData.bool (!PyData.eqvAll (ns.map .int) ([].map .int))) = _
  rw [this]
theorem mem_ints (i : Int) (ns : List Int) : memD (.int i) (ns.map .int) = decide (i ∈ ns) := by
  unfold memD
  induction ns with
  | nil => rfl
  | cons n ns ih =>
    rw [List.map_cons, List.any_cons, ih]
    have e : PyData.eqv (.int n) (.int i) = decide (n = i) := by
      unfold PyData.eqv
      by_cases h : n = i <;> simp [h]
    rw [e]
    by_cases h : n = i
    · subst h; simp
    · have h2 : ¬ i = n := fun z => h z.symm
      simp [h, h2]
@[simp] theorem in_l (i : Int) (ns : List Int) : inD (.int i) (.list (ns.map .int)) = some (.bool (decide (i ∈ ns))) := by
  unfold inD
  rw [items_l, Option.bind_some, if_pos ⟨shp_int, shp_l ns⟩, mem_ints]
@[simp] theorem in_t (i : Int) (ns : List Int) : inD (.int i) (.tuple (ns.map .int)) = some (.bool (decide (i ∈ ns))) := by
  unfold inD
  rw [items_t, Option.bind_some, if_pos ⟨shp_int, shp_t ns⟩, mem_ints]
@[simp] theorem notIn_l (i : Int) (ns : List Int) : notInD (.int i) (.list (ns.map .int)) = some (.bool (!decide (i ∈ ns))) := by
  unfold notInD
  rw [items_l, Option.bind_some, if_pos ⟨shp_int, shp_l ns⟩, mem_ints]
@[simp] theorem notIn_t (i : Int) (ns : List Int) : notInD (.int i) (.tuple (ns.map .int)) = some (.bool (!decide (i ∈ ns))) := by
  unfold notInD
  rw [items_t, Option.bind_some, if_pos ⟨shp_int, shp_t ns⟩, mem_ints]
theorem lcL_map {tt : D → Option Bool} {te : D → Option D} {α : Type} {xs : List α} {mk : α → D} {p : α → Bool} {g : α → D} (ht : ∀ x ∈ xs, tt (mk x) = some (p x)) (he : ∀ x ∈ xs, p x = true → te (mk x) = some (g x)) :
    lcL tt te (xs.map mk) = some ((xs.filter p).map g) := by
  induction xs with
  | nil => rfl
  | cons x xs ih =>
    have ih' := ih (fun y hy => ht y (List.mem_cons_of_mem _ hy)) (fun y hy => he y (List.mem_cons_of_mem _ hy))
    rw [List.map_cons]
    unfold lcL
    rw [ht x List.mem_cons_self]
    cases hp : p x with
    | true => simp [he x List.mem_cons_self hp, ih', hp]
    | false => simp [ih', hp]
/-- a comprehension without if -/
theorem lcL_all {tt : D → Option Bool} {te : D → Option D} {α : Type} {xs : List α} {mk : α → D} {g : α → D} (ht : ∀ x ∈ xs, tt (mk x) = some true) (he : ∀ x ∈ xs, te (mk x) = some (g x)) :
    lcL tt te (xs.map mk) = some (xs.map g) := by
  have := lcL_map (p := fun _ => true) ht (fun x hx _ => he x hx)
  rw [List.filter_eq_self.mpr (fun _ _ => rfl)] at this
  exact this
/-- a for loop whose every turn goes on -/
theorem forL_fold {σ α : Type} {step : D → Bd} {xs : List α} {mk : α → D} {enc : σ → Rho} {st : σ → α → σ} (inv : Nat → σ → Prop) : ∀ (s : σ), inv 0 s → (∀ (k : Nat) (s : σ) (x : α), inv k s → xs[k]? = some x → inv (k + 1) (st s x) ∧ (step (mk x) (enc s) = some (.nx (enc (st s x))) ∨ step (mk x) (enc s) = some (.ct (enc (st s x))))) →
    forL step (xs.map mk) (enc s) = some (.nx (enc (xs.foldl st s))) ∧ inv xs.length (xs.foldl st s) := by
  induction xs generalizing inv with
  | nil => intro s h _; exact ⟨rfl, h⟩
  | cons x xs ih =>
    intro s h0 h
    obtain ⟨h1, h2⟩ := h 0 s x h0 rfl
    have := ih (fun k => inv (k + 1)) (st s x) h1 (fun k s' y hk hy => h (k + 1) s' y hk (by simpa using hy))
    refine ⟨?_, this.2⟩
    rw [List.map_cons]
    unfold forL
    rcases h2 with h2 | h2 <;> rw [h2] <;> exact this.1
end Q
end

/-! part: Q14 -/
section
set_option Elab.async false
set_option linter.all false
set_option maxRecDepth 100000
set_option maxHeartbeats 4000000
set_option autoImplicit false
namespace Q
open PySem PySem.Spec PySem.Calls PyProof.Rows L2
/-! ### the same operations, quick for the kernel -/
def ltF : D → D → Option D
  | .int a, .int b => some (.bool (decide (a < b)))
  | d, e => ltD d e
def gtF : D → D → Option D
  | .int a, .int b => some (.bool (decide (b < a)))
  | d, e => gtD d e
def leF : D → D → Option D
  | .int a, .int b => some (.bool (decide (a ≤ b)))
  | d, e => leD d e
def geF : D → D → Option D
  | .int a, .int b => some (.bool (decide (b ≤ a)))
  | d, e => geD d e
def eqF : D → D → Option D
  | .int a, .int b => some (.bool (a == b))
  | .list ds, .list [] => match intsOf ds with
    | some ns => some (.bool (decide (ns = [])))
    | none => eqD (.list ds) (.list [])
  | d, e => eqD d e
def neF : D → D → Option D
  | .int a, .int b => some (.bool (!(a == b)))
  | .list ds, .list [] => match intsOf ds with
    | some ns => some (.bool (!decide (ns = [])))
    | none => neD (.list ds) (.list [])
  | d, e => neD d e
def inF : D → D → Option D
  | .int a, .list ds => match intsOf ds with
    | some ns => some (.bool (decide (a ∈ ns)))
    | none => inD (.int a) (.list ds)
  | .int a, .tuple ds => match intsOf ds with
    | some ns => some (.bool (decide (a ∈ ns)))
    | none => inD (.int a) (.tuple ds)
  | d, e => inD d e
def notInF : D → D → Option D
  | .int a, .list ds => match intsOf ds with
    | some ns => some (.bool (!decide (a ∈ ns)))
    | none => notInD (.int a) (.list ds)
  | .int a, .tuple ds => match intsOf ds with
    | some ns => some (.bool (!decide (a ∈ ns)))
    | none => notInD (.int a) (.tuple ds)
  | d, e => notInD d e
theorem ltF_eq : ltD = ltF := by
  funext d e
  unfold ltF
  split <;> simp
theorem gtF_eq : gtD = gtF := by
  funext d e
  unfold gtF
  split <;> simp
theorem leF_eq : leD = leF := by
  funext d e
  unfold leF
  split <;> simp
theorem geF_eq : geD = geF := by
  funext d e
  unfold geF
  split <;> simp
theorem eqF_eq : eqD = eqF := by
  funext d e
  unfold eqF
  split
  · simp
  · split
    · rename_i h
      rw [intsOf_map h, eq_l0]
    · rfl
  · rfl
theorem neF_eq : neD = neF := by
  funext d e
  unfold neF
  split
  · simp
  · split
    · rename_i h
      rw [intsOf_map h, ne_l0]
    · rfl
  · rfl
theorem inF_eq : inD = inF := by
  funext d e
  unfold inF
  split
  · split
    · rename_i h
      rw [intsOf_map h, in_l]
    · rfl
  · split
    · rename_i h
      rw [intsOf_map h, in_t]
    · rfl
  · rfl
theorem notInF_eq : notInD = notInF := by
  funext d e
  unfold notInF
  split
  · split
    · rename_i h
      rw [intsOf_map h, notIn_l]
    · rfl
  · split
    · rename_i h
      rw [intsOf_map h, notIn_t]
    · rfl
  · rfl
/-! min, max of a list of ints -/
theorem bestOk_ints (xs : List Int) : bestOk (xs.map .int) = true := by
  unfold bestOk
  rw [(shpA_ints xs).2]
  simp only [Bool.and_eq_true, List.all_eq_true, List.mem_map, forall_exists_index, and_imp, forall_apply_eq_imp_iff₂]
  refine ⟨⟨fun a _ b _ => ?_, fun a _ => trivial⟩, by decide⟩
  with_unfolding_all rfl
theorem minOf_i (n : Int) (ns : List Int) : minOf ((n :: ns).map .int) = some (.int (ns.foldl min n)) := by
  have h := bestOk_ints (n :: ns)
  rw [List.map_cons] at h ⊢
  rw [minOf, if_pos h, PySem.W.minD_ints]
theorem maxOf_i (n : Int) (ns : List Int) : maxOf ((n :: ns).map .int) = some (.int (ns.foldl max n)) := by
  have h := bestOk_ints (n :: ns)
  rw [List.map_cons] at h ⊢
  rw [maxOf, if_pos h, PySem.W.maxD_ints]
def minF : List D → Option D
  | [.list ds] => match intsOf ds with
    | some (n :: ns) => some (.int (ns.foldl min n))
    | _ => minA [.list ds]
  | ds => minA ds
def maxF : List D → Option D
  | [.list ds] => match intsOf ds with
    | some (n :: ns) => some (.int (ns.foldl max n))
    | _ => maxA [.list ds]
  | ds => maxA ds
theorem minF_eq : minA = minF := by
  funext ds
  unfold minF
  split
  · split
    · rename_i h
      rw [intsOf_map h, minA, items_l, Option.bind_some, minOf_i]
    · rfl
  · rfl
theorem maxF_eq : maxA = maxF := by
  funext ds
  unfold maxF
  split
  · split
    · rename_i h
      rw [intsOf_map h, maxA, items_l, Option.bind_some, maxOf_i]
    · rfl
  · rfl
end Q
end

/-! part: Q15 -/
section
set_option Elab.async false
set_option linter.all false
set_option maxRecDepth 100000
set_option maxHeartbeats 4000000
set_option autoImplicit false
namespace Q
open PySem PySem.Spec PySem.Calls PyProof.Rows L2
/-! ### x.index(y), x.count(y): lists and tuples of data -/
section
variable {X : Cx} {pins : List (Addr × Obj)} {σ : L2.St} {H : Hp} {s : Shared}
theorem tupAt_is (I : Inv X pins σ H s) {a : Addr} {xs : List V} (h : TupAt X.K H a xs) : s.TypeIs (.ref a) "tuple" ∧ ∀ b, Value.ref a = .ref b → ∃ ob, s.heap.get? b = some ob ∧ ob.dict = none := by
  rcases h with ⟨o, h, hc, hd⟩ | ⟨o, its, n, h, hc, hd, _⟩
  · have e := (I.hok a _ h).1
    exact ⟨⟨o, e, hc⟩, fun b z => by cases z; exact ⟨o, e, hd⟩⟩
  · have e := I.kIn a o h
    exact ⟨⟨o, e, hc⟩, fun b z => by cases z; exact ⟨o, e, hd⟩⟩
theorem listAt_is (I : Inv X pins σ H s) {a : Addr} {xs : List V} (h : SqL X.K H a xs) : s.TypeIs (.ref a) "list" ∧ ∀ b, Value.ref a = .ref b → ∃ ob, s.heap.get? b = some ob ∧ ob.dict = none := by
  obtain ⟨its, _, pl, _⟩ := I.list h
  refine ⟨pl.isList.typeIs, fun b z => ?_⟩
  cases z
  obtain ⟨o, n, e, c, hd, _⟩ := pl
  exact ⟨o, e, hd⟩
/-- a method of lists or of tuples -/
def tSM (K : PySem.W.Frag) (rl rt : V → List V → Hp → VK → Prop) (to : TE) (t : TA) : TE := fun σ H Q => to σ H fun x H1 =>
  ((∃ p xs, x = V.ref p ∧ SqL K H1 p xs) ∧ t σ H1 fun ys H2 => rl x ys H2 Q) ∨ ((∃ p xs, x = V.ref p ∧ TupAt K H1 p xs) ∧ t σ H1 fun ys H2 => rt x ys H2 Q)
variable {o e : Expr} {es : List Expr} {to : TE} {t : TA} {name : Str} {apos cpos : Pos} {idl idt : String} {rl rt : V → List V → Hp → VK → Prop}
theorem pe_sm (sl : Slot "list" name idl) (hl : typeOf (.builtin idl) = pure (.type "method_descriptor")) (ml : MtR X idl rl) (st : Slot "tuple" name idt) (ht : typeOf (.builtin idt) = pure (.type "method_descriptor")) (mt : MtR X idt rt)
    (ho : PE X o to) (ha : PA X (e :: es) t) (hbase : attributeBase o name X.env (eval o X.env) = eval o X.env := by rfl)
    (hfew : ((backTo cpos (starEach (e :: es) X.env)).all (fun x => !x.1) && (backToKw cpos (keywordEach [] X.env)).all (fun x => x.1.isSome)
        && decide ((e :: es).length + ([] : List Keyword).length + (if ([] : List Keyword).isEmpty then 0 else 1) < 30)) = true := by rfl)
    (hline : (apos.endLine == cpos.line) = true := by rfl) (hs : starEach (e :: es) X.env = (false, eval e X.env) :: starEach es X.env := by rfl) (hplain : (backTo cpos (starEach es X.env)).any (·.1) = false := by rfl) :
    PE X (.Call (.Attribute o name apos) (e :: es) [] cpos) (tSM X.K rl rt to t) := by
  constructor
  intro pins s σ H Q I h
  refine wpAny_Call_method_late hbase hfew hline rfl (thn (ho.run pins s σ H _ I h) fun v s1 ⟨x, H1, I1, r1, q1⟩ => ?_)
  rcases q1 with ⟨⟨p, xs, rfl, hx⟩, q1⟩ | ⟨⟨p, xs, rfl, hx⟩, q1⟩
  · cases r1
    obtain ⟨h1, h2⟩ := listAt_is I1 hx
    refine ⟨"list", idl, PySem.F.plainAttrs_list, sl, hl, h1, h2, ?_⟩
    have hA := ha.run cpos pins s1 σ H1 _ I1 q1
    rw [hs] at hA ⊢
    exact Calls.callWith_builtin (by show (false || (backTo cpos (starEach es X.env)).any (·.1)) = false; rw [hplain] <;> rfl) (Calls.evalArgs_plain (thn hA fun us s2 ⟨vs, H2, I2, r2, q2⟩ => ml pins s2 σ H2 (V.ref p) vs _ us Q I2 rfl r2 q2))
  · cases r1
    obtain ⟨h1, h2⟩ := tupAt_is I1 hx
    refine ⟨"tuple", idt, PySem.F.plainAttrs_tuple, st, ht, h1, h2, ?_⟩
    have hA := ha.run cpos pins s1 σ H1 _ I1 q1
    rw [hs] at hA ⊢
    exact Calls.callWith_builtin (by show (false || (backTo cpos (starEach es X.env)).any (·.1)) = false; rw [hplain] <;> rfl) (Calls.evalArgs_plain (thn hA fun us s2 ⟨vs, H2, I2, r2, q2⟩ => mt pins s2 σ H2 (V.ref p) vs _ us Q I2 rfl r2 q2))
end
mutual
theorem nd_plain : ∀ d : D, d.plain = true → nd d = true
  | .none, _ => rfl
  | .bool _, _ => rfl
  | .int _, _ => rfl
  | .str _, _ => rfl
  | .list xs, h => by rw [nd]; exact nd_plainA xs (by simpa [PyData.plain] using h)
  | .tuple xs, h => by rw [nd]; exact nd_plainA xs (by simpa [PyData.plain] using h)
  | .dict _, h => by simp [PyData.plain] at h
theorem nd_plainA : ∀ ds : List D, PyData.plainAll ds = true → ndA ds = true
  | [], _ => by rw [ndA]
  | x :: xs, h => by
    rw [ndA]
    rw [PyData.plainAll, Bool.and_eq_true] at h
    rw [nd_plain x h.1, nd_plainA xs h.2]
    rfl
end
/-- what the two methods ask of the data -/
def smOk (d : D) (ds : List D) : Bool := PyData.plainAll ds && d.plain && decide (d.depth ≤ 64)
def rCntL (K : PySem.W.Frag) : V → List V → Hp → VK → Prop := fun x ys H Q => ∃ a y d ds, x = V.ref a ∧ ys = [y] ∧ Dp K H (.ref a) (.list ds) ∧ Dp K H y d ∧ smOk d ds = true ∧ Q (.int ((ds.countP fun z => PyData.eqv z d : Nat) : Int)) H
def rCntT (K : PySem.W.Frag) : V → List V → Hp → VK → Prop := fun x ys H Q => ∃ a y d ds, x = V.ref a ∧ ys = [y] ∧ Dp K H (.ref a) (.tuple ds) ∧ Dp K H y d ∧ smOk d ds = true ∧ Q (.int ((ds.countP fun z => PyData.eqv z d : Nat) : Int)) H
def rIdxL (K : PySem.W.Frag) : V → List V → Hp → VK → Prop := fun x ys H Q => ∃ a y d ds j, x = V.ref a ∧ ys = [y] ∧ Dp K H (.ref a) (.list ds) ∧ Dp K H y d ∧ smOk d ds = true ∧ SeqAt.dataPlace ds d = some j ∧ Q (.int (j : Nat)) H
def rIdxT (K : PySem.W.Frag) : V → List V → Hp → VK → Prop := fun x ys H Q => ∃ a y d ds j, x = V.ref a ∧ ys = [y] ∧ Dp K H (.ref a) (.tuple ds) ∧ Dp K H y d ∧ smOk d ds = true ∧ SeqAt.dataPlace ds d = some j ∧ Q (.int (j : Nat)) H
theorem smOk_of {d : D} {ds : List D} (h : smOk d ds = true) : PyData.plainAll ds = true ∧ d.plain = true ∧ d.depth ≤ 64 := by
  unfold smOk at h
  simp only [Bool.and_eq_true, decide_eq_true_eq] at h
  exact ⟨h.1.1, h.1.2, h.2⟩
section
variable {X : Cx}
theorem room_sm {A : Around} {d : D} {ds : List D} (h : d.depth ≤ 64) (hu : A.units + 65 < cLine) : A.units + 1 + min (PyData.depthAll ds) d.depth < cLine := by
  have : min (PyData.depthAll ds) d.depth ≤ d.depth := Nat.min_le_right _ _
  omega
theorem vals_one {y : V} {us : List Value} (h : Vals [y] us) : ∃ u, us = [u] ∧ RelV y u := by
  cases h with
  | cons r t => cases t; exact ⟨_, rfl, r⟩
theorem mt_cntL (hu : X.A.units + 65 < cLine) : MtR X "list.count" (rCntL X.K) := by
  intro pins s σ H x xs v us Q I rx rxs ⟨a, y, d, ds, e1, e2, hl, hy, ok, q⟩
  subst e1 e2
  cases rx
  obtain ⟨u, rfl, ry⟩ := vals_one rxs
  obtain ⟨h1, h2, h3⟩ := smOk_of ok
  obtain ⟨bs, rd⟩ := Dp.reads I d y u hy ry
  cases hl with
  | lst hs ha =>
    obtain ⟨its, rv, pl, hz⟩ := I.list hs
    obtain ⟨as, ra⟩ := Dp.readsAll I ds _ its ha rv
    exact SeqAt.count_list_data pl.isList (show ReadsAll s.heap its.toArray.toList ds as from ra) rd h1 h2 (room_sm h3 hu) ⟨.int ((ds.countP fun z => PyData.eqv z d : Nat) : Int), H, I.tok _, ⟨_, rfl⟩, q⟩
theorem mt_cntT (hu : X.A.units + 65 < cLine) : MtR X "tuple.count" (rCntT X.K) := by
  intro pins s σ H x xs v us Q I rx rxs ⟨a, y, d, ds, e1, e2, hl, hy, ok, q⟩
  subst e1 e2
  cases rx
  obtain ⟨u, rfl, ry⟩ := vals_one rxs
  obtain ⟨h1, h2, h3⟩ := smOk_of ok
  obtain ⟨bs, rd⟩ := Dp.reads I d y u hy ry
  cases hl with
  | tup hs ha =>
    obtain ⟨its, rv, pl, hz⟩ := I.tuple hs
    obtain ⟨as, ra⟩ := Dp.readsAll I ds _ its ha rv
    exact SeqAt.count_tuple_data pl (show ReadsAll s.heap its.toArray.toList ds as from ra) rd h1 h2 (room_sm h3 hu) ⟨.int ((ds.countP fun z => PyData.eqv z d : Nat) : Int), H, I.tok _, ⟨_, rfl⟩, q⟩
theorem mt_idxL (hu : X.A.units + 65 < cLine) : MtR X "list.index" (rIdxL X.K) := by
  intro pins s σ H x xs v us Q I rx rxs ⟨a, y, d, ds, j, e1, e2, hl, hy, ok, hj, q⟩
  subst e1 e2
  cases rx
  obtain ⟨u, rfl, ry⟩ := vals_one rxs
  obtain ⟨h1, h2, h3⟩ := smOk_of ok
  obtain ⟨bs, rd⟩ := Dp.reads I d y u hy ry
  cases hl with
  | lst hs ha =>
    obtain ⟨its, rv, ⟨⟨cls, dd, data, sl⟩, n, ho, hc, hdn, hdt⟩, hz⟩ := I.list hs
    simp only at hc hdt
    subst hc hdt
    obtain ⟨as, ra⟩ := Dp.readsAll I ds _ its ha rv
    have ra' : ReadsAll s.heap its.toArray.toList ds as := ra
    obtain ⟨k1, k2, k3⟩ := SeqAt.hit_at ra' h1 hj
    have hsz : its.toArray.size ≤ sizeLine := by rw [List.size_toArray, ← rv.length]; exact hz
    have hsl := sizeLine_eq
    exact call_meets PySem.F.slot_list_index ⟨_, ho, rfl⟩ PySem.F.entry_list_index (PySem.F.args_list_index_2 _ _) (SeqAt.list_indexAt a its.toArray n dd sl u (fun z => PyData.eqv (SeqAt.readOf s.heap z) d) j k1 (by omega) k2 k3)
      ⟨ho, SeqAt.items_plain ra' rd h1 h2 (room_sm h3 hu), ⟨.int (j : Nat), H, I.tok _, ⟨_, rfl⟩, q⟩⟩
theorem mt_idxT (hu : X.A.units + 65 < cLine) : MtR X "tuple.index" (rIdxT X.K) := by
  intro pins s σ H x xs v us Q I rx rxs ⟨a, y, d, ds, j, e1, e2, hl, hy, ok, hj, q⟩
  subst e1 e2
  cases rx
  obtain ⟨u, rfl, ry⟩ := vals_one rxs
  obtain ⟨h1, h2, h3⟩ := smOk_of ok
  obtain ⟨bs, rd⟩ := Dp.reads I d y u hy ry
  cases hl with
  | tup hs ha =>
    obtain ⟨its, rv, ⟨⟨cls, dd, data, sl⟩, ho, hc, n, hdt⟩, hz⟩ := I.tuple hs
    simp only at hc hdt
    subst hc hdt
    obtain ⟨as, ra⟩ := Dp.readsAll I ds _ its ha rv
    have ra' : ReadsAll s.heap its.toArray.toList ds as := ra
    obtain ⟨k1, k2, k3⟩ := SeqAt.hit_at ra' h1 hj
    exact call_meets PySem.F.slot_tuple_index ⟨_, ho, rfl⟩ PySem.F.entry_tuple_index (PySem.F.args_tuple_index_2 _ _) (TI.tuple_indexAt a its.toArray n dd sl u (fun z => PyData.eqv (SeqAt.readOf s.heap z) d) j k1 k2 k3)
      ⟨ho, SeqAt.items_plain ra' rd h1 h2 (room_sm h3 hu), ⟨.int (j : Nat), H, I.tok _, ⟨_, rfl⟩, q⟩⟩
end
def cntD (d e : D) : Option D := (itemsD d).bind fun ds => if smOk e ds = true then some (.int ((ds.countP fun z => PyData.eqv z e : Nat) : Int)) else none
def idxD (d e : D) : Option D := (itemsD d).bind fun ds => if smOk e ds = true then (SeqAt.dataPlace ds e).map fun j => .int (j : Nat) else none
section
variable {X : Cx} {m m1 m2 : Md} {o e : Expr} {to te : TE} {f g : Rho → Option D} {apos cpos : Pos}
theorem if_opt {α : Type} {p : Prop} [Decidable p] {x : Option α} {z : α} (h : (if p then x else none) = some z) : p ∧ x = some z := by
  by_cases hp : p
  · rw [if_pos hp] at h; exact ⟨hp, h⟩
  · rw [if_neg hp] at h; cases h
theorem sem_sm {K : PySem.W.Frag} {rl rt : V → List V → Hp → VK → Prop} {h : D → D → Option D}
    (hl : ∀ (F H : Hp) (x y : V) (ds : List D) (d z : D) (Q : VK), (∃ a, x = V.ref a ∧ Dp K H x (.list ds)) → Dp K H y d → Same F H → h (.list ds) d = some z → (∀ v F' H', Ext F H F' H' → Res K .fz H F' H' v z → Q v H') → rl x [y] H Q)
    (ht : ∀ (F H : Hp) (x y : V) (ds : List D) (d z : D) (Q : VK), (∃ a, x = V.ref a ∧ Dp K H x (.tuple ds)) → Dp K H y d → Same F H → h (.tuple ds) d = some z → (∀ v F' H', Ext F H F' H' → Res K .fz H F' H' v z → Q v H') → rt x [y] H Q)
    (hn : ∀ d e z, h d e = some z → ∃ ds, itemsD d = some ds ∧ smOk e ds = true) (ho : SemE K m1 to f) (ha : SemE K m2 te g) : SemE K .fz (tSM K rl rt to (tCons te tNil)) (f2 h f g) := by
  intro B F H σ ρ z Q r hf q
  obtain ⟨d, h1, h2⟩ := bind_some hf
  obtain ⟨e, h3, h4⟩ := bind_some h2
  obtain ⟨ds, hd, hsm⟩ := hn d e z h4
  obtain ⟨n1, n2, _⟩ := smOk_of hsm
  have n1 := nd_plainA _ n1
  have n2 := nd_plain _ n2
  refine ho B F H σ ρ d _ r h1 fun v F1 H1 x1 r1 => ?_
  cases d with
  | list ds' =>
    obtain ⟨a, xs, rfl, s1, p1⟩ := r1.list x1.s
    refine .inl ⟨⟨a, xs, rfl, s1⟩, ?_⟩
    refine ha B F1 H1 σ ρ e _ (r.ext x1) h3 fun u F2 H2 x2 r2 => ?_
    have x3 := x1.trans x2
    exact hl F2 H2 _ u ds' e z Q ⟨a, rfl, (r1.mono x2).dp x2.s (by cases hd; rw [nd]; exact n1)⟩ (r2.dp x2.s n2) x2.s h4 fun v' F' H' x' r' => q v' F' H' (x3.trans x') (r'.back (F1 := F2) (x1.h.trans x2.h))
  | tuple ds' =>
    obtain ⟨a, xs, rfl, s1, p1⟩ := r1.tup x1.s
    refine .inr ⟨⟨a, xs, rfl, s1⟩, ?_⟩
    refine ha B F1 H1 σ ρ e _ (r.ext x1) h3 fun u F2 H2 x2 r2 => ?_
    have x3 := x1.trans x2
    exact ht F2 H2 _ u ds' e z Q ⟨a, rfl, (r1.mono x2).dp x2.s (by cases hd; rw [nd]; exact n1)⟩ (r2.dp x2.s n2) x2.s h4 fun v' F' H' x' r' => q v' F' H' (x3.trans x') (r'.back (F1 := F2) (x1.h.trans x2.h))
  | _ => cases hd
theorem de_index (K' : PySem.W.Frag) (hu : X.A.units + 65 < cLine) (ho : DE X m1 o to f) (he : DE X m2 e te g) (hK : X.K = K' := by rfl) (hbase : attributeBase o "index" X.env (eval o X.env) = eval o X.env := by rfl)
    (hfew : ((backTo cpos (starEach [e] X.env)).all (fun x => !x.1) && (backToKw cpos (keywordEach [] X.env)).all (fun x => x.1.isSome)
        && decide ([e].length + ([] : List Keyword).length + (if ([] : List Keyword).isEmpty then 0 else 1) < 30)) = true := by rfl)
    (hline : (apos.endLine == cpos.line) = true := by rfl) (hs : starEach [e] X.env = (false, eval e X.env) :: starEach [] X.env := by rfl) (hplain : (backTo cpos (starEach [] X.env)).any (·.1) = false := by rfl) :
    DE X .fz (.Call (.Attribute o "index" apos) [e] [] cpos) (tSM K' (rIdxL K') (rIdxT K') to (tCons te tNil)) (f2 idxD f g) := by
  subst hK
  refine ⟨pe_sm PySem.F.slot_list_index PySem.F.type_list_index (mt_idxL hu) PySem.F.slot_tuple_index PySem.F.type_tuple_index (mt_idxT hu) ho.p (pa_cons he.p pa_nil hs) hbase hfew hline hs hplain, sem_sm (fun F H x y ds d z Q ⟨a, ex, hx⟩ hy fh hz q => ?_) (fun F H x y ds d z Q ⟨a, ex, hx⟩ hy fh hz q => ?_) (fun d e z h => ?_) ho.s he.s⟩
  · subst ex
    obtain ⟨h1, h2⟩ := if_opt (show (if smOk d ds = true then ((SeqAt.dataPlace ds d).map fun j => PyData.int (j : Nat)) else none) = some z from hz)
    obtain ⟨j, h3, rfl⟩ := Option.map_eq_some_iff.mp h2
    exact ⟨a, y, d, ds, j, rfl, rfl, hx, hy, h1, h3, q _ F H (.refl fh) (Rep.int _)⟩
  · subst ex
    obtain ⟨h1, h2⟩ := if_opt (show (if smOk d ds = true then ((SeqAt.dataPlace ds d).map fun j => PyData.int (j : Nat)) else none) = some z from hz)
    obtain ⟨j, h3, rfl⟩ := Option.map_eq_some_iff.mp h2
    exact ⟨a, y, d, ds, j, rfl, rfl, hx, hy, h1, h3, q _ F H (.refl fh) (Rep.int _)⟩
  · obtain ⟨ds, h1, h2⟩ := bind_some h
    exact ⟨ds, h1, (if_opt h2).1⟩
theorem de_count (K' : PySem.W.Frag) (hu : X.A.units + 65 < cLine) (ho : DE X m1 o to f) (he : DE X m2 e te g) (hK : X.K = K' := by rfl) (hbase : attributeBase o "count" X.env (eval o X.env) = eval o X.env := by rfl)
    (hfew : ((backTo cpos (starEach [e] X.env)).all (fun x => !x.1) && (backToKw cpos (keywordEach [] X.env)).all (fun x => x.1.isSome)
        && decide ([e].length + ([] : List Keyword).length + (if ([] : List Keyword).isEmpty then 0 else 1) < 30)) = true := by rfl)
    (hline : (apos.endLine == cpos.line) = true := by rfl) (hs : starEach [e] X.env = (false, eval e X.env) :: starEach [] X.env := by rfl) (hplain : (backTo cpos (starEach [] X.env)).any (·.1) = false := by rfl) :
    DE X .fz (.Call (.Attribute o "count" apos) [e] [] cpos) (tSM K' (rCntL K') (rCntT K') to (tCons te tNil)) (f2 cntD f g) := by
  subst hK
  refine ⟨pe_sm PySem.F.slot_list_count PySem.F.type_list_count (mt_cntL hu) PySem.F.slot_tuple_count PySem.F.type_tuple_count (mt_cntT hu) ho.p (pa_cons he.p pa_nil hs) hbase hfew hline hs hplain, sem_sm (fun F H x y ds d z Q ⟨a, ex, hx⟩ hy fh hz q => ?_) (fun F H x y ds d z Q ⟨a, ex, hx⟩ hy fh hz q => ?_) (fun d e z h => ?_) ho.s he.s⟩
  · subst ex
    obtain ⟨h1, rfl⟩ := if_some (show (if smOk d ds = true then some (PyData.int ((ds.countP fun z => PyData.eqv z d : Nat) : Int)) else none) = some z from hz)
    exact ⟨a, y, d, ds, rfl, rfl, hx, hy, h1, q _ F H (.refl fh) (Rep.int _)⟩
  · subst ex
    obtain ⟨h1, rfl⟩ := if_some (show (if smOk d ds = true then some (PyData.int ((ds.countP fun z => PyData.eqv z d : Nat) : Int)) else none) = some z from hz)
    exact ⟨a, y, d, ds, rfl, rfl, hx, hy, h1, q _ F H (.refl fh) (Rep.int _)⟩
  · obtain ⟨ds, h1, h2⟩ := bind_some h
    exact ⟨ds, h1, (if_some h2).1⟩
end
end Q
end

/-! part: Q16 -/
section
set_option Elab.async false
set_option linter.all false
set_option maxRecDepth 100000
set_option maxHeartbeats 4000000
set_option autoImplicit false
namespace Q
open PySem PySem.Spec PySem.Calls PyProof.Rows L2
/-! ### more for the plain part -/
/-- a for loop that may return: the first x at which it stops -/
theorem forL_some {α : Type} {step : D → Bd} {mk : α → D} (stop : α → Option D) : ∀ (xs : List α) (inv : Nat → Rho → Prop) (ρ : Rho), inv 0 ρ →
    (∀ (k : Nat) (ρ : Rho) (x : α), inv k ρ → xs[k]? = some x → (∀ d, stop x = some d → step (mk x) ρ = some (.rt d)) ∧ (stop x = none → ∃ ρ', step (mk x) ρ = some (.nx ρ') ∧ inv (k + 1) ρ')) →
    (∀ d, xs.findSome? stop = some d → forL step (xs.map mk) ρ = some (.rt d)) ∧ (xs.findSome? stop = none → ∃ ρ', forL step (xs.map mk) ρ = some (.nx ρ') ∧ inv xs.length ρ')
  | [], inv, ρ, h0, _ => ⟨fun d h => by simp at h, fun _ => ⟨ρ, rfl, h0⟩⟩
  | x :: xs, inv, ρ, h0, h => by
    obtain ⟨a1, a2⟩ := h 0 ρ x h0 rfl
    cases hs : stop x with
    | some d =>
      refine ⟨fun d' h' => ?_, fun h' => ?_⟩
      · rw [List.findSome?_cons, hs] at h'
        cases h'
        rw [List.map_cons]
        unfold forL
        rw [a1 d hs]
        rfl
      · rw [List.findSome?_cons, hs] at h'
        cases h'
    | none =>
      obtain ⟨ρ1, b1, b2⟩ := a2 hs
      obtain ⟨c1, c2⟩ := forL_some stop xs (fun k => inv (k + 1)) ρ1 b2 (fun k ρ' y hk hy => h (k + 1) ρ' y hk (by simpa using hy))
      refine ⟨fun d' h' => ?_, fun h' => ?_⟩
      · rw [List.findSome?_cons, hs] at h'
        rw [List.map_cons]
        unfold forL
        rw [b1]
        exact c1 d' h'
      · rw [List.findSome?_cons, hs] at h'
        rw [List.map_cons]
        unfold forL
        rw [b1]
        exact c2 h'
theorem rg2_n {lo hi : Int} (h1 : -100000 ≤ lo ∧ lo ≤ 100000) (h2 : -100000 ≤ hi ∧ hi ≤ 100000) : rg2D [.int lo, .int hi] = some ((List.range (hi - lo).toNat).map fun i => .int (lo + (i : Nat))) := by
  rw [rg2D, if_pos (by omega)]
  rfl
theorem numL_ints : ∀ (ns : List Int) (k : Nat), numL k (ns.map .int) = (List.range ns.length).map fun i => .tuple [.int ((k + i : Nat) : Int), .int (ns.getD i 0)]
  | [], _ => rfl
  | n :: ns, k => by
    rw [List.map_cons, numL, numL_ints ns (k + 1), List.length_cons, List.range_succ_eq_map, List.map_cons, List.map_map]
    congr 1
    apply List.map_congr_left
    intro i _
    simp [Nat.add_assoc, Nat.add_comm 1 i]
theorem ints_ex : ∀ (l : List D), (∀ d ∈ l, ∃ n : Int, d = .int n) → ∃ ms : List Int, l = ms.map .int
  | [], _ => ⟨[], rfl⟩
  | d :: l, h => by
    obtain ⟨n, rfl⟩ := h d List.mem_cons_self
    obtain ⟨ms, rfl⟩ := ints_ex l fun e he => h e (List.mem_cons_of_mem _ he)
    exact ⟨n :: ms, rfl⟩
theorem srtOk_ints (ns : List Int) : srtOk (ns.map .int) = true := by
  unfold srtOk
  simp only [Bool.and_eq_true, Bool.or_eq_true, List.all_eq_true, List.mem_map, forall_exists_index, and_imp, forall_apply_eq_imp_iff₂]
  refine ⟨⟨fun a _ b _ => ?_, .inr fun a _ => trivial⟩, fun a _ => ?_⟩
  · with_unfolding_all rfl
  · with_unfolding_all rfl
theorem srt_ex (ns : List Int) : ∃ ms : List Int, srt (ns.map .int) = ms.map .int ∧ ms.length = ns.length := by
  have hp : (srt (ns.map .int)).Perm (ns.map .int) := List.mergeSort_perm _ _
  obtain ⟨ms, e⟩ := ints_ex (srt (ns.map .int)) fun d hd => by
    obtain ⟨n, _, rfl⟩ := List.mem_map.mp (hp.mem_iff.mp hd)
    exact ⟨n, rfl⟩
  refine ⟨ms, e, ?_⟩
  have := hp.length_eq
  rw [e] at this
  simpa using this
theorem sorted_t (ns : List Int) : sortedD [.tuple (ns.map .int)] = some (.list (srt (ns.map .int))) := by
  rw [sortedD, items_t, Option.bind_some, if_pos (srtOk_ints ns)]
theorem sorted_l (ns : List Int) : sortedD [.list (ns.map .int)] = some (.list (srt (ns.map .int))) := by
  rw [sortedD, items_l, Option.bind_some, if_pos (srtOk_ints ns)]
/-- (2, v) < (2, w) -/
theorem lt_key (v w : Int) : ltD (.tuple [.int 2, .int v]) (.tuple [.int 2, .int w]) = some (.bool (decide (v < w))) := by
  have ok : ordOk (.tuple [.int 2, .int v]) (.tuple [.int 2, .int w]) = true := by with_unfolding_all rfl
  unfold ltD
  rw [if_pos ok, PySem.W.dataLt_tuple]
  have a1 : PySem.W.alike (.int 2) (.int 2) = true := by with_unfolding_all rfl
  have a2 : PySem.W.alike (.int v) (.int w) = true := by with_unfolding_all rfl
  rw [PySem.W.dataLt_all_yes a1 (by with_unfolding_all rfl)]
  cases he : PyData.eqv (.int v) (.int w) with
  | false => rw [PySem.W.dataLt_all_no a2 he, PySem.W.dataLt_int]
  | true =>
    rw [PySem.W.dataLt_all_yes a2 he]
    have e : v = w := by
      unfold PyData.eqv at he
      exact eq_of_beq he
    subst e
    simp only [Int.lt_irrefl, decide_false]
    with_unfolding_all rfl
theorem head_filter {α : Type} (p : α → Bool) (xs : List α) : (xs.filter p).head? = xs.find? p := List.head?_filter ..
/-- the ints sorted -/
def sI (ns : List Int) : List Int := (intsOf (srt (ns.map .int))).getD []
theorem srt_sI (ns : List Int) : srt (ns.map .int) = (sI ns).map .int := by
  obtain ⟨ms, e, _⟩ := srt_ex ns
  unfold sI
  rw [e, intsOf_ints]
  rfl
theorem sI_len (ns : List Int) : (sI ns).length = ns.length := by
  obtain ⟨ms, e, h⟩ := srt_ex ns
  unfold sI
  rw [e, intsOf_ints]
  exact h
@[simp] theorem sorted_ti (ns : List Int) : sortedD [.tuple (ns.map .int)] = some (.list ((sI ns).map .int)) := by rw [sorted_t, srt_sI]
@[simp] theorem sorted_li (ns : List Int) : sortedD [.list (ns.map .int)] = some (.list ((sI ns).map .int)) := by rw [sorted_l, srt_sI]
theorem lcL_no {tt : D → Option Bool} {te : D → Option D} : ∀ {ds : List D}, (∀ d ∈ ds, tt d = some false) → lcL tt te ds = some []
  | [], _ => rfl
  | d :: ds, h => by
    unfold lcL
    rw [h d List.mem_cons_self]
    exact lcL_no fun e he => h e (List.mem_cons_of_mem _ he)
theorem range_cut (b : Nat → Bool) (m : Nat) : ∀ n : Nat, ((List.range (m + n)).filter fun i => decide (i < m) && b i) = (List.range m).filter b
  | 0 => by
    apply List.filter_congr
    intro i hi
    have : i < m := List.mem_range.mp hi
    simp [this]
  | n + 1 => by
    rw [← Nat.add_assoc, List.range_succ, List.filter_append, range_cut b m n]
    have : ¬ (m + n < m) := by omega
    simp [this]
theorem find_guard {α β : Type} (b : α → Bool) (f : α → β) : ∀ xs : List α, (xs.findSome? fun i => if b i = true then some (f i) else none) = (xs.find? b).map f
  | [] => rfl
  | x :: xs => by
    rw [List.findSome?_cons, List.find?_cons]
    cases h : b x with
    | true => simp
    | false => simpa using find_guard b f xs
theorem find_range (b : Nat → Bool) (m n : Nat) (i : Nat) (h : (List.range m).find? b = some i) : (List.range (m + n)).find? b = some i := by
  have e : List.range (m + n) = List.range m ++ (List.range n).map (m + ·) := List.range_add ..
  rw [e, List.find?_append, h]
  rfl
@[simp] theorem isB_bb {a b : Bool} : isBD (.bool a) (.bool b) = some (.bool (a == b)) := by cases a <;> cases b <;> rfl
@[simp] theorem notB_bb {a b : Bool} : notBD (.bool a) (.bool b) = some (.bool (!(a == b))) := by cases a <;> cases b <;> rfl
@[simp] theorem ne_f0 {α : Type} (p : α → Int) (L : List α) : neD (.list (L.map fun x => .int (p x))) (.list []) = some (.bool (!L.isEmpty)) := by
  have e : (L.map fun x => PyData.int (p x)) = (L.map p).map .int := by rw [List.map_map]; rfl
  rw [e, ne_l0]
  cases L <;> simp
end Q
end

/-! part: Q17 -/
section
set_option Elab.async false
set_option linter.all false
set_option maxRecDepth 100000
set_option maxHeartbeats 4000000
set_option autoImplicit false
namespace Q
open PySem PySem.Spec PySem.Calls PyProof.Rows L2
/-! ### data that the module's names hold -/
def datA (f : Value → D → Bool) : List Value → List D → Bool
  | [], [] => true
  | u :: us, d :: ds => f u d && datA f us ds
  | _, _ => false
def datB (K : PySem.W.Frag) : Nat → Value → D → Bool
  | 0, _, _ => false
  | _ + 1, .none, .none => true
  | _ + 1, .bool b, .bool c => b == c
  | _ + 1, .int i _, .int j => decide (i = j)
  | _ + 1, .str x _, .str y => decide (x = y)
  | n + 1, .ref a, .list ds => (match K.lookup a with
    | some ⟨.type c, none, .seq its _, _⟩ => decide (c = "list") && (decide (its.size ≤ sizeLine) && datA (datB K n) its.toList ds)
    | _ => false)
  | n + 1, .ref a, .tuple ds => (match K.lookup a with
    | some ⟨.type c, none, .seq its _, _⟩ => decide (c = "tuple") && (decide (its.size ≤ sizeLine) && datA (datB K n) its.toList ds)
    | _ => false)
  | _, _, _ => false
theorem and_b {a b : Bool} (h : (a && b) = true) : a = true ∧ b = true := Bool.and_eq_true_iff.mp h
theorem datA_ok {K : PySem.W.Frag} {f : Value → D → Bool} (hf : ∀ u d, f u d = true → ∃ v, RelV v u ∧ ∀ F, Rep K F v d) : ∀ {us : List Value} {ds : List D}, datA f us ds = true → ∃ vs, Vals vs us ∧ ∀ F, RepA K F vs ds
  | [], [], _ => ⟨[], .nil, fun _ => .nil⟩
  | u :: us, d :: ds, h => by
    obtain ⟨h1, h2⟩ := and_b h
    obtain ⟨v, r, p⟩ := hf u d h1
    obtain ⟨vs, rs, ps⟩ := datA_ok hf h2
    exact ⟨v :: vs, .cons r rs, fun F => .cons (p F) (ps F)⟩
theorem datB_ok {K : PySem.W.Frag} : ∀ (n : Nat) (u : Value) (d : D), datB K n u d = true → ∃ v, RelV v u ∧ ∀ F, Rep K F v d := by
  intro n
  induction n with
  | zero => intro u d h; cases h
  | succ n ih =>
    intro u d h
    unfold datB at h
    split at h
    · rename_i e; cases e
    · exact ⟨.non, rfl, fun F => .non⟩
    · rename_i b c e; cases eq_of_beq h; exact ⟨.bl _, rfl, fun F => .bl _⟩
    · rename_i i t j e; cases of_decide_eq_true h; exact ⟨.int _, ⟨_, rfl⟩, fun F => .int _⟩
    · rename_i x t y e; cases of_decide_eq_true h; exact ⟨.str _, ⟨_, rfl⟩, fun F => .str _⟩
    · rename_i m a ds e
      cases e
      split at h
      · rename_i c its k sl q
        obtain ⟨h1, h2⟩ := and_b h
        obtain ⟨h3, h4⟩ := and_b h2
        obtain ⟨vs, rs, ps⟩ := datA_ok ih h4
        exact ⟨.ref a, rfl, fun F => .lst (.inr ⟨_, its, k, q, congrArg Value.type (of_decide_eq_true h1), rfl, rfl, of_decide_eq_true h3, rs⟩) (ps F)⟩
      · cases h
    · rename_i m a ds e
      cases e
      split at h
      · rename_i c its k sl q
        obtain ⟨h1, h2⟩ := and_b h
        obtain ⟨h3, h4⟩ := and_b h2
        obtain ⟨vs, rs, ps⟩ := datA_ok ih h4
        exact ⟨.ref a, rfl, fun F => .tup (.inr ⟨_, its, k, q, congrArg Value.type (of_decide_eq_true h1), rfl, rfl, of_decide_eq_true h3, rs⟩) (ps F)⟩
      · cases h
    · cases h
/-- what the head looks at besides the given facts -/
inductive Ck where
  | fun_ (x : Str) (id : String)
  | typ (x : Str) (id : String)
  | dat (x : Str) (d : D)
def Ck.ok (K : PySem.W.Frag) : Ck → Bool
  | .fun_ x id => decide (PySem.W.nsIn K mainGlobals x = some (some (.builtin id)))
  | .typ x id => decide (PySem.W.nsIn K mainGlobals x = some (some (.type id)))
  | .dat x d => (match PySem.W.nsIn K mainGlobals x with
    | some (some u) => datB K 9 u d
    | _ => false)
def obsQ (n : Nat) (fa : List He.Fa) (fn : List He.DefD) (ck : List Ck) (g : Addr → Option Obj) : He.AlD × Bool := (He.obsDG n fa fn g, ck.all fun c => c.ok (He.frG g (He.asD g n)))
def hookQ (n : Nat) (fa : List He.Fa) (fn : List He.DefD) (ck : List Ck) : PySem.W.Hook where
  α := He.AlD × Bool
  obs := fun s => obsQ n fa fn ck s.heap.get?
  val := fun _ => (He.valD fn, true)
  says := fun _ h => ∃ K : PySem.W.Frag, K.In h ∧ He.SaysD fa fn K ∧ (ck.all fun c => c.ok K) = true
  of := fun _ _ e => ⟨_, He.frG_in, congrArg (fun z : He.AlD × Bool => z.1) e, congrArg (fun z : He.AlD × Bool => z.2) e⟩
  keeps := fun _ _ _ ⟨K, hK, c⟩ k => ⟨K, PySem.W.Frag.In.keeps hK k, c⟩
theorem obsQ_eq {n : Nat} {fa : List He.Fa} {fn : List He.DefD} {ck : List Ck} {g : Addr → Option Obj} {s : Shared} (h : ∀ a, g a = s.heap.get? a) : obsQ n fa fn ck g = (hookQ n fa fn ck).obs s := by
  have e : g = s.heap.get? := funext h
  rw [e] <;> rfl
section
variable {K : PySem.W.Frag} {h : Heap} {mg : Str → Option Value} {ck : List Ck}
theorem ck_at (c : (ck.all fun c => c.ok K) = true) (i : Nat) {f : Ck} (e : ck[i]? = some f := by rfl) : f.ok K = true := List.all_eq_true.mp c f (List.mem_of_getElem? e)
theorem ck_fun (X : K.In h) (G : h.Ns mainGlobals mg) {x : Str} {id : String} (c : (Ck.fun_ x id).ok K = true) : mg x = some (.builtin id) := PySem.W.mg_of X G (of_decide_eq_true c)
theorem ck_typ (X : K.In h) (G : h.Ns mainGlobals mg) {x : Str} {id : String} (c : (Ck.typ x id).ok K = true) : mg x = some (.type id) := PySem.W.mg_of X G (of_decide_eq_true c)
theorem ck_dat (X : K.In h) (G : h.Ns mainGlobals mg) {x : Str} {d : D} (c : (Ck.dat x d).ok K = true) : ∃ u v, mg x = some u ∧ RelV v u ∧ ∀ F, Rep K F v d := by
  have c2 : (match PySem.W.nsIn K mainGlobals x with
    | some (some u) => datB K 9 u d
    | _ => false) = true := c
  split at c2
  · rename_i u q
    obtain ⟨v, r, p⟩ := datB_ok 9 u d c2
    exact ⟨u, v, PySem.W.mg_of X G q, r, p⟩
  · cases c2
end
section
variable {X : Cx} {m1 : Md} {e : Expr} {es : List Expr} {t : TA} {fs : Rho → Option (List D)} {x : Str} {p pos : Pos}
theorem de_globD (K' : PySem.W.Frag) {v : V} {u : Value} {d : D} (hg : Gl X x) (hm : X.mg x = some u) (hr : RelV v u) (hd : ∀ F, Rep K' F v d) (hK : X.K = K' := by rfl) (hdb : (x == ("__debug__" : Str)) = false := by decide) : DE X .fz (.Name x pos) (tC v) (cD d) := by
  subst hK
  exact ⟨pe_glob hg hm hr hdb, sem_c hd⟩
def gcdD : List D → Option D
  | [.int a, .int b] => some (.int ((Nat.gcd a.natAbs b.natAbs : Nat) : Int))
  | _ => none
theorem cs_gcd {K : PySem.W.Frag} : CallS K .fz rGcd gcdD := by
  intro F H Ha vs ds z Q fh r hz q
  match ds, r, hz with
  | [.int a, .int b], r, hz =>
    cases hz
    obtain ⟨v, w, rfl, r1, r2⟩ := resA2 r
    rw [r1.int, r2.int]
    exact ⟨a, b, rfl, q _ F H (.refl fh) (Rep.int _)⟩
theorem de_bf {id : String} {m : Md} {rc : List V → Hp → VK → Prop} {gc : List D → Option D} (hc : CallR X (.builtin id) rc) (hs : CallS X.K m rc gc) (hg : Gl X x) (hm : X.mg x = some (.builtin id)) (ha : DA X m1 (e :: es) t fs) (hdb : (x == ("__debug__" : Str)) = false := by decide)
    (he : starEach (e :: es) X.env = (false, eval e X.env) :: starEach es X.env := by rfl) (hpl : (backTo pos (starEach es X.env)).any (·.1) = false := by rfl) : DE X m (.Call (.Name x p) (e :: es) [] pos) (tCB rc t) (fB gc fs) :=
  ⟨pe_callBfun hc hg hm ha.p hdb he hpl, sem_cb hs ha.s⟩
end
end Q
end

/-! part: Q18 -/
section
set_option Elab.async false
set_option linter.all false
set_option maxRecDepth 100000
set_option maxHeartbeats 4000000
set_option autoImplicit false
namespace Q
open PySem PySem.Spec PySem.Calls PyProof.Rows L2
/-! ### codes: a type told as data -/
structure Nice {α : Type} [DecidableEq α] (n : Nat) (mk : α → D) : Prop where
  lay : ∀ a, (mk a).canLay0 = true
  dep : ∀ a, (mk a).depth ≤ n
  eqv : ∀ a b, PyData.eqv (mk a) (mk b) = decide (a = b)
/-- and their order -/
structure Ordd {α : Type} (mk : α → D) (lt : α → α → Bool) : Prop where
  alike : ∀ a b, PySem.W.alike (mk a) (mk b) = true
  lt : ∀ a b, PySem.W.dataLt (mk a) (mk b) = lt a b
  nn : ∀ a, mk a ≠ .none
section
variable {α β γ : Type} [DecidableEq α] [DecidableEq β] [DecidableEq γ] {n m k : Nat} {mk : α → D} {mk2 : β → D} {mk3 : γ → D}
theorem Nice.up (h : Nice n mk) (hm : n ≤ m) : Nice m mk := ⟨h.lay, fun a => Nat.le_trans (h.dep a) hm, h.eqv⟩
theorem nice_int : Nice 0 PyData.int := ⟨fun _ => rfl, fun _ => Nat.le_refl _, fun a b => by by_cases e : a = b <;> simp [PyData.eqv, e]⟩
theorem nice_bool : Nice 0 PyData.bool := ⟨fun _ => rfl, fun _ => Nat.le_refl _, fun a b => by cases a <;> cases b <;> rfl⟩
theorem Nice.layA (h : Nice n mk) : ∀ xs : List α, PyData.canLayAll0 (xs.map mk) = true
  | [] => rfl
  | x :: xs => by rw [List.map_cons, PyData.canLayAll0, h.lay, h.layA xs]; rfl
theorem Nice.depA (h : Nice n mk) : ∀ xs : List α, PyData.depthAll (xs.map mk) ≤ n
  | [] => Nat.zero_le _
  | x :: xs => by rw [List.map_cons, PyData.depthAll]; exact Nat.max_le.mpr ⟨h.dep x, h.depA xs⟩
theorem Nice.eqvA (h : Nice n mk) : ∀ xs ys : List α, PyData.eqvAll (xs.map mk) (ys.map mk) = decide (xs = ys)
  | [], [] => rfl
  | [], _ :: _ => rfl
  | _ :: _, [] => rfl
  | x :: xs, y :: ys => by
    rw [List.map_cons, List.map_cons, PyData.eqvAll, h.eqv, h.eqvA xs ys]
    by_cases h1 : x = y <;> by_cases h2 : xs = ys <;> simp [h1, h2]
theorem nice_tup (h : Nice n mk) : Nice (n + 1) (fun xs : List α => PyData.tuple (xs.map mk)) :=
  ⟨fun xs => by rw [PyData.canLay0]; exact h.layA xs, fun xs => by rw [PyData.depth]; have := h.depA xs; omega, fun xs ys => by rw [PyData.eqv]; exact h.eqvA xs ys⟩
theorem nice_lst (h : Nice n mk) : Nice (n + 1) (fun xs : List α => PyData.list (xs.map mk)) :=
  ⟨fun xs => by rw [PyData.canLay0]; exact h.layA xs, fun xs => by rw [PyData.depth]; have := h.depA xs; omega, fun xs ys => by rw [PyData.eqv]; exact h.eqvA xs ys⟩
theorem nice_pair (h : Nice n mk) (h2 : Nice n mk2) : Nice (n + 1) (fun p : α × β => PyData.tuple [mk p.1, mk2 p.2]) :=
  ⟨fun p => by simp [PyData.canLay0, PyData.canLayAll0, h.lay, h2.lay], fun p => by have := h.dep p.1; have := h2.dep p.2; simp only [PyData.depth, PyData.depthAll]; omega, fun p q => by
    simp only [PyData.eqv, PyData.eqvAll, h.eqv, h2.eqv, Prod.ext_iff, Bool.and_true, Bool.decide_and]⟩
theorem nice_lpair (h : Nice n mk) (h2 : Nice n mk2) : Nice (n + 1) (fun p : α × β => PyData.list [mk p.1, mk2 p.2]) :=
  ⟨fun p => by simp [PyData.canLay0, PyData.canLayAll0, h.lay, h2.lay], fun p => by have := h.dep p.1; have := h2.dep p.2; simp only [PyData.depth, PyData.depthAll]; omega, fun p q => by
    simp only [PyData.eqv, PyData.eqvAll, h.eqv, h2.eqv, Prod.ext_iff, Bool.and_true, Bool.decide_and]⟩
theorem nice_trip (h : Nice n mk) (h2 : Nice n mk2) (h3 : Nice n mk3) : Nice (n + 1) (fun p : α × β × γ => PyData.tuple [mk p.1, mk2 p.2.1, mk3 p.2.2]) :=
  ⟨fun p => by simp [PyData.canLay0, PyData.canLayAll0, h.lay, h2.lay, h3.lay], fun p => by have := h.dep p.1; have := h2.dep p.2.1; have := h3.dep p.2.2; simp only [PyData.depth, PyData.depthAll]; omega, fun p q => by
    simp only [PyData.eqv, PyData.eqvAll, h.eqv, h2.eqv, h3.eqv, Prod.ext_iff, Bool.and_true, Bool.decide_and]⟩
theorem Nice.shp (h : Nice n mk) (hn : n ≤ 64) (a : α) : SeqAt.shaped (mk a) = true := by
  have := h.dep a
  simp only [SeqAt.shaped, h.lay, Bool.true_and, decide_eq_true_eq]
  omega
theorem Nice.plain (h : Nice n mk) (a : α) : (mk a).plain = true := PyData.plain_of_canLay0 _ (h.lay a)
theorem Nice.plainA (h : Nice n mk) : ∀ xs : List α, PyData.plainAll (xs.map mk) = true
  | [] => rfl
  | x :: xs => by rw [List.map_cons, PyData.plainAll, h.plain, h.plainA xs]; rfl
theorem Nice.eq (h : Nice n mk) (hn : n ≤ 64) (a b : α) : eqD (mk a) (mk b) = some (.bool (decide (a = b))) := by
  rw [eqD, if_pos ⟨h.shp hn a, h.shp hn b⟩, h.eqv]
theorem Nice.ne (h : Nice n mk) (hn : n ≤ 64) (a b : α) : neD (mk a) (mk b) = some (.bool (!decide (a = b))) := by
  rw [neD, if_pos ⟨h.shp hn a, h.shp hn b⟩, h.eqv]
theorem Nice.mem (h : Nice n mk) (a : α) (xs : List α) : memD (mk a) (xs.map mk) = decide (a ∈ xs) := by
  unfold memD
  induction xs with
  | nil => rfl
  | cons x xs ih =>
    rw [List.map_cons, List.any_cons, ih, h.eqv]
    by_cases e : x = a
    · subst e; simp
    · have e2 : ¬ a = x := fun z => e z.symm
      simp [e, e2]
theorem Nice.in_l (h : Nice n mk) (hn : n < 64) (a : α) (xs : List α) : inD (mk a) (.list (xs.map mk)) = some (.bool (decide (a ∈ xs))) := by
  rw [inD, items_l, Option.bind_some, if_pos ⟨h.shp (by omega) a, (nice_lst h).shp (by omega) xs⟩, h.mem]
theorem Nice.in_t (h : Nice n mk) (hn : n < 64) (a : α) (xs : List α) : inD (mk a) (.tuple (xs.map mk)) = some (.bool (decide (a ∈ xs))) := by
  rw [inD, items_t, Option.bind_some, if_pos ⟨h.shp (by omega) a, (nice_tup h).shp (by omega) xs⟩, h.mem]
theorem Nice.notIn_l (h : Nice n mk) (hn : n < 64) (a : α) (xs : List α) : notInD (mk a) (.list (xs.map mk)) = some (.bool (!decide (a ∈ xs))) := by
  rw [notInD, items_l, Option.bind_some, if_pos ⟨h.shp (by omega) a, (nice_lst h).shp (by omega) xs⟩, h.mem]
theorem Nice.notIn_t (h : Nice n mk) (hn : n < 64) (a : α) (xs : List α) : notInD (mk a) (.tuple (xs.map mk)) = some (.bool (!decide (a ∈ xs))) := by
  rw [notInD, items_t, Option.bind_some, if_pos ⟨h.shp (by omega) a, (nice_tup h).shp (by omega) xs⟩, h.mem]
theorem Nice.place (h : Nice n mk) (a : α) (xs : List α) (hx : a ∈ xs) : SeqAt.dataPlace (xs.map mk) (mk a) = some (xs.idxOf a) := by
  unfold SeqAt.dataPlace
  rw [List.findIdx?_map]
  have e : ((fun y => PyData.eqv y (mk a)) ∘ mk) = fun x => x == a := by
    funext x
    show PyData.eqv (mk x) (mk a) = _
    rw [h.eqv]
    rfl
  rw [e, List.findIdx?_eq_some_iff_findIdx_eq]
  exact ⟨List.idxOf_lt_length_iff.mpr hx, rfl⟩
theorem Nice.smOk (h : Nice n mk) (hn : n ≤ 64) (a : α) (xs : List α) : Q.smOk (mk a) (xs.map mk) = true := by
  have := h.dep a
  simp only [Q.smOk, h.plainA, h.plain, Bool.and_self, Bool.true_and, decide_eq_true_eq]
  omega
theorem Nice.idx_l (h : Nice n mk) (hn : n ≤ 64) (a : α) (xs : List α) (hx : a ∈ xs) : idxD (.list (xs.map mk)) (mk a) = some (.int (xs.idxOf a : Nat)) := by
  rw [idxD, items_l, Option.bind_some, if_pos (h.smOk hn a xs), h.place a xs hx]; rfl
theorem Nice.idx_t (h : Nice n mk) (hn : n ≤ 64) (a : α) (xs : List α) (hx : a ∈ xs) : idxD (.tuple (xs.map mk)) (mk a) = some (.int (xs.idxOf a : Nat)) := by
  rw [idxD, items_t, Option.bind_some, if_pos (h.smOk hn a xs), h.place a xs hx]; rfl
theorem Nice.cntP (h : Nice n mk) (a : α) (xs : List α) : (xs.map mk).countP (fun z => PyData.eqv z (mk a)) = xs.count a := by
  rw [List.countP_map, List.count]
  congr 1
  funext x
  show PyData.eqv (mk x) (mk a) = _
  rw [h.eqv]
  rfl
theorem Nice.cnt_l (h : Nice n mk) (hn : n ≤ 64) (a : α) (xs : List α) : cntD (.list (xs.map mk)) (mk a) = some (.int (xs.count a : Nat)) := by
  rw [cntD, items_l, Option.bind_some, if_pos (h.smOk hn a xs), h.cntP]
theorem Nice.cnt_t (h : Nice n mk) (hn : n ≤ 64) (a : α) (xs : List α) : cntD (.tuple (xs.map mk)) (mk a) = some (.int (xs.count a : Nat)) := by
  rw [cntD, items_t, Option.bind_some, if_pos (h.smOk hn a xs), h.cntP]
/-! order -/
theorem ordd_int : Ordd PyData.int fun a b => decide (a < b) := ⟨fun _ _ => by simp [PySem.W.alike], PySem.W.dataLt_int, fun _ z => nomatch z⟩
variable {lt : α → α → Bool} {lt2 : β → β → Bool} {lt3 : γ → γ → Bool}
theorem ordd_pair (h : Nice n mk) (h2 : Nice m mk2) (o : Ordd mk lt) (o2 : Ordd mk2 lt2) (irr : ∀ a, lt2 a a = false) : Ordd (fun p : α × β => PyData.tuple [mk p.1, mk2 p.2]) (fun p q => if p.1 = q.1 then lt2 p.2 q.2 else lt p.1 q.1) :=
  ⟨fun p q => by simp [PySem.W.alike, PySem.W.alikeAll, o.alike, o2.alike], fun p q => by
    rw [PySem.W.dataLt_pair (o.alike _ _) (o2.alike _ _), h.eqv, h2.eqv, o.lt, o2.lt]
    by_cases e : p.1 = q.1
    · by_cases e2 : p.2 = q.2
      · simp [e, e2, irr]
      · simp [e, e2]
    · simp [e], fun _ z => nomatch z⟩
theorem ordd_rows : Ordd (fun xs : List Int => PyData.tuple (xs.map .int)) (fun a b => decide (a < b)) := ⟨fun xs ys => by
    have : ∀ (xs ys : List Int), PySem.W.alikeAll (xs.map .int) (ys.map .int) = true := by
      intro xs
      induction xs with
      | nil => intro ys; simp [PySem.W.alikeAll]
      | cons x xs ih =>
        intro ys
        cases ys with
        | nil => simp [PySem.W.alikeAll]
        | cons y ys => simp [PySem.W.alikeAll, PySem.W.alike, ih]
    rw [PySem.W.alike]
    exact this xs ys, fun xs ys => by rw [PySem.W.dataLt_tuple]; exact PySem.W.dataLt_ints xs ys, fun _ z => nomatch z⟩
theorem bestOk_nice (h : Nice n mk) (hn : n ≤ 64) (o : Ordd mk lt) (xs : List α) : bestOk (xs.map mk) = true := by
  have := h.depA xs
  simp only [bestOk, Bool.and_eq_true, List.all_eq_true, List.mem_map, decide_eq_true_eq]
  refine ⟨⟨?_, ?_⟩, by omega⟩
  · rintro _ ⟨a, _, rfl⟩ _ ⟨b, _, rfl⟩
    exact o.alike a b
  · rintro _ ⟨a, _, rfl⟩
    have := o.nn a
    split
    · rename_i e; exact absurd e this
    · rfl
/-- the first of the least -/
def leastBy (lt : α → α → Bool) (x : α) (xs : List α) : α := xs.foldl (fun a y => if lt y a then y else a) x
/-- the first of the greatest -/
def mostBy (lt : α → α → Bool) (x : α) (xs : List α) : α := xs.foldl (fun a y => if lt a y then y else a) x
theorem minD_nice (o : Ordd mk lt) : ∀ (xs : List α) (x : α), PySem.W.minD (mk x) (xs.map mk) = mk (leastBy lt x xs)
  | [], _ => rfl
  | y :: xs, x => by
    have ih := minD_nice o xs (if lt y x then y else x)
    unfold PySem.W.minD leastBy at ih ⊢
    rw [List.map_cons, List.foldl_cons, List.foldl_cons, o.lt]
    rw [← ih]
    cases lt y x <;> rfl
theorem maxD_nice (o : Ordd mk lt) : ∀ (xs : List α) (x : α), PySem.W.maxD (mk x) (xs.map mk) = mk (mostBy lt x xs)
  | [], _ => rfl
  | y :: xs, x => by
    have ih := maxD_nice o xs (if lt x y then y else x)
    unfold PySem.W.maxD mostBy at ih ⊢
    rw [List.map_cons, List.foldl_cons, List.foldl_cons, o.lt]
    rw [← ih]
    cases lt x y <;> rfl
theorem minOf_nice (h : Nice n mk) (hn : n ≤ 64) (o : Ordd mk lt) (x : α) (xs : List α) : minOf ((x :: xs).map mk) = some (mk (leastBy lt x xs)) := by
  have := bestOk_nice h hn o (x :: xs)
  rw [List.map_cons] at this ⊢
  rw [minOf, if_pos this, minD_nice o]
theorem maxOf_nice (h : Nice n mk) (hn : n ≤ 64) (o : Ordd mk lt) (x : α) (xs : List α) : maxOf ((x :: xs).map mk) = some (mk (mostBy lt x xs)) := by
  have := bestOk_nice h hn o (x :: xs)
  rw [List.map_cons] at this ⊢
  rw [maxOf, if_pos this, maxD_nice o]
theorem leastBy_mem : ∀ (xs : List α) (x : α), leastBy lt x xs ∈ x :: xs
  | [], x => List.mem_cons_self
  | y :: xs, x => by
    unfold leastBy
    rw [List.foldl_cons]
    have := leastBy_mem xs (if lt y x then y else x)
    unfold leastBy at this
    rcases List.mem_cons.mp this with e | e
    · rw [e]
      split <;> simp
    · exact List.mem_cons_of_mem _ (List.mem_cons_of_mem _ e)
theorem mostBy_mem : ∀ (xs : List α) (x : α), mostBy lt x xs ∈ x :: xs
  | [], x => List.mem_cons_self
  | y :: xs, x => by
    unfold mostBy
    rw [List.foldl_cons]
    have := mostBy_mem xs (if lt x y then y else x)
    unfold mostBy at this
    rcases List.mem_cons.mp this with e | e
    · rw [e]
      split <;> simp
    · exact List.mem_cons_of_mem _ (List.mem_cons_of_mem _ e)
/-- the one least -/
theorem leastBy_eq {z : α} : ∀ (xs : List α) (x : α), z ∈ x :: xs → (∀ y ∈ x :: xs, y ≠ z → lt z y = true) → (∀ y ∈ x :: xs, lt y z = false) → leastBy lt x xs = z
  | [], x, h, _, _ => by
    rcases List.mem_cons.mp h with rfl | h
    · rfl
    · cases h
  | y :: xs, x, h, h1, h2 => by
    unfold leastBy
    rw [List.foldl_cons]
    refine leastBy_eq xs _ ?_ ?_ ?_
    · by_cases e : x = z
      · subst e
        rw [h2 y (by simp)]
        simp
      · by_cases e2 : y = z
        · subst e2
          rw [h1 x (by simp) e]
          simp
        · rcases List.mem_cons.mp h with rfl | h
          · exact absurd rfl e
          · rcases List.mem_cons.mp h with rfl | h
            · exact absurd rfl e2
            · exact List.mem_cons_of_mem _ h
    · intro w hw hn
      rcases List.mem_cons.mp hw with rfl | hw
      · cases c : lt y x
        · simp only [c, Bool.false_eq_true, if_false] at hn ⊢
          exact h1 _ (by simp) hn
        · simp only [c, if_true] at hn ⊢
          exact h1 _ (by simp) hn
      · exact h1 w (by simp [hw]) hn
    · intro w hw
      rcases List.mem_cons.mp hw with rfl | hw
      · split
        · exact h2 _ (by simp)
        · exact h2 _ (by simp)
      · exact h2 w (by simp [hw])
theorem mostBy_least (x : α) (xs : List α) : mostBy lt x xs = leastBy (fun a b => lt b a) x xs := rfl
theorem mostBy_eq {z : α} (xs : List α) (x : α) (h : z ∈ x :: xs) (h1 : ∀ y ∈ x :: xs, y ≠ z → lt y z = true) (h2 : ∀ y ∈ x :: xs, lt z y = false) : mostBy lt x xs = z := by
  rw [mostBy_least]
  exact leastBy_eq xs x h h1 h2
/-! sorted -/
end
end Q
namespace Q
open PySem PySem.Spec PySem.Calls PyProof.Rows L2
section
variable {α : Type} {mk : α → D}
theorem at_mk (xs : List α) {k : Nat} (d : α) (h : k < xs.length) : atI (xs.map mk) (k : Int) = some (mk (xs.getD k d)) := by
  rw [atI_nat (by simpa using h)]
  simp [h]
theorem numL_mk (d : α) : ∀ (xs : List α) (k : Nat), numL k (xs.map mk) = (List.range xs.length).map fun i => .tuple [.int ((k + i : Nat) : Int), mk (xs.getD i d)]
  | [], _ => rfl
  | x :: xs, k => by
    rw [List.map_cons, numL, numL_mk d xs (k + 1), List.length_cons, List.range_succ_eq_map, List.map_cons, List.map_map]
    congr 1
    apply List.map_congr_left
    intro i _
    simp [Nat.add_assoc, Nat.add_comm 1 i]
theorem enum_mk (d : α) (xs : List α) (x : D) (h : x = .list (xs.map mk) ∨ x = .tuple (xs.map mk)) : enumD x = some ((List.range xs.length).map fun (i : Nat) => .tuple [.int (i : Int), mk (xs.getD i d)]) := by
  rcases h with rfl | rfl
  · rw [enumD, items_l, Option.map_some, numL_mk d]
    simp
  · rw [enumD, items_t, Option.map_some, numL_mk d]
    simp
end
/-! trees of tuples -/
def tame : Nat → D → Bool
  | n + 1, .tuple ds => decide (ds.length ≤ 1000) && ds.all (tame n)
  | _ + 1, .int _ => true
  | _ + 1, .bool _ => true
  | _ + 1, .str x => PyData.canLay0 (.str x)
  | _ + 1, .none => true
  | _, _ => false
/-- tuples turned into lists -/
def lstd : Nat → D → D
  | n + 1, .tuple ds => .list (ds.map (lstd n))
  | _, d => d
theorem tame_t {n : Nat} {ds : List D} (h : tame (n + 1) (.tuple ds) = true) : ds.length ≤ 1000 ∧ ∀ d ∈ ds, tame n d = true := by
  simpa [tame] using h
theorem eq_str {x : Str} (h : PyData.canLay0 (.str x) = true) : eqD (.str x) (.str x) = some (.bool true) := by
  have e : SeqAt.shaped (.str x) = true := by simp [SeqAt.shaped, h, PyData.depth]
  rw [eqD, if_pos ⟨e, e⟩]
  simp [PyData.eqv]
/-! a loop, by what is done so far -/
theorem forL_pre {α : Type} {step : D → Bd} {mk : α → D} {all : List α} (inv : List α → Rho → Prop) : ∀ (xs pre : List α) (ρ : Rho), all = pre ++ xs → inv pre ρ →
    (∀ (pre post : List α) (ρ : Rho) (x : α), inv pre ρ → all = pre ++ x :: post → ∃ ρ', (step (mk x) ρ = some (.nx ρ') ∨ step (mk x) ρ = some (.ct ρ')) ∧ inv (pre ++ [x]) ρ') →
    ∃ ρ', forL step (xs.map mk) ρ = some (.nx ρ') ∧ inv all ρ'
  | [], pre, ρ, e, h0, h => ⟨ρ, rfl, by rw [e, List.append_nil]; exact h0⟩
  | x :: xs, pre, ρ, e, h0, h => by
    obtain ⟨ρ1, h1, h2⟩ := h pre xs ρ x h0 e
    obtain ⟨ρ2, h3, h4⟩ := forL_pre inv xs (pre ++ [x]) ρ1 (by rw [e]; simp) h2 h
    refine ⟨ρ2, ?_, h4⟩
    rw [List.map_cons]
    unfold forL
    rcases h1 with h1 | h1 <;> rw [h1] <;> exact h3
theorem forL_all {α : Type} {step : D → Bd} {mk : α → D} {xs : List α} (inv : List α → Rho → Prop) (ρ : Rho) (h0 : inv [] ρ)
    (h : ∀ (pre post : List α) (ρ : Rho) (x : α), inv pre ρ → xs = pre ++ x :: post → ∃ ρ', (step (mk x) ρ = some (.nx ρ') ∨ step (mk x) ρ = some (.ct ρ')) ∧ inv (pre ++ [x]) ρ') :
    ∃ ρ', forL step (xs.map mk) ρ = some (.nx ρ') ∧ inv xs ρ' := forL_pre inv xs [] ρ rfl h0 h
theorem range_split {c x : Nat} {pre post : List Nat} (h : List.range c = pre ++ x :: post) : x = pre.length ∧ x < c ∧ pre = List.range x := by
  have h1 : (List.range c)[pre.length]? = some x := by rw [h]; simp
  have h2 := (List.getElem?_eq_some_iff.mp h1).1
  rw [List.length_range] at h2
  rw [List.getElem?_range h2] at h1
  have e := Option.some.inj h1
  refine ⟨e.symm, by omega, ?_⟩
  have h3 := congrArg (List.take pre.length) h
  rw [List.take_left, List.take_range] at h3
  rw [← h3]
  congr 1
  omega
theorem split_mem {α : Type} {xs pre post : List α} {x : α} (h : xs = pre ++ x :: post) : x ∈ xs := by rw [h]; simp
theorem split_len {α : Type} {xs pre post : List α} {x : α} (h : xs = pre ++ x :: post) : pre.length < xs.length := by rw [h]; simp
@[simp] theorem augD_e {op : D → D → Option D} {i : Nat} {f : Rho → Option D} {ρ : Rho} : augD op i f ρ = (imD ρ[i]?).bind fun d => (f ρ).bind fun e => (op d e).bind fun z => some (.nx (ρ.set i (.im z))) := by
  unfold augD
  split
  · rename_i h; rw [h]; rfl
  · rename_i h
    cases e : ρ[i]? with
    | none => rfl
    | some s =>
      cases s with
      | im d => exact absurd e (h d)
      | _ => rfl
@[simp] theorem max2_i (i j : Int) : max2D [.int i, .int j] = some (.int (max i j)) := by
  have e : (if j > i then j else i) = max i j := by split <;> omega
  rw [max2D, e]
@[simp] theorem min2_i (i j : Int) : min2D [.int i, .int j] = some (.int (min i j)) := by
  have e : (if j < i then j else i) = min i j := by split <;> omega
  rw [min2D, e]
/-! sorted -/
section
variable {α : Type} [DecidableEq α] {n : Nat} {mk : α → D} {lt : α → α → Bool}
theorem srtOk_tup (h : Nice n mk) (hn : n ≤ 64) (o : Ordd mk lt) (ht : ∀ a, ∃ x xs, mk a = .tuple (x :: xs)) (xs : List α) : srtOk (xs.map mk) = true := by
  simp only [srtOk, Bool.and_eq_true, Bool.or_eq_true, List.all_eq_true, List.mem_map, forall_exists_index, and_imp, forall_apply_eq_imp_iff₂, decide_eq_true_eq]
  refine ⟨⟨fun a _ b _ => o.alike a b, .inl fun a _ => ?_⟩, fun a _ => Nat.le_trans (h.dep a) hn⟩
  obtain ⟨x, xs, e⟩ := ht a
  rw [e]
theorem srt_nice (o : Ordd mk lt) (xs : List α) : srt (xs.map mk) = (xs.mergeSort fun a b => !lt b a).map mk := by
  unfold srt
  rw [List.map_mergeSort]
  intro a _ b _
  show (!lt b a) = !PySem.W.dataLt (mk b) (mk a)
  rw [o.lt]
theorem sorted_tup (h : Nice n mk) (hn : n ≤ 64) (o : Ordd mk lt) (ht : ∀ a, ∃ x xs, mk a = .tuple (x :: xs)) (xs : List α) (d : D) (hd : d = .list (xs.map mk) ∨ d = .tuple (xs.map mk)) :
    sortedD [d] = some (.list ((xs.mergeSort fun a b => !lt b a).map mk)) := by
  have e : itemsD d = some (xs.map mk) := by rcases hd with rfl | rfl <;> rfl
  rw [sortedD, e, Option.bind_some, if_pos (srtOk_tup h hn o ht xs), srt_nice o]
end
@[simp] theorem bSet_e {j : Nat} {fi f : Rho → Option D} {ρ : Rho} : bSet j fi f ρ = (f ρ).bind fun d => (owL ρ[j]?).bind fun ds => (fi ρ).bind fun i => (intO i).bind fun o => match o with
  | some i => (ixN ds.length i).bind fun k => some (.nx (ρ.set j (.ow (.list (ds.set k d)))))
  | none => none := by
  unfold bSet
  congr 1
  funext d
  split
  · rename_i h
    rw [h]
    simp only [owL_ow, Option.bind_some]
    congr 1
    funext i
    cases i <;> rfl
  · rename_i h
    cases e : ρ[j]? with
    | none => rfl
    | some s =>
      cases s with
      | ow d =>
        cases d with
        | list ds => exact absurd e (h ds)
        | _ => rfl
      | _ => rfl
theorem ixN_n {n k : Nat} (h : k < n) : ixN n (k : Int) = some k := by
  unfold ixN
  rw [if_pos (by omega)]
  simp [h]
theorem ixN_i {n : Nat} {i : Int} (h0 : 0 ≤ i) (h : i < n) : ixN n i = some i.toNat := by
  have := ixN_n (n := n) (k := i.toNat) (by omega)
  rwa [Int.toNat_of_nonneg h0] at this
theorem rep_1 (d : D) (k : Nat) (h : k ≤ 100000) : repLD (.list [d]) (.int (k : Int)) = some (.list (List.replicate k d)) := by
  have hl := line_ge
  rw [repLD, if_pos (by simp only [List.length_singleton]; omega)]
  congr 2
  rw [Int.toNat_natCast]
  clear h
  induction k with
  | zero => rfl
  | succ k ih => rw [List.replicate_succ, List.flatten_cons, ih, List.replicate_succ]; rfl
theorem zipL_mk {α β : Type} {f : α → D} {g : β → D} (dx : α) (dy : β) : ∀ (xs : List α) (ys : List β), xs.length = ys.length → zipL (xs.map f) (ys.map g) = (List.range xs.length).map fun k => .tuple [f (xs.getD k dx), g (ys.getD k dy)]
  | [], [], _ => rfl
  | [], _ :: _, h => by simp at h
  | _ :: _, [], h => by simp at h
  | x :: xs, y :: ys, h => by
    rw [List.map_cons, List.map_cons, zipL, zipL_mk dx dy xs ys (by simpa using h), List.length_cons, List.range_succ_eq_map, List.map_cons, List.map_map]
    rfl
@[simp] theorem zip_ll {ds es : List D} : zipD [.list ds, .list es] = some (zipL ds es) := rfl
@[simp] theorem zip_tt {ds es : List D} : zipD [.tuple ds, .tuple es] = some (zipL ds es) := rfl
end Q
end

/-! part: Q19 -/
section
set_option Elab.async false
set_option linter.all false
set_option maxRecDepth 100000
set_option maxHeartbeats 4000000
set_option autoImplicit false
namespace Q
open PySem PySem.Spec PySem.Calls PyProof.Rows L2
/-! ### zip of two sequences, each a list or a tuple -/
/-- true: a list; false: a tuple -/
def SqB (K : PySem.W.Frag) (b : Bool) (H : Hp) (a : Addr) (xs : List V) : Prop := if b = true then SqL K H a xs else SqT K H a xs
def isS (b : Bool) (h : Heap) (a : Addr) (its : Array Value) : Prop := if b = true then h.IsList a its else h.IsTuple a its
def itS (b : Bool) (h : Heap) (it a : Addr) (i : Nat) : Prop := if b = true then h.IsListIter it a i else h.IsTupleIter it a i
def itO (b : Bool) (a : Addr) : Obj := if b = true then { cls := .type "list_iterator", data := .fields #[.ref a, .int 0 0] } else { cls := .type "tuple_iterator", data := .fields #[.ref a, .int 0 0] }
theorem itS_obj {b : Bool} {h : Heap} {it a : Addr} {i : Nat} (s : itS b h it a i) : ∃ o fs, h.get? it = some o ∧ o.data = .fields fs := by
  cases b with
  | true => obtain ⟨o, e, _, d⟩ := (show h.IsListIter it a i from s); exact ⟨o, _, e, d⟩
  | false => obtain ⟨o, e, _, d⟩ := (show h.IsTupleIter it a i from s); exact ⟨o, _, e, d⟩
theorem itS_at {b : Bool} {h h' : Heap} {it a : Addr} {i : Nat} (s : itS b h it a i) (k : ∀ o, h.get? it = some o → h'.get? it = some o) : itS b h' it a i := by
  cases b with
  | true => exact (show h.IsListIter it a i from s).at k
  | false => exact (show h.IsTupleIter it a i from s).at k
theorem itS_new {b : Bool} {h : Heap} {it a : Addr} (e : h.get? it = some (itO b a)) : itS b h it a 0 := by
  cases b with
  | true => exact ⟨_, e, rfl, rfl⟩
  | false => exact ⟨_, e, rfl, rfl⟩
theorem isS_lt {b : Bool} {h : Heap} {a : Addr} {its : Array Value} (s : isS b h a its) : a < h.objs.size := by
  cases b with
  | true => obtain ⟨o, e, _⟩ := (show h.IsList a its from s); exact Heap.lt_size e
  | false => obtain ⟨o, e, _⟩ := (show h.IsTuple a its from s); exact Heap.lt_size e
theorem isS_at {b : Bool} {h h' : Heap} {a : Addr} {its : Array Value} (s : isS b h a its) (k : ∀ o, h.get? a = some o → h'.get? a = some o) : isS b h' a its := by
  cases b with
  | true => exact (show h.IsList a its from s).at k
  | false => exact (show h.IsTuple a its from s).at k
theorem sqB_get {X : Cx} {pins : List (Addr × Obj)} {σ : L2.St} {H : Hp} {s : Shared} (I : Inv X pins σ H s) {b : Bool} {a : Addr} {xs : List V} (h : SqB X.K b H a xs) : ∃ its, Vals xs its ∧ isS b s.heap a its.toArray := by
  cases b with
  | true => obtain ⟨its, rv, p, _⟩ := I.list (show SqL X.K H a xs from h); exact ⟨its, rv, p.isList⟩
  | false => obtain ⟨its, rv, p, _⟩ := I.tuple (show SqT X.K H a xs from h); exact ⟨its, rv, show s.heap.IsTuple a its.toArray from p⟩
theorem sqB_inj {X : Cx} {pins : List (Addr × Obj)} {σ : L2.St} {H : Hp} {s : Shared} (I : Inv X pins σ H s) {b : Bool} {a : Addr} {xs ys : List V} (h : SqB X.K b H a xs) (h' : SqB X.K b H a ys) : xs = ys := by
  cases b with
  | true => exact I.list_inj (show SqL X.K H a xs from h) h'
  | false => exact I.tuple_inj (show SqT X.K H a xs from h) h'
section
variable {prog : Program} {w : World} {A : Around}
theorem draw_b (hh : A.handled = none) (b : Bool) (it a : Addr) (hne : a ≠ it) (its : Array Value) :
    Draws prog w A it [it, a] its.size (fun i v => its[i]? = some v) (fun i h => itS b h it a i ∧ isS b h a its) := by
  cases b with
  | true => exact Draws.list hh it a hne its
  | false => exact Draws.tuple hh it a hne its
/-- nothing more is drawn -/
theorem draw_end (hh : A.handled = none) (b : Bool) (it a : Addr) (its : Array Value) (n : Nat) (hn : its.size ≤ n) :
    Draws prog w A it [it, a] n (fun _ _ => False) (fun i h => i = n ∧ itS b h it a i ∧ isS b h a its) where
  live := fun i h st => let ⟨o, _, e, _⟩ := itS_obj st.2.1; ⟨o, e⟩
  frame := fun i h h' st k => ⟨st.1, itS_at st.2.1 fun o e => k it (by simp) o e, isS_at st.2.2 fun o e => k a (by simp) o e⟩
  item := fun i s Q E hi st _ => absurd st.1 (Nat.ne_of_lt hi)
  done := fun s Q E st hE => by
    have hx : its[n]? = none := Array.getElem?_eq_none hn
    cases b with
    | true => exact wpAny_nextOf_list_end hh st.2.1 st.2.2 hx hE
    | false => exact wpAny_nextOf_tuple_end hh st.2.1 st.2.2 hx hE
theorem begin_b (b : Bool) (a : Addr) (its : Array Value) : Begins (.ref a) (itO b a) (fun h => isS b h a its) := by
  cases b with
  | true => exact begins_list a its
  | false => exact begins_tuple a its
end
/-- what the two hold as they stand at each turn, in new pairs -/
def ItzM (K : PySem.W.Frag) (b c : Bool) (l m : Addr) : It where
  go := fun i H => ∃ (xs ys : List V) (x y : V), SqB K b H l xs ∧ SqB K c H m ys ∧ xs[i]? = some x ∧ ys[i]? = some y
  yld := fun i H v H' => ∃ T x y, v = .ref T ∧ H T = none ∧ H' = upd H T (.tup [x, y]) ∧ (∀ xs, SqB K b H l xs → xs[i]? = some x) ∧ ∀ ys, SqB K c H m ys → ys[i]? = some y
  stop := fun i H => ∃ xs ys : List V, SqB K b H l xs ∧ SqB K c H m ys ∧ (xs.length ≤ i ∨ ys.length ≤ i)
theorem turn_zipM {P : Program} {w : World} {K : PySem.W.Frag} {elts : List Expr} {kk : Nat} {tpos : Pos} {b c : Bool} {l m z TI TO i1 i2 : Addr} (Z : ZipSep2 z TI TO i1 i2 [i1, l] [i2, m]) (hl : l ≠ i1) (hm : m ≠ i2) :
    Turn P w K (.Tuple elts kk tpos) (ItzM K b c l m) [z, TI, TO, i1, i2] z (fun i h => IsZip h z TI TO .none ∧ IsTupOf2 h TI (.ref i1) (.ref i2) ∧ (∃ x y, IsTupOf2 h TO x y) ∧ itS b h i1 l i ∧ itS c h i2 m i) := by
  have z1 := Z.zi1
  have z2 := Z.zi2
  have t1 := Z.Ti1
  have t2 := Z.Ti2
  have l1 : l ≠ z := fun e => Z.zf1 (by simp [e])
  have m2 : m ≠ z := fun e => Z.zf2 (by simp [e])
  have five : ∀ q : Addr, q ∈ [z, TI, TO, i1, i2] → q = z ∨ q = TI ∨ q = TO ∨ q = i1 ∨ q = i2 := fun q hq => by simpa using hq
  refine ⟨by simp, fun i h st q hq => ?_, fun i h h' st k => ?_, ?_, ?_, fun A i s Q E st h => wpAny_pyIter_zip st.1 h⟩
  · obtain ⟨s1, s2, ⟨x, y, s3⟩, s4, s5⟩ := st
    obtain ⟨o4, f4, e4, d4⟩ := itS_obj s4
    obtain ⟨o5, f5, e5, d5⟩ := itS_obj s5
    rcases five q hq with r | r | r | r | r <;> subst r
    · exact ⟨_, s1, fun v e => nomatch e⟩
    · exact ⟨_, s2, fun v e => nomatch e⟩
    · exact ⟨_, s3, fun v e => nomatch e⟩
    · exact ⟨o4, e4, fun v e => nomatch d4.symm.trans e⟩
    · exact ⟨o5, e5, fun v e => nomatch d5.symm.trans e⟩
  · obtain ⟨s1, s2, ⟨x, y, s3⟩, s4, s5⟩ := st
    exact ⟨k z (by simp) _ s1, k TI (by simp) _ s2, ⟨x, y, k TO (by simp) _ s3⟩, itS_at s4 (k i1 (by simp)), itS_at s5 (k i2 (by simp))⟩
  · rintro X rfl rfl rfl calm i pins s σ H E I own st ⟨xs, ys, x, y, qx, qy, hx, hy⟩
    obtain ⟨s1, s2, ⟨x0, y0, s3⟩, s4, s5⟩ := st
    obtain ⟨us, ru, hu⟩ := sqB_get I qx
    obtain ⟨vs, rv, hv⟩ := sqB_get I qy
    obtain ⟨u, u1, u2⟩ := ru.get hx
    obtain ⟨v, v1, v2⟩ := rv.get hy
    have hd : X.A.in1.handled = none := I.ok.hd calm
    have lu : us.toArray.size = xs.length := by rw [ru.length]; simp
    have lv : vs.toArray.size = ys.length := by rw [rv.length]; simp
    have old : ∀ q, q ∈ [z, TI, TO, i1, i2] → q < s.heap.objs.size := fun q hq => by
      obtain ⟨o4, _, e4, _⟩ := itS_obj s4
      obtain ⟨o5, _, e5, _⟩ := itS_obj s5
      rcases five q hq with r | r | r | r | r <;> subst r
      · exact Heap.lt_size s1
      · exact Heap.lt_size s2
      · exact Heap.lt_size s3
      · exact Heap.lt_size e4
      · exact Heap.lt_size e5
    refine wpAny_pyNext_zipD2_item Z (draw_b hd b i1 l hl us.toArray) (draw_b hd c i2 m hm vs.toArray) s1 s2 s3 ⟨s4, hu⟩ ⟨s5, hv⟩ (by have := (List.getElem?_eq_some_iff.mp hx).1; omega) (by have := (List.getElem?_eq_some_iff.mp hy).1; omega) fun a1 a2 h' tk p1 p2 f1 f3 f4 f5 fT fsz fk => ?_
    have ea1 : a1 = u := by simpa [u1] using p1.symm
    have ea2 : a2 = v := by simpa [v1] using p2.symm
    subst ea1 ea2
    refine ⟨_, rfl, wpAny_letOwnedTupleGo_zip (s := { s with heap := h', toks := tk }) f1 fun h'' g1 sb => ?_⟩
    have pass : ∀ q o, q ≠ z → h'.get? q = some o → h''.get? q = some o := fun q o hq e => (sb.2 q hq).trans e
    have zlt := old z (by simp)
    have new : ObjOk X.prog X.w (upd H s.heap.objs.size (.tup [x, y])) h'' s.heap.objs.size (.tup [x, y]) :=
      ⟨by show 2 ≤ sizeLine; decide, [a1, a2], .cons u2 (.cons v2 .nil), ⟨_, pass _ _ (Nat.ne_of_gt zlt) fT, rfl, _, rfl⟩⟩
    have I1 : Inv X pins σ (upd H s.heap.objs.size (.tup [x, y])) { s with heap := h'', toks := tk } :=
      I.turnedNew (t' := tk) (ch := [z, TI, TO, i1, i2]) (fun q o hq e => by
        simp only [List.mem_cons, List.not_mem_nil, or_false, not_or] at hq
        exact pass q o hq.1 (fk q o hq.1 hq.2.2.1 hq.2.2.2.1 hq.2.2.2.2 e)) own (Nat.le_refl _) new
    refine ⟨.ref s.heap.objs.size, _, I1, rfl, ⟨_, x, y, rfl, I.hok.fresh (Nat.le_refl _), rfl, fun q hq => by rw [sqB_inj I hq qx]; exact hx, fun q hq => by rw [sqB_inj I hq qy]; exact hy⟩, ⟨g1, pass _ _ Z.TIz (fk _ _ Z.TIz Z.TITO Z.TIi1 Z.TIi2 s2), ⟨_, _, pass _ _ Z.TOz f3⟩, itS_at f4.1 fun o => pass _ o z1.symm, itS_at f5.1 fun o => pass _ o z2.symm⟩, fun q hq => ?_⟩
    rw [upd_ne (Nat.ne_of_lt (old q hq))]
    exact (own q hq).1
  · rintro X rfl rfl rfl calm i pins s σ H E I own st ⟨xs, ys, qx, qy, hend⟩
    obtain ⟨s1, s2, ⟨x0, y0, s3⟩, s4, s5⟩ := st
    obtain ⟨us, ru, hu⟩ := sqB_get I qx
    obtain ⟨vs, rv, hv⟩ := sqB_get I qy
    have hd : X.A.in1.handled = none := I.ok.hd calm
    have lu : us.toArray.size = xs.length := by rw [ru.length]; simp
    have lv : vs.toArray.size = ys.length := by rw [rv.length]; simp
    have fin : ∀ (h' : Heap) (tk : Nat), (∀ q o, q ≠ z → q ≠ TO → q ≠ i1 → q ≠ i2 → s.heap.get? q = some o → h'.get? q = some o) → (none : Option Value) = none ∧ Inv X pins σ H { s with heap := h', toks := tk } := fun h' tk fk =>
      ⟨rfl, I.turnedL (t' := tk) (ch := [z, TI, TO, i1, i2]) (fun q o hq e => by
        simp only [List.mem_cons, List.not_mem_nil, or_false, not_or] at hq
        exact fk q o hq.1 hq.2.2.1 hq.2.2.2.1 hq.2.2.2.2 e) own⟩
    by_cases c1 : xs.length ≤ i <;> by_cases c2 : ys.length ≤ i
    · exact wpAny_pyNext_zipD2_end Z (draw_end hd b i1 l us.toArray i (by omega)) (draw_end hd c i2 m vs.toArray i (by omega)) s1 s2 s3 ⟨rfl, s4, hu⟩ ⟨rfl, s5, hv⟩ (Nat.le_refl _) (Nat.le_refl _) (.inl rfl) fin
    · exact wpAny_pyNext_zipD2_end Z (draw_end hd b i1 l us.toArray i (by omega)) (draw_b hd c i2 m hm vs.toArray) s1 s2 s3 ⟨rfl, s4, hu⟩ ⟨s5, hv⟩ (Nat.le_refl _) (by omega) (.inl rfl) fin
    · exact wpAny_pyNext_zipD2_end Z (draw_b hd b i1 l hl us.toArray) (draw_end hd c i2 m vs.toArray i (by omega)) s1 s2 s3 ⟨s4, hu⟩ ⟨rfl, s5, hv⟩ (by omega) (Nat.le_refl _) (.inr rfl) fin
    · rcases hend with e | e
      · exact absurd e c1
      · exact absurd e c2
def iZipM (K : PySem.W.Frag) (ta : TA) : TI := fun σ H R => ta σ H fun vs H1 => ∃ b c l m xs ys, vs = [.ref l, .ref m] ∧ SqB K b H1 l xs ∧ SqB K c H1 m ys ∧ R (ItzM K b c l m) H1
theorem pi_zipM {X : Cx} {e e2 : Expr} {ta : TA} {p pos tpos : Pos} {elts : List Expr} {kk : Nat} (hg : Gl X "zip") (hm : X.mg "zip" = none) (ha : PA X [e, e2] ta)
    (hs : starEach [e, e2] X.env = (false, eval e X.env) :: starEach [e2] X.env := by rfl) (hpl : (backTo pos (starEach [e2] X.env)).any (·.1) = false := by rfl) :
    PI X (.Tuple elts kk tpos) (.Call (.Name "zip" p) [e, e2] [] pos) (iZipM X.K ta) := by
  constructor
  intro pins s σ H R I h
  refine Call_ (ld_blt I hg hm PyProof.Rows.boot_zip (PyProof.Rows.callWith_type1 (thn (ha.run pos pins s σ H _ I h) fun us s1 ⟨vs, H1, I1, r1, ⟨b, c, l, m, xs, ys, ex, qx, qy, q⟩⟩ => ?_) hs hpl))
  subst ex
  obtain ⟨u, us', rfl, ru, r2⟩ : ∃ u us', us = u :: us' ∧ RelV (V.ref l) u ∧ Vals [V.ref m] us' := by cases r1 with | cons r rr => exact ⟨_, _, rfl, r, rr⟩
  obtain ⟨v, rfl, rv⟩ := vals_one r2
  cases ru
  cases rv
  obtain ⟨is, w1, hu⟩ := sqB_get I1 qx
  obtain ⟨js, w2, hv⟩ := sqB_get I1 qy
  have ll := isS_lt hu
  have lm := isS_lt hv
  refine zip_begins2 (begin_b b l is.toArray) (begin_b c m js.toArray) hu hv fun h' hz hTI hTO g1 g2 hsz hk => wpAny_pyIter_zip hz ?_
  refine ⟨_, [s1.heap.objs.size + 4, s1.heap.objs.size + 2, s1.heap.objs.size + 3, s1.heap.objs.size, s1.heap.objs.size + 1], _, _, H1, rfl, I1.kept (t' := s1.toks) hk, turn_zipM (zip_sep2 (fun q hq => ?_) (fun q hq => ?_)) (Nat.ne_of_lt ll) (Nat.ne_of_lt (Nat.lt_succ_of_lt lm)), ⟨hz, hTI, ⟨_, _, hTO⟩, itS_new g1, itS_new g2⟩, fun q hq => ?_, q⟩
  · rw [List.mem_singleton.mp hq]; exact ll
  · rw [List.mem_singleton.mp hq]; exact lm
  · have up : s1.heap.objs.size ≤ q := by
      simp only [List.mem_cons, List.not_mem_nil, or_false] at hq
      rcases hq with r | r | r | r | r <;> rw [r]
      · exact Nat.le_add_right _ _
      · exact Nat.le_add_right _ _
      · exact Nat.le_add_right _ _
      · exact Nat.le_refl _
      · exact Nat.le_add_right _ _
    exact I1.fpOk up (I1.hok.fresh up)
theorem itzM_ok {K : PySem.W.Frag} {F : Hp} {b c : Bool} {l m : Addr} {xs ys : List V} {ds es : List D} {st : Hp → Prop} (hs : ∀ H, Same F H → st H → SqB K b H l xs) (hs2 : ∀ H, Same F H → st H → SqB K c H m ys) (r : RepA K F xs ds) (r2 : RepA K F ys es) : ItO true K (ItzM K b c l m) F st (zipL ds es) := by
  refine ⟨fun i F' H' hi e1 e2 e3 => ?_, fun i d F' H' v H3 hd e1 e2 e3 yy => ?_, fun i F' H' hi e1 e2 e3 => ?_⟩
  · obtain ⟨d, e, h1, h2, _⟩ := zipL_at (List.getElem?_eq_getElem hi)
    obtain ⟨x, h3, _⟩ := r.get h1
    obtain ⟨y, h4, _⟩ := r2.get h2
    exact ⟨xs, ys, x, y, hs H' (e1.trans e2) e3, hs2 H' (e1.trans e2) e3, h3, h4⟩
  · obtain ⟨T, x, y, rfl, hT, rfl, y1, y2⟩ := yy
    obtain ⟨dx, dy, h1, h2, rfl⟩ := zipL_at hd
    obtain ⟨x', h3, h5⟩ := r.get h1
    obtain ⟨y', h4, h6⟩ := r2.get h2
    have q1 := y1 xs (hs H' (e1.trans e2) e3)
    have q2 := y2 ys (hs2 H' (e1.trans e2) e3)
    cases h3.symm.trans q1
    cases h4.symm.trans q2
    exact pair_ok e2 hT (h5.mono e1) (h6.mono e1)
  · rw [zipL_length] at hi
    exact ⟨xs, ys, hs H' (e1.trans e2) e3, hs2 H' (e1.trans e2) e3, by rw [r.length, r2.length]; omega⟩
/-- zip(d, e) of a list or a tuple each -/
def zipMD : List D → Option (List D)
  | [d, e] => (itemsD d).bind fun ds => (itemsD e).bind fun es => some (zipL ds es)
  | _ => none
theorem rep_sqB {K : PySem.W.Frag} {F H : Hp} {v : V} {d : D} {ds : List D} (r : Rep K F v d) (hd : itemsD d = some ds) (fh : Same F H) : ∃ b a xs, v = .ref a ∧ (∀ H', Same F H' → SqB K b H' a xs) ∧ RepA K F xs ds := by
  cases d with
  | list es =>
    cases hd
    cases r with
    | lst hs hr => exact ⟨true, _, _, rfl, fun H' s => s.seq hs, hr⟩
  | tuple es =>
    cases hd
    cases r with
    | tup hs hr => exact ⟨false, _, _, rfl, fun H' s => (hs.mono s).sq, hr⟩
  | _ => cases hd
theorem sem_zipM {K : PySem.W.Frag} {ta : TA} {fs : Rho → Option (List D)} (h : SemA K .fz ta fs) : SemI true K .fz (iZipM K ta) (fIs zipMD fs) := by
  intro B F H σ ρ ds R rel hf q
  obtain ⟨as, h1, h2⟩ := bind_some hf
  refine h B F H σ ρ as _ rel h1 fun vs F1 H1 x1 r1 => ?_
  match as, h2, r1 with
  | [d, e], h2, r1 =>
    obtain ⟨v, w, rfl, rv, rw'⟩ := resA2 r1
    obtain ⟨ds1, k1, h3⟩ := bind_some (show (itemsD d).bind (fun ds => (itemsD e).bind fun es => some (zipL ds es)) = some ds from h2)
    obtain ⟨es1, k2, h4⟩ := bind_some h3
    cases h4
    obtain ⟨b, l, xs, rfl, a1, a2⟩ := rep_sqB rv k1 x1.s
    obtain ⟨c, m, ys, rfl, c1, c2⟩ := rep_sqB rw' k2 x1.s
    exact ⟨b, c, l, m, xs, ys, rfl, a1 _ x1.s, c1 _ x1.s, q _ F1 H1 x1 (itzM_ok (fun H s _ => a1 H s) (fun H s _ => c1 H s) a2 c2)⟩
theorem di_zipMK (K' : PySem.W.Frag) {X : Cx} {ta : TA} {fs : Rho → Option (List D)} {p pos : Pos} {a b : Expr} {elts : List Expr} {kk : Nat} {tpos : Pos} (hg : Gl X "zip") (hm : X.mg "zip" = none) (ha : DA X .fz [a, b] ta fs) (hs : starEach [a, b] X.env = (false, eval a X.env) :: starEach [b] X.env := by rfl) (hpl : (backTo pos (starEach [b] X.env)).any (·.1) = false := by rfl) (hK : X.K = K' := by rfl) :
    DI true X .fz (.Tuple elts kk tpos) (.Call (.Name "zip" p) [a, b] [] pos) (iZipM K' ta) (fIs zipMD fs) := by
  subst hK
  exact ⟨pi_zipM hg hm ha.p hs hpl, sem_zipM ha.s⟩
@[simp] theorem zipMD_e {d e : D} : zipMD [d, e] = (itemsD d).bind fun ds => (itemsD e).bind fun es => some (zipL ds es) := rfl
end Q
end

/-! part: Q20 -/
section
set_option Elab.async false
set_option linter.all false
set_option maxRecDepth 100000
set_option maxHeartbeats 4000000
set_option autoImplicit false
namespace Q
open PySem PySem.Spec PySem.Calls PyProof.Rows L2
theorem tame_mk {α : Type} {mk : α → D} {n : Nat} (h : ∀ a, tame n (mk a) = true) (xs : List α) (hl : xs.length ≤ 1000) : tame (n + 1) (.tuple (xs.map mk)) = true := by
  simp [tame, hl, h]
theorem tame_two {a b : D} {n : Nat} (h1 : tame n a = true) (h2 : tame n b = true) : tame (n + 1) (.tuple [a, b]) = true := by
  simp [tame, h1, h2]
theorem tame_int (n : Nat) (i : Int) : tame (n + 1) (.int i) = true := rfl
theorem tame_ints (n : Nat) (xs : List Int) (hl : xs.length ≤ 1000) : tame (n + 2) (.tuple (xs.map .int)) = true := tame_mk (fun i => tame_int n i) xs hl
theorem lstd_mk {α : Type} {mk mk' : α → D} {n : Nat} (h : ∀ a, lstd n (mk a) = mk' a) (xs : List α) : lstd (n + 1) (.tuple (xs.map mk)) = .list (xs.map mk') := by
  rw [lstd, List.map_map]
  congr 2
  funext a
  exact h a
theorem lstd_ints (n : Nat) (xs : List Int) : lstd (n + 2) (.tuple (xs.map .int)) = .list (xs.map .int) := lstd_mk (fun _ => rfl) xs
/-- a whole number from 0 on -/
theorem nat_of {i : Int} (h : 0 ≤ i) : ∃ k : Nat, i = k := ⟨i.toNat, by omega⟩
theorem mod_nat (i : Int) {m : Int} (h : 0 < m) : ∃ k : Nat, i % m = k ∧ (k : Int) < m := by
  have h1 := Int.emod_nonneg i (Int.ne_of_gt h)
  have h2 := Int.emod_lt_of_pos i h
  exact ⟨(i % m).toNat, by omega, by omega⟩
/-- a loop that may go on, break or return: what is done so far -/
theorem forL_gen {α : Type} {step : D → Bd} {mk : α → D} {all : List α} (inv : List α → Rho → Prop) (fin : Rho → Prop) (R : D → Prop) : ∀ (xs pre : List α) (ρ : Rho), all = pre ++ xs → inv pre ρ →
    (∀ (pre post : List α) (ρ : Rho) (x : α), inv pre ρ → all = pre ++ x :: post → (∃ ρ', (step (mk x) ρ = some (.nx ρ') ∨ step (mk x) ρ = some (.ct ρ')) ∧ inv (pre ++ [x]) ρ') ∨ (∃ ρ', step (mk x) ρ = some (.bk ρ') ∧ fin ρ') ∨ ∃ d, step (mk x) ρ = some (.rt d) ∧ R d) →
    (∃ ρ', forL step (xs.map mk) ρ = some (.nx ρ') ∧ (inv all ρ' ∨ fin ρ')) ∨ ∃ d, forL step (xs.map mk) ρ = some (.rt d) ∧ R d
  | [], pre, ρ, e, h0, h => .inl ⟨ρ, rfl, .inl (by rw [e, List.append_nil]; exact h0)⟩
  | x :: xs, pre, ρ, e, h0, h => by
    rcases h pre xs ρ x h0 e with ⟨ρ1, h1, h2⟩ | ⟨ρ1, h1, h2⟩ | ⟨d, h1, h2⟩
    · have q := forL_gen inv fin R xs (pre ++ [x]) ρ1 (by rw [e]; simp) h2 h
      rw [List.map_cons]
      unfold forL
      rcases h1 with h1 | h1 <;> rw [h1] <;> exact q
    · refine .inl ⟨ρ1, ?_, .inr h2⟩
      rw [List.map_cons]
      unfold forL
      rw [h1]
      rfl
    · refine .inr ⟨d, ?_, h2⟩
      rw [List.map_cons]
      unfold forL
      rw [h1]
      rfl
theorem forL_any {α : Type} {step : D → Bd} {mk : α → D} {xs : List α} (inv : List α → Rho → Prop) (fin : Rho → Prop) (R : D → Prop) (ρ : Rho) (h0 : inv [] ρ)
    (h : ∀ (pre post : List α) (ρ : Rho) (x : α), inv pre ρ → xs = pre ++ x :: post → (∃ ρ', (step (mk x) ρ = some (.nx ρ') ∨ step (mk x) ρ = some (.ct ρ')) ∧ inv (pre ++ [x]) ρ') ∨ (∃ ρ', step (mk x) ρ = some (.bk ρ') ∧ fin ρ') ∨ ∃ d, step (mk x) ρ = some (.rt d) ∧ R d) :
    (∃ ρ', forL step (xs.map mk) ρ = some (.nx ρ') ∧ (inv xs ρ' ∨ fin ρ')) ∨ ∃ d, forL step (xs.map mk) ρ = some (.rt d) ∧ R d := forL_gen inv fin R xs [] ρ rfl h0 h
/-! Euclid -/
theorem euclid_step {a b k P : Nat} (hb : 0 < b) (h : a * b * 2 ^ k ≤ 2 * P) (hab : b ≤ a ∨ k = 0 ∧ a * b ≤ P) : b * (a % b) * 2 ^ (k + 1) ≤ 2 * P ∧ a % b ≤ b ∧ Nat.gcd b (a % b) = Nat.gcd a b := by
  have hr : a % b < b := Nat.mod_lt _ hb
  refine ⟨?_, Nat.le_of_lt hr, by rw [Nat.gcd_comm b, ← Nat.gcd_rec, Nat.gcd_comm]⟩
  rcases hab with hab | ⟨rfl, hab⟩
  · have h1 : a % b * 2 ≤ a := by
      have h2 := Nat.div_add_mod a b
      have h3 : 1 ≤ a / b := (Nat.le_div_iff_mul_le hb).mpr (by omega)
      have h4 : b * 1 ≤ b * (a / b) := Nat.mul_le_mul_left b h3
      omega
    calc b * (a % b) * 2 ^ (k + 1) = b * (a % b * 2) * 2 ^ k := by rw [Nat.pow_succ, Nat.mul_assoc, Nat.mul_assoc, Nat.mul_assoc]; congr 2; rw [Nat.mul_comm (2 ^ k)]
      _ ≤ b * a * 2 ^ k := Nat.mul_le_mul_right _ (Nat.mul_le_mul_left _ h1)
      _ ≤ 2 * P := by rw [Nat.mul_comm b a]; exact h
  · by_cases c : b ≤ a
    · have h1 : a % b * 2 ≤ a := by
        have h2 := Nat.div_add_mod a b
        have h3 : 1 ≤ a / b := (Nat.le_div_iff_mul_le hb).mpr (by omega)
        have h4 : b * 1 ≤ b * (a / b) := Nat.mul_le_mul_left b h3
        omega
      have h2 : b * (a % b * 2) ≤ b * a := Nat.mul_le_mul_left _ h1
      rw [Nat.mul_comm b a, ← Nat.mul_assoc] at h2
      simp only [Nat.zero_add, Nat.pow_one]
      omega
    · rw [Nat.mod_eq_of_lt (by omega), Nat.mul_comm b a]
      simp only [Nat.zero_add, Nat.pow_one]
      omega
def isT : Option D → Bool
  | some (.bool true) => true
  | _ => false
theorem isT_eq {x : Option D} (h : isT x = true) : x = some (.bool true) := by
  unfold isT at h
  split at h
  · rfl
  · cases h
/-! one sign in a text -/
def rSgn (k : Bool → Bool) : R2 := fun x y H Q => ∃ (c : Nat) (z : Str), x = .str ⟨#[c]⟩ ∧ y = .str z ∧ Q (.bl (k (decide (c ∈ z.cps.toList)))) H
def sgnD (k : Bool → Bool) : D → D → Option D
  | .str x, .str z => (match x.cps.toList with
    | [c] => some (.bool (k (decide (c ∈ z.cps.toList))))
    | _ => none)
  | _, _ => none
theorem op_sgn {X : Cx} : OpR X (compareOp .In) (rSgn id) := op_in_sign
theorem op_notSgn {X : Cx} : OpR X (compareOp .NotIn) (rSgn not) := op_notIn_sign
theorem ops_sgn {K : PySem.W.Frag} {k : Bool → Bool} : OpS K .fz (rSgn k) (sgnD k) := by
  intro F H Ha Hb x y d e z Q fh r1 r2 hz q
  match d, e, hz, r1, r2 with
  | .str u, .str w, hz, r1, r2 =>
    have hz' : (match u.cps.toList with
      | [c] => some (PyData.bool (k (decide (c ∈ w.cps.toList))))
      | _ => none) = some z := hz
    split at hz'
    · rename_i c hc
      cases hz'
      have e : u = ⟨#[c]⟩ := by
        obtain ⟨a⟩ := u
        have : a = #[c] := Array.toList_inj.mp hc
        rw [this]
      subst e
      exact ⟨c, w, r1.str, r2.str, q _ F H (.refl fh) (Rep.bl _)⟩
    · cases hz'
end Q
end

/-! part: Q21 -/
section
set_option Elab.async false
set_option linter.all false
set_option maxRecDepth 100000
set_option maxHeartbeats 4000000
set_option autoImplicit false
namespace Q
open PySem PySem.Spec PySem.Calls PyProof.Rows L2
@[simp] theorem fBP_e {m : Md} {Φ : List D → Option D} {fs : Rho → Option (List D)} {ρ : Rho} : fBP m Φ fs ρ = (fs ρ).bind fun ds => (Φ ds).bind fun r => if okR m r = true then some r else none := rfl
theorem nmA_mk {α : Type} {mk : α → D} (h : ∀ a, nm (mk a) = true) : ∀ xs : List α, nmA (xs.map mk) = true
  | [] => by simp [nmA]
  | x :: xs => by rw [List.map_cons, nmA, h x, nmA_mk h xs]; rfl
theorem okR_fr {α : Type} {mk : α → D} (h : ∀ a, nm (mk a) = true) (xs : List α) : okR .fr (.list (xs.map mk)) = true := nmA_mk h xs
theorem filter_nil {α : Type} (p : α → Bool) (xs : List α) : decide (xs.filter (fun x => !p x) = []) = xs.all p := by
  rw [Bool.eq_iff_iff]
  simp
/-! math.lcm, math.isqrt -/
def rLcm : List V → Hp → VK → Prop := fun vs H Q => ∃ a b : Int, vs = [.int a, .int b] ∧ (a.natAbs < 2 ^ 64 ∧ b.natAbs < 2 ^ 64) ∧ Q (.int ((Nat.lcm a.natAbs b.natAbs : Nat) : Int)) H
theorem cr_lcm {X : Cx} : CallR X (.builtin "math.lcm") rLcm := by
  intro pins s σ H vs us Q I r h
  obtain ⟨a, b, rfl, ⟨ha, hb⟩, q⟩ := h
  obtain ⟨t, u, rfl⟩ := Vals.int2 r
  exact PySem.W.mc_lcm ha hb fun _ => ⟨.int _, H, I.tok _, ⟨_, rfl⟩, q⟩
def lcmD : List D → Option D
  | [.int a, .int b] => if a.natAbs < 2 ^ 64 ∧ b.natAbs < 2 ^ 64 then some (.int ((Nat.lcm a.natAbs b.natAbs : Nat) : Int)) else none
  | _ => none
theorem cs_lcm {K : PySem.W.Frag} : CallS K .fz rLcm lcmD := by
  intro F H Ha vs ds z Q fh r hz q
  match ds, r, hz with
  | [.int a, .int b], r, hz =>
    obtain ⟨h1, h2⟩ := if_some (show (if a.natAbs < 2 ^ 64 ∧ b.natAbs < 2 ^ 64 then some (PyData.int ((Nat.lcm a.natAbs b.natAbs : Nat) : Int)) else none) = some z from hz)
    subst h2
    obtain ⟨v, w, rfl, r1, r2⟩ := resA2 r
    rw [r1.int, r2.int]
    exact ⟨a, b, rfl, h1, q _ F H (.refl fh) (Rep.int _)⟩
/-! list(range(i, j)) -/
def lr2D : D → D → Option D
  | .int i, .int j => if (-100000 ≤ i ∧ i ≤ 100000) ∧ -100000 ≤ j ∧ j ≤ 100000 then some (.list (rgD i (j - i).toNat)) else none
  | _, _ => none
theorem de_lr2 {X : Cx} {m1 m2 : Md} {a b : Expr} {ta tb : TE} {f g : Rho → Option D} {p p2 q pos : Pos} (hg : Gl X "list") (hm : X.mg "list" = none) (hg2 : Gl X "range") (hm2 : X.mg "range" = none) (ha : DE X m1 a ta f) (hb : DE X m2 b tb g) (hc : X.calm = true := by rfl)
    (na : starEach [.Call (.Name "range" p2) [a, b] [] q] X.env = (false, eval (.Call (.Name "range" p2) [a, b] [] q) X.env) :: starEach [] X.env := by rfl)
    (na2 : starEach [a, b] X.env = (false, eval a X.env) :: starEach [b] X.env := by rfl) (nb : starEach [b] X.env = (false, eval b X.env) :: starEach [] X.env := by rfl) (hp : (backTo q (starEach [b] X.env)).any (·.1) = false := by rfl) :
    DE X .fr (.Call (.Name "list" p) [.Call (.Name "range" p2) [a, b] [] q] [] pos) (tLstRg (tRg2 ta tb)) (f2 lr2D f g) := ⟨pe_listRg hc hg hm (prg_2 hg2 hm2 ha.p hb.p na2 nb hp) na, fun B F H σ ρ z Q r hf q => by
  obtain ⟨d, h1, h2⟩ := bind_some hf
  obtain ⟨e, h3, h4⟩ := bind_some h2
  refine ha.s B F H σ ρ d _ r h1 fun v F1 H1 x1 r1 => ?_
  refine hb.s B F1 H1 σ ρ e _ (r.ext x1) h3 fun w F2 H2 x2 r2 => ?_
  match d, e, h4, r1, r2 with
  | .int i, .int j, h4, r1, r2 =>
    obtain ⟨hn, rfl⟩ := if_some (show (if (-100000 ≤ i ∧ i ≤ 100000) ∧ -100000 ≤ j ∧ j ≤ 100000 then some (PyData.list (rgD i (j - i).toNat)) else none) = some z from h4)
    refine ⟨i, j, r1.int, r2.int, ⟨by omega, by omega, by omega, by omega, by omega⟩, ?_⟩
    exact newL_res (x1.trans x2) (repA_rg i j) q⟩
end Q
end

/-! part: Q22 -/
section
set_option Elab.async false
set_option linter.all false
set_option maxRecDepth 100000
set_option maxHeartbeats 4000000
set_option autoImplicit false
namespace Q
open PySem PySem.Spec PySem.Calls PyProof.Rows L2
/-! ### comprehensions of two fors -/
/-- a slot that holds what may change -/
def chg : Sl → Bool
  | .ow _ => true
  | .dp _ => true
  | _ => false
/-- a target makes nothing owned -/
def OwOk (W : List Nat) (s : D → Rho → Option Rho) : Prop := ∀ (d : D) (ρ ρ' : Rho) (j : Nat) (e : Sl), chg e = true → s d ρ = some ρ' → ρ'[j]? = some e → j ∉ W ∧ ρ[j]? = some e
def OwOks (W : List Nat) (s : List D → Rho → Option Rho) : Prop := ∀ (ds : List D) (ρ ρ' : Rho) (j : Nat) (e : Sl), chg e = true → s ds ρ = some ρ' → ρ'[j]? = some e → j ∉ W ∧ ρ[j]? = some e
theorem ow_n (i : Nat) : OwOk [i] (sN i) := fun d ρ ρ' j e hc h h2 => by
  have h' : ρ.set i (.im d) = ρ' := Option.some.inj h
  subst h'
  by_cases c : j = i
  · subst c
    rw [List.getElem?_set] at h2
    split at h2
    · split at h2
      · cases h2; cases hc
      · cases h2
    · rename_i x; exact absurd rfl x
  · rw [List.getElem?_set_ne (Ne.symm c)] at h2
    exact ⟨by simpa using c, h2⟩
theorem ow_nil : OwOks [] sNil := fun ds ρ ρ' j e hc h h2 => by
  cases ds with
  | nil => cases h; exact ⟨by simp, h2⟩
  | cons d ds => cases h
theorem ow_cons {W W' : List Nat} {s : D → Rho → Option Rho} {ss : List D → Rho → Option Rho} (h : OwOk W s) (hs : OwOks W' ss) : OwOks (W ++ W') (sCons s ss) := fun ds ρ ρ' j e hc h1 h2 => by
  cases ds with
  | nil => cases h1
  | cons d ds =>
    obtain ⟨ρ2, a, b⟩ := bind_some (show (s d ρ).bind (ss ds) = some ρ' from h1)
    obtain ⟨c1, c2⟩ := hs ds ρ2 ρ' j e hc b h2
    obtain ⟨c3, c4⟩ := h d ρ ρ2 j e hc a c2
    exact ⟨by simp [c1, c3], c4⟩
theorem ow_t {W : List Nat} {n : Nat} {ss : List D → Rho → Option Rho} (hs : OwOks W ss) : OwOk W (sT n ss) := fun d ρ ρ' j e hc h1 h2 => by
  cases d with
  | tuple ds =>
    rw [sT_e] at h1
    split at h1
    · exact hs ds ρ ρ' j e hc h1 h2
    · cases h1
  | _ => cases h1
def lcM (row : D → Option (List D)) : List D → Option (List D)
  | [] => some []
  | d :: ds => (row d).bind fun rs => (lcM row ds).map (rs ++ ·)
def rowL (ρ : Rho) (vs vs1 : List Nat) (s : D → Rho → Option Rho) (ft : Rho → Option Bool) (f1 : Rho → Option (List D)) (s1 : D → Rho → Option Rho) (ft1 : Rho → Option Bool) (fe : Rho → Option D) (d : D) : Option (List D) :=
  (s d (wipeR ρ vs)).bind fun ρ2 => (ft ρ2).bind fun b => if b = true then (f1 ρ2).bind fun es => lcL (fun e => (s1 e (wipeR ρ2 vs1)).bind ft1) (fun e => (s1 e (wipeR ρ2 vs1)).bind fe) es else some []
def fLc2 (f : Rho → Option (List D)) (s : D → Rho → Option Rho) (ft : Rho → Option Bool) (f1 : Rho → Option (List D)) (s1 : D → Rho → Option Rho) (ft1 : Rho → Option Bool) (fe : Rho → Option D) (vs vs1 : List Nat) : Rho → Option D := fun ρ => (f ρ).bind fun ds =>
  (lcM (rowL ρ vs vs1 s ft f1 s1 ft1 fe) ds).bind fun rs => if rs.length ≤ sizeLine then some (.list rs) else none
theorem sem_lc2 {w w1 : Bool} {K : PySem.W.Frag} {W1 W2 vs vs1 : List Nat} {wi wi1 : TI} {g g1 : TG} {tt tt1 : TT} {te : TE} {f f1 : Rho → Option (List D)} {s s1 : D → Rho → Option Rho} {ft ft1 : Rho → Option Bool} {fe : Rho → Option D}
    (hi : SemI w K .pk wi f) (hg : SemG w K W1 g s) (ht : SemT K tt ft) (hi1 : SemI w1 K .fz wi1 f1) (hg1 : SemG w1 K W2 g1 s1) (ht1 : SemT K tt1 ft1) (he : SemE K .fz te fe) (hW : ∀ j ∈ W1, j ∈ vs) (hW2 : ∀ j ∈ W2, j ∈ vs1) (ho : OwOk W1 s) :
    SemE K .fr (tLc2 wi g tt wi1 g1 tt1 te vs vs1) (fLc2 f s ft f1 s1 ft1 fe vs vs1) := by
  intro B F H σ ρ z Q rel hf q
  obtain ⟨ds, h1, h2⟩ := bind_some hf
  obtain ⟨rs, h3, h4⟩ := bind_some h2
  obtain ⟨h5, rfl⟩ := if_some h4
  refine hi B F H σ ρ ds _ rel h1 fun J F1 H1 x1 it => ?_
  intro L hL
  have r1 := (rel.ext x1).wiped vs
  have gL : B.G L = none := (rel.ext x1).g.free hL
  have nL : ∀ (j : Nat) (e : D), (wipeR ρ vs)[j]? = some (.ow e) → (wipe σ vs)[j]? ≠ some (some (.ref L)) := own_ne r1 hL
  -- what stands between two items: the list's items so far
  let St : Hp → List D → Hp → Prop := fun F' rr H' => ∃ acc, Rel K B F' H' (wipe σ vs) (wipeR ρ vs) ∧ Same F1 F' ∧ Same H1 H' ∧ New F1 F' H1 ∧ F' L = none ∧ H' L = some (.lst acc) ∧ RepA K F' acc rr
  have ext : ∀ {F2 F5 H2 H5 : Hp} {rr : List D}, St F2 rr H2 → Ext F2 H2 F5 H5 → St F5 rr H5 := fun {F2 F5 H2 H5 rr} st x => by
    obtain ⟨acc, rel2, f2, s2, n2, fL, hH, ra⟩ := st
    exact ⟨acc, rel2.ext x, f2.trans x.f, s2.trans x.h, fun a h => (x.n a h).elim (n2 a) fun z => .inr (s2.free z), x.keepNone fL (by rw [hH]; exact fun z => nomatch z), x.h _ _ hH, ra.mono x.f⟩
  refine ⟨fun i m H' => m = ds.length - i ∧ i ≤ ds.length ∧ ∃ F' rr r2, St F' rr H' ∧ lcM (rowL ρ vs vs1 s ft f1 s1 ft1 fe) (ds.drop i) = some r2 ∧ rs = rr ++ r2,
    ⟨ds.length, by simp, Nat.zero_le _, F1, [], rs, ⟨[], r1.other (x1.s.free hL) gL nL (dp_ne r1 hL), .refl _, same_upd hL, .refl, x1.s.free hL, upd_same, .nil⟩, by simpa using h3, rfl⟩, ?_⟩
  rintro i m H2 ⟨rfl, hil, F2, rr, r2, st2, hl, hrs⟩
  have st2' := st2
  obtain ⟨acc, rel2, f2, s2, n2, fL, hH, ra⟩ := st2'
  by_cases hlt : i < ds.length
  · rw [List.drop_eq_getElem_cons hlt] at hl
    obtain ⟨row, e1, e2⟩ := bind_some (show (rowL ρ vs vs1 s ft f1 s1 ft1 fe ds[i]).bind _ = some r2 from hl)
    obtain ⟨r3, e3, rfl⟩ := Option.map_eq_some_iff.mp e2
    obtain ⟨ρ2, e4, e5⟩ := bind_some (show (s ds[i] (wipeR ρ vs)).bind _ = some row from e1)
    obtain ⟨b, e6, e7⟩ := bind_some e5
    refine .inr ⟨it.go i F2 H2 hlt f2 rel2.fh s2, fun H' => i + 1 ≤ ds.length ∧ ∃ F' rr r2, St F' rr H' ∧ lcM (rowL ρ vs vs1 s ft f1 s1 ft1 fe) (ds.drop (i + 1)) = some r2 ∧ rs = rr ++ r2, fun H' hn => ⟨ds.length - (i + 1), by omega, rfl, hn⟩, fun x H3 y => ?_⟩
    obtain ⟨F3, x3, rb⟩ := it.yld i ds[i] F2 H2 x H3 (List.getElem?_eq_getElem hlt) f2 rel2.fh s2 y
    refine hg B F3 H3 (wipe σ vs) (wipeR ρ vs) ρ2 x ds[i] _ (rel2.ext x3) rb e4 fun σ2 rr2 k2 l2 => ?_
    have nL2 : ∀ (j : Nat) (e : D), ρ2[j]? = some (.ow e) → σ2[j]? ≠ some (some (.ref L)) := fun j e hj => by
      obtain ⟨a1, a2⟩ := ho _ _ _ j (.ow e) rfl e4 hj
      rw [k2 j a1]
      exact nL j e a2
    refine ⟨wipe_back (l2.trans (wipe_length σ vs)) fun j hj => k2 j fun z => hj (hW j z), ?_⟩
    refine ht B F3 H3 σ2 ρ2 b _ rr2 e6 fun F4 H4 x4 => ?_
    have st4 := ext (ext st2 x3) x4
    have rl4 := rr2.ext x4
    cases b with
    | false =>
      have e8 : row = [] := (Option.some.inj (show some [] = some row from e7)).symm
      subst e8
      show _ ∧ _
      exact ⟨hlt, F4, rr, r3, st4, e3, by rw [hrs]; rfl⟩
    | true =>
      obtain ⟨es, e8, e9⟩ := bind_some (show (f1 ρ2).bind _ = some row from e7)
      show wi1 σ2 H4 _
      refine hi1 B F4 H4 σ2 ρ2 es _ rl4 e8 fun J1 F5 H5 x5 it1 => ?_
      have st5 := ext st4 x5
      have rl5 := rl4.ext x5
      refine ⟨fun j k H' => k = es.length - j ∧ j ≤ es.length ∧ ∃ F' done r4, St F' (rr ++ done) H' ∧ Rel K B F' H' σ2 ρ2 ∧ Same F5 F' ∧ lcL (fun e => (s1 e (wipeR ρ2 vs1)).bind ft1) (fun e => (s1 e (wipeR ρ2 vs1)).bind fe) (es.drop j) = some r4 ∧ row = done ++ r4,
        ⟨es.length, by simp, Nat.zero_le _, F5, [], row, by rw [List.append_nil]; exact st5, rl5, .refl _, by simpa using e9, rfl⟩, ?_⟩
      rintro j k H6 ⟨rfl, hjl, F6, done, r4, st6, rl6, f6, hl6, hrow⟩
      have st6' := st6
      obtain ⟨acc6, rel6, g6, s6, n6, fL6, hH6, ra6⟩ := st6'
      by_cases hjt : j < es.length
      · rw [List.drop_eq_getElem_cons hjt] at hl6
        obtain ⟨b1, u1, u2⟩ := bind_some (show ((s1 es[j] (wipeR ρ2 vs1)).bind ft1).bind _ = some r4 from hl6)
        obtain ⟨ρ3, u3, u4⟩ := bind_some u1
        refine .inr ⟨it1.go j F6 H6 hjt f6 rel6.fh trivial, fun H' => j + 1 ≤ es.length ∧ ∃ F' done r4, St F' (rr ++ done) H' ∧ Rel K B F' H' σ2 ρ2 ∧ Same F5 F' ∧ lcL (fun e => (s1 e (wipeR ρ2 vs1)).bind ft1) (fun e => (s1 e (wipeR ρ2 vs1)).bind fe) (es.drop (j + 1)) = some r4 ∧ row = done ++ r4, fun H' hn => ⟨es.length - (j + 1), by omega, rfl, hn⟩, fun x' H7 y' => ?_⟩
        obtain ⟨F7, x7, rb7⟩ := it1.yld j es[j] F6 H6 x' H7 (List.getElem?_eq_getElem hjt) f6 rel6.fh trivial y'
        refine hg1 B F7 H7 (wipe σ2 vs1) (wipeR ρ2 vs1) ρ3 x' es[j] _ ((rl6.ext x7).wiped vs1) rb7 u3 fun σ3 rl7 k3 l3 => ?_
        refine ⟨wipe_back (l3.trans (wipe_length σ2 vs1)) fun j' hj' => k3 j' fun z => hj' (hW2 j' z), ?_⟩
        refine ht1 B F7 H7 σ3 ρ3 b1 _ rl7 u4 fun F8 H8 x8 => ?_
        have x78 := x7.trans x8
        have st8 := ext st6 x78
        cases b1 with
        | false => exact ⟨hjt, F8, done, r4, st8, rl6.ext x78, f6.trans x78.f, u2, hrow⟩
        | true =>
          obtain ⟨y0, u5, u6⟩ := bind_some (show ((s1 es[j] (wipeR ρ2 vs1)).bind fe).bind _ = some r4 from u2)
          obtain ⟨ρ4, u7, u8⟩ := bind_some u5
          rw [u3] at u7
          cases u7
          obtain ⟨r5, u9, rfl⟩ := Option.map_eq_some_iff.mp u6
          show te σ3 H8 _
          refine he B F8 H8 σ3 ρ3 y0 _ (rl7.ext x8) u8 fun v F9 H9 x9 rv => ?_
          have x69 := x78.trans x9
          obtain ⟨acc9, b1', b2, b3, b4, b5, b6, b7⟩ := ext st6 x69
          have hlen : acc9.length < sizeLine := by
            have h6 : rs.length = rr.length + (row.length + r3.length) := by rw [hrs]; simp
            have h7 := b7.length
            rw [hrow] at h6
            simp at h6 h7
            omega
          refine ⟨acc9, b6, hlen, hjt, F9, done ++ [y0], r5, ⟨acc9 ++ [v], b1'.other b5 gL nL (dp_far r1 hL b3 b1'), b2, fun c u hc => ?_, b4, b5, upd_same, ?_⟩, (rl6.ext x69).other b5 gL nL2 (fun j dss bb bs e1 e2 e3 => by
            obtain ⟨a1, a2⟩ := ho _ _ _ j (.dp dss) rfl e4 e1
            rw [k2 j a1] at e2
            exact dp_far r1 hL b3 b1' j dss bb bs a2 e2 e3), f6.trans x69.f, u9, by rw [hrow]; simp⟩
          · rw [upd_ne (ne_of_none hc hL)]
            exact b3 _ _ hc
          · rw [← List.append_assoc]
            exact b7.append (.cons rv .nil)
      · have ej : j = es.length := by omega
        subst ej
        rw [List.drop_length] at hl6
        cases hl6
        rw [List.append_nil] at hrow
        subst hrow
        exact .inl ⟨it1.stop _ F6 H6 (Nat.le_refl _) f6 rel6.fh trivial, hlt, F6, rr ++ row, r3, st6, e3, by rw [hrs]; simp⟩
  · have ei : i = ds.length := by omega
    subst ei
    rw [List.drop_length] at hl
    cases hl
    rw [List.append_nil] at hrs
    subst hrs
    refine .inl ⟨it.stop _ F2 H2 (Nat.le_refl _) f2 rel2.fh s2, q _ F2 H2 ⟨x1.f.trans f2, x1.h.trans s2, fun a h => ?_, rel2.fh⟩ ⟨L, rfl, x1.h.free hL, fL, acc, hH, ra⟩⟩
    exact (n2 a h).elim (x1.n a) fun z => .inr (x1.h.free z)
end Q
end

/-! part: Q23 -/
section
set_option Elab.async false
set_option linter.all false
set_option maxRecDepth 100000
set_option maxHeartbeats 4000000
set_option autoImplicit false
namespace Q
open PySem PySem.Spec PySem.Calls PyProof.Rows L2
section
variable {X : Cx} {m : Md} {W1 W2 : List Nat} {pos : Pos} {w w1 : Bool} {elt tg iter tg1 iter1 : Expr} {ifs ifs1 : List Expr} {scope : Scope} {wi wi1 : TI} {g g1 : TG} {tt tt1 : TT} {te : TE} {f f1 : Rho → Option (List D)} {s s1 : D → Rho → Option Rho} {ft ft1 : Rho → Option Bool} {fe : Rho → Option D}
theorem de_lc2 {vs : List Nat} (own : List (Str × Nat)) (vs1 : List Nat) (hN : X.N.Nodup) (hi : DI w X m tg iter wi f) (ok : blkC X.N X.env.scope scope own = true)
    (hg : ∀ (s' : Shared) (H : Hp) (C : Addr) (cl : List (Str × Addr)) (fp : List Addr), DG w (X.blk s' H scope (compEnvC scope cl C X.env) fp) W1 tg g s) (ht : ∀ (s : Shared) (H : Hp) (C : Addr) (cl : List (Str × Addr)) (fp : List Addr), DTs (X.blk s H scope (compEnvC scope cl C X.env) fp) ifs tt ft)
    (hi1 : ∀ (s : Shared) (H : Hp) (C : Addr) (cl : List (Str × Addr)) (fp : List Addr), DI w1 (X.blk s H scope (compEnvC scope cl C X.env) fp) .fz tg1 iter1 wi1 f1)
    (hg1 : ∀ (s' : Shared) (H : Hp) (C : Addr) (cl : List (Str × Addr)) (fp : List Addr), DG w1 (X.blk s' H scope (compEnvC scope cl C X.env) fp) W2 tg1 g1 s1) (ht1 : ∀ (s : Shared) (H : Hp) (C : Addr) (cl : List (Str × Addr)) (fp : List Addr), DTs (X.blk s H scope (compEnvC scope cl C X.env) fp) ifs1 tt1 ft1)
    (he : ∀ (s : Shared) (H : Hp) (C : Addr) (cl : List (Str × Addr)) (fp : List Addr), DE (X.blk s H scope (compEnvC scope cl C X.env) fp) .fz elt te fe) (hW : ∀ j ∈ W1, j ∈ vs) (hW2 : ∀ j ∈ W2, j ∈ vs1) (ho : OwOk W1 s) (hv : ∀ i ∈ vs1, i ∈ own.map (·.2)) (hc : X.calm = true := by rfl) (hs : ∀ x, foldedSetIterable iter X.env x = pure x := by intro _; rfl) (hs1 : ∀ env x, foldedSetIterable iter1 env x = pure x := by intro _ _; rfl) (hvs : own.map (·.2) = vs := by rfl) :
    DE X .fr (.ListComp elt [⟨tg, iter, ifs, 0⟩, ⟨tg1, iter1, ifs1, 0⟩] scope pos) (tLc2 wi g tt wi1 g1 tt1 te vs vs1) (fLc2 f s ft f1 s1 ft1 fe vs vs1) := by
  subst hvs
  exact
  ⟨pe_lc2 hc hN hi.p (blkOk_by ok) hv (fun s H C cl fp => (hg s H C cl fp).p) (fun s H C cl fp => (ht s H C cl fp).p) (fun s H C cl fp => (hi1 s H C cl fp).p) (fun s H C cl fp => (hg1 s H C cl fp).p) (fun s H C cl fp => (ht1 s H C cl fp).p) (fun s H C cl fp => (he s H C cl fp).p) hs hs1,
    sem_lc2 hi.pk.s (hg X.s_0 (fun _ => none) 0 [] []).s (ht X.s_0 (fun _ => none) 0 [] []).s (hi1 X.s_0 (fun _ => none) 0 [] []).s (hg1 X.s_0 (fun _ => none) 0 [] []).s (ht1 X.s_0 (fun _ => none) 0 [] []).s (he X.s_0 (fun _ => none) 0 [] []).s hW hW2 ho⟩
theorem ds_asgLc2 {m1 : Md} {vs : List Nat} {i : Nat} {y : Str} {py spos : Pos} (own : List (Str × Nat)) (vs1 : List Nat) (hN : X.N.Nodup) (hi : DI w X m tg iter wi f) (ok : blkC X.N X.env.scope scope own = true)
    (hg : ∀ (s' : Shared) (H : Hp) (C : Addr) (cl : List (Str × Addr)) (fp : List Addr), DG w (X.blk s' H scope (compEnvC scope cl C X.env) fp) W1 tg g s) (ht : ∀ (s : Shared) (H : Hp) (C : Addr) (cl : List (Str × Addr)) (fp : List Addr), DTs (X.blk s H scope (compEnvC scope cl C X.env) fp) ifs tt ft)
    (hi1 : ∀ (s : Shared) (H : Hp) (C : Addr) (cl : List (Str × Addr)) (fp : List Addr), DI w1 (X.blk s H scope (compEnvC scope cl C X.env) fp) .fz tg1 iter1 wi1 f1)
    (hg1 : ∀ (s' : Shared) (H : Hp) (C : Addr) (cl : List (Str × Addr)) (fp : List Addr), DG w1 (X.blk s' H scope (compEnvC scope cl C X.env) fp) W2 tg1 g1 s1) (ht1 : ∀ (s : Shared) (H : Hp) (C : Addr) (cl : List (Str × Addr)) (fp : List Addr), DTs (X.blk s H scope (compEnvC scope cl C X.env) fp) ifs1 tt1 ft1)
    (he : ∀ (s : Shared) (H : Hp) (C : Addr) (cl : List (Str × Addr)) (fp : List Addr), DE (X.blk s H scope (compEnvC scope cl C X.env) fp) .fz elt te fe) (hW : ∀ j ∈ W1, j ∈ vs) (hW2 : ∀ j ∈ W2, j ∈ vs1) (ho : OwOk W1 s) (hv : ∀ i ∈ vs1, i ∈ own.map (·.2)) (hsw : swapsWith (.ListComp elt [⟨tg, iter, ifs, 0⟩, ⟨tg1, iter1, ifs1, 0⟩] scope pos) (some (.Name y py)) spos.line X.env = pure true)
    (hy : X.N[i]? = some y := by rfl) (hyl : X.env.scope.names.lookup y = some .local := by rfl) (hc : X.calm = true := by rfl) (hs : ∀ x, foldedSetIterable iter X.env x = pure x := by intro _; rfl) (hs1 : ∀ env x, foldedSetIterable iter1 env x = pure x := by intro _ _; rfl) (hvs : own.map (·.2) = vs := by rfl) :
    DS X m1 [i] (.Assign [.Name y py] (.ListComp elt [⟨tg, iter, ifs, 0⟩, ⟨tg1, iter1, ifs1, 0⟩] scope pos) spos) (tAsg (tLc2 wi g tt wi1 g1 tt1 te vs vs1) (gName i)) (bAsg i (fLc2 f s ft f1 s1 ft1 fe vs vs1)) := by
  subst hvs
  have d := de_lc2 (pos := pos) own vs1 hN hi ok hg ht hi1 hg1 ht1 he hW hW2 ho hv hc hs hs1
  exact ⟨ps_setLc2 hc hN hy hyl hsw hi.p (blkOk_by ok) hv (fun s H C cl fp => (hg s H C cl fp).p) (fun s H C cl fp => (ht s H C cl fp).p) (fun s H C cl fp => (hi1 s H C cl fp).p) (fun s H C cl fp => (hg1 s H C cl fp).p) (fun s H C cl fp => (ht1 s H C cl fp).p) (fun s H C cl fp => (he s H C cl fp).p) hs hs1, sem_asg d.frz.s⟩
theorem ds_ownLc2 {m1 : Md} {vs : List Nat} {i : Nat} {y : Str} {py spos : Pos} (own : List (Str × Nat)) (vs1 : List Nat) (hN : X.N.Nodup) (hi : DI w X m tg iter wi f) (ok : blkC X.N X.env.scope scope own = true)
    (hg : ∀ (s' : Shared) (H : Hp) (C : Addr) (cl : List (Str × Addr)) (fp : List Addr), DG w (X.blk s' H scope (compEnvC scope cl C X.env) fp) W1 tg g s) (ht : ∀ (s : Shared) (H : Hp) (C : Addr) (cl : List (Str × Addr)) (fp : List Addr), DTs (X.blk s H scope (compEnvC scope cl C X.env) fp) ifs tt ft)
    (hi1 : ∀ (s : Shared) (H : Hp) (C : Addr) (cl : List (Str × Addr)) (fp : List Addr), DI w1 (X.blk s H scope (compEnvC scope cl C X.env) fp) .fz tg1 iter1 wi1 f1)
    (hg1 : ∀ (s' : Shared) (H : Hp) (C : Addr) (cl : List (Str × Addr)) (fp : List Addr), DG w1 (X.blk s' H scope (compEnvC scope cl C X.env) fp) W2 tg1 g1 s1) (ht1 : ∀ (s : Shared) (H : Hp) (C : Addr) (cl : List (Str × Addr)) (fp : List Addr), DTs (X.blk s H scope (compEnvC scope cl C X.env) fp) ifs1 tt1 ft1)
    (he : ∀ (s : Shared) (H : Hp) (C : Addr) (cl : List (Str × Addr)) (fp : List Addr), DE (X.blk s H scope (compEnvC scope cl C X.env) fp) .fz elt te fe) (hW : ∀ j ∈ W1, j ∈ vs) (hW2 : ∀ j ∈ W2, j ∈ vs1) (ho : OwOk W1 s) (hv : ∀ i ∈ vs1, i ∈ own.map (·.2)) (hsw : swapsWith (.ListComp elt [⟨tg, iter, ifs, 0⟩, ⟨tg1, iter1, ifs1, 0⟩] scope pos) (some (.Name y py)) spos.line X.env = pure true)
    (hy : X.N[i]? = some y := by rfl) (hyl : X.env.scope.names.lookup y = some .local := by rfl) (hc : X.calm = true := by rfl) (hs : ∀ x, foldedSetIterable iter X.env x = pure x := by intro _; rfl) (hs1 : ∀ env x, foldedSetIterable iter1 env x = pure x := by intro _ _; rfl) (hvs : own.map (·.2) = vs := by rfl) :
    DS X m1 [i] (.Assign [.Name y py] (.ListComp elt [⟨tg, iter, ifs, 0⟩, ⟨tg1, iter1, ifs1, 0⟩] scope pos) spos) (tAsg (tLc2 wi g tt wi1 g1 tt1 te vs vs1) (gName i)) (bOwn i (fLc2 f s ft f1 s1 ft1 fe vs vs1)) := by
  subst hvs
  have d := de_lc2 (pos := pos) own vs1 hN hi ok hg ht hi1 hg1 ht1 he hW hW2 ho hv hc hs hs1
  exact ⟨ps_setLc2 hc hN hy hyl hsw hi.p (blkOk_by ok) hv (fun s H C cl fp => (hg s H C cl fp).p) (fun s H C cl fp => (ht s H C cl fp).p) (fun s H C cl fp => (hi1 s H C cl fp).p) (fun s H C cl fp => (hg1 s H C cl fp).p) (fun s H C cl fp => (ht1 s H C cl fp).p) (fun s H C cl fp => (he s H C cl fp).p) hs hs1, sem_own d.s⟩
@[simp] theorem fLc2_e {ρ : Rho} {vs vs1 : List Nat} : fLc2 f s ft f1 s1 ft1 fe vs vs1 ρ = (f ρ).bind fun ds => (lcM (rowL ρ vs vs1 s ft f1 s1 ft1 fe) ds).bind lcB := rfl
@[simp] theorem rowL_e {ρ : Rho} {vs vs1 : List Nat} {d : D} : rowL ρ vs vs1 s ft f1 s1 ft1 fe d = (s d (wipeR ρ vs)).bind fun ρ2 => (ft ρ2).bind fun b => if b = true then (f1 ρ2).bind fun es => lcL (fun e => (s1 e (wipeR ρ2 vs1)).bind ft1) (fun e => (s1 e (wipeR ρ2 vs1)).bind fe) es else some [] := rfl
theorem lcM_mk {α : Type} {mk : α → D} {row : D → Option (List D)} {g : α → List D} : ∀ {xs : List α}, (∀ x ∈ xs, row (mk x) = some (g x)) → lcM row (xs.map mk) = some (xs.flatMap g)
  | [], _ => rfl
  | x :: xs, h => by
    rw [List.map_cons, lcM, h x List.mem_cons_self, Option.bind_some, lcM_mk fun y hy => h y (List.mem_cons_of_mem _ hy)]
    rfl
end
/-! ### x[::-1], a list -/
theorem pick_rev (n : Nat) : sliceBounds none none (some (-1)) n = ((n : Int) - 1, -1, -1) := by
  unfold sliceBounds
  have h0 : ¬ ((-1 : Int) > 0) := by decide
  simp only [Option.getD_some, h0, if_false]
theorem range_rev (n : Nat) : sliceRange ((n : Int) - 1) (-1) (-1) = (List.range n).map fun k => n - 1 - k := by
  unfold sliceRange
  have h0 : ¬ ((-1 : Int) > 0) := by decide
  have e : (- -1 : Int) = 1 := by decide
  simp only [h0, if_false, e, Int.ediv_one]
  by_cases hn : (n : Int) - 1 > -1
  · rw [if_pos hn]
    have h1 : ((n : Int) - 1 - -1 - -1 - 1).toNat = n := by omega
    rw [h1]
    apply List.map_congr_left
    intro k hk
    have := List.mem_range.mp hk
    omega
  · rw [if_neg hn]
    have : n = 0 := by omega
    subst this
    rfl
theorem fm_congr {α β : Type} {f g : α → Option β} : ∀ {l : List α}, (∀ x ∈ l, f x = g x) → l.filterMap f = l.filterMap g
  | [], _ => rfl
  | x :: l, h => by
    rw [List.filterMap_cons, List.filterMap_cons, h x List.mem_cons_self, fm_congr fun y hy => h y (List.mem_cons_of_mem _ hy)]
theorem slicePick_rev (items : Array Value) : slicePick items none none (some (-1)) = items.toList.reverse.toArray := by
  unfold slicePick
  rw [pick_rev, range_rev]
  congr 1
  rw [List.filterMap_map]
  apply List.ext_getElem?
  intro i
  have key : (List.range items.size).filterMap ((fun j => items[j]?) ∘ fun k => items.size - 1 - k) = (List.range items.size).filterMap fun k => items.toList.reverse[k]? := by
    refine fm_congr ?_
    intro k hk
    have := List.mem_range.mp hk
    show items[items.size - 1 - k]? = _
    rw [List.getElem?_reverse (by simpa using this)]
    simp
  rw [key]
  have e2 : (List.range items.size).filterMap (fun k => items.toList.reverse[k]?) = items.toList.reverse := by
    have : items.size = items.toList.reverse.length := by simp
    rw [this]
    generalize items.toList.reverse = l
    induction l with
    | nil => rfl
    | cons x l ih =>
      rw [List.length_cons, List.range_succ_eq_map, List.filterMap_cons]
      simp only [List.getElem?_cons_zero, List.filterMap_map]
      congr 1
  rw [e2]
end Q
end

/-! part: Q24 -/
section
set_option Elab.async false
set_option linter.all false
set_option maxRecDepth 100000
set_option maxHeartbeats 4000000
set_option autoImplicit false
namespace Q
open PySem PySem.Spec PySem.Calls PyProof.Rows L2
section
variable {X : Cx} {m m1 m2 : Md} {e a : Expr} {te ta : TE} {f g : Rho → Option D} {p p2 pos apos : Pos} {j : Nat} {x : Str}
/-! ### xs[::-1], a list -/
def rRev (K : PySem.W.Frag) : V → Int → Hp → VK → Prop := fun x c H Q => ∃ a xs, x = .ref a ∧ c = -1 ∧ SqL K H a xs ∧ ∀ p, H p = none → Q (.ref p) (upd H p (.lst xs.reverse))
def tRev (K : PySem.W.Frag) (te tc : TE) : TE := fun σ H Q => te σ H fun x H1 => tc σ H1 fun y H2 => ∃ c, y = .int c ∧ rRev K x c H2 Q
theorem vals_rev : ∀ {xs : List V} {us : List Value}, Vals xs us → Vals xs.reverse us.reverse
  | _, _, .nil => .nil
  | _, _, .cons h r => by rw [List.reverse_cons, List.reverse_cons]; exact (vals_rev r).append (.cons h .nil)
theorem pe_rev {c : Expr} {tc : TE} (he : PE X e te) (hc : PE X c tc) : PE X (.Subscript e (.Slice none none (some c) p2) pos) (tRev X.K te tc) := by
  refine ⟨fun pins s σ H Q I h => ?_⟩
  refine Subscript_ (thn (he.run pins s σ H _ I h) fun v s1 ⟨x, H1, I1, r1, q1⟩ => ?_)
  refine wpAny_Slice ?_
  rw [evalPart_none]
  refine wpAny_pure (wpAny_pure ?_)
  rw [evalPart_some]
  refine thn (hc.run pins s1 σ H1 _ I1 q1) fun u s2 ⟨y, H2, I2, r2, i, ey, a, xs, ex, ei, sq, q2⟩ => ?_
  subst ey; subst ex; subst ei
  cases r1
  obtain ⟨t, rfl⟩ := r2
  have I4 : Inv X pins σ H2 { s2 with heap := s2.heap.push { cls := .type "slice", data := .fields #[.none, .none, .int (-1) t] } } := I2.kept (t' := s2.toks) fun b ob q => Heap.get?_push_of_some _ q
  obtain ⟨its, rv, pl, hz⟩ := I4.list sq
  show wpAny (model X.prog X.w) X.A (subscriptTail e (.Slice none none (some c) p2) (.ref a) (.ref s2.heap.objs.size)) (EP X pins σ Q) X.xe { s2 with heap := s2.heap.push { cls := .type "slice", data := .fields #[.none, .none, .int (-1) t] } }
  refine tail_any (ops := [.ref a, .ref s2.heap.objs.size]) pl.isList.typeIs PySem.list_getitem_lookup ?_ (by with_unfolding_all rfl)
  refine wpAny_getItem_list_slice pl.isList (Heap.IsSliceOf.new ..) .none .none (.int (-1) t) (by decide) ?_ (by rw [List.size_toArray]; rw [← rv.length]; exact hz)
  rw [slicePick_rev]
  refine ⟨.ref _, upd H2 _ (.lst xs.reverse), ?_, rfl, q2 _ I4.fresh⟩
  have h1 : (its.toArray.toList.reverse).toArray = its.reverse.toArray := by simp
  rw [h1]
  exact I4.lnew (its := its.reverse) (t' := s2.toks) (vals_rev rv) (by rw [List.length_reverse]; exact hz)
def revSD (d c : D) : Option D := match d, c with
  | .list ds, .int i => if i = -1 then some (.list ds.reverse) else none
  | _, _ => none
theorem RepA.rev {K : PySem.W.Frag} {F : Hp} : ∀ {vs : List V} {ds : List D}, RepA K F vs ds → RepA K F vs.reverse ds.reverse
  | _, _, .nil => .nil
  | _, _, .cons h r => by rw [List.reverse_cons, List.reverse_cons]; exact (RepA.rev r).append (.cons h .nil)
theorem de_rev {c : Expr} {tc : TE} (he : DE X m e te f) (hc : DE X m1 c tc g) : DE X .fr (.Subscript e (.Slice none none (some c) p2) pos) (tRev X.K te tc) (f2 revSD f g) := ⟨pe_rev he.p hc.p, fun B F H σ ρ z Q r hf q => by
  obtain ⟨d, h1, h2⟩ := bind_some hf
  obtain ⟨i, h3, h4⟩ := bind_some h2
  refine he.s B F H σ ρ d _ r h1 fun v F1 H1 x1 r1 => ?_
  refine hc.s B F1 H1 σ ρ i _ (r.ext x1) h3 fun w F2 H2 x2 r2 => ?_
  match d, i, h4, r1, r2 with
  | .list ds, .int i, h4, r1, r2 =>
    obtain ⟨hn, rfl⟩ := if_some (show (if i = -1 then some (PyData.list ds.reverse) else none) = some z from h4)
    obtain ⟨a, xs, rfl, s1, p1⟩ := (r1.mono x2).list x2.s
    exact ⟨i, r2.int, a, xs, rfl, hn, s1, newL_res (x1.trans x2) p1.rev q⟩⟩
theorem de_revK {c : Expr} {tc : TE} (K' : PySem.W.Frag) (he : DE X m e te f) (hc : DE X m1 c tc g) (hK : X.K = K' := by rfl) : DE X .fr (.Subscript e (.Slice none none (some c) p2) pos) (tRev K' te tc) (f2 revSD f g) := by
  subst hK
  exact de_rev he hc
/-! ### sep.join(texts) -/
def strsOf : List D → Option (List Str)
  | [] => some []
  | .str x :: ds => (strsOf ds).map (x :: ·)
  | _ :: _ => none
theorem strsOf_map : ∀ {ds : List D} {ns : List Str}, strsOf ds = some ns → ds = ns.map .str
  | [], _, h => by cases h; rfl
  | .str i :: ds, ns, h => by
    obtain ⟨ms, h1, rfl⟩ := Option.map_eq_some_iff.mp (show (strsOf ds).map (i :: ·) = some ns from h)
    rw [strsOf_map h1]; rfl
@[simp] theorem strsOf_strs : ∀ (ns : List Str), strsOf (ns.map .str) = some ns
  | [] => rfl
  | n :: ns => by show (strsOf (ns.map .str)).map (n :: ·) = _; rw [strsOf_strs ns]; rfl
def joinD (d e : D) : Option D := match d with
  | .str a => (itemsD e).bind fun ds => (strsOf ds).bind fun ys => if (ys.map (·.length)).sum + ys.length * a.length ≤ 16777216 then some (.str (Txt.join a ys)) else none
  | _ => none
def rJoin (K : PySem.W.Frag) : V → List V → Hp → VK → Prop := fun x xs H Q => ∃ a p, ∃ ys : List Str, x = .str a ∧ xs = [.ref p] ∧ (SqL K H p (ys.map V.str) ∨ SqT K H p (ys.map V.str)) ∧ (ys.map (·.length)).sum + ys.length * a.length ≤ 16777216 ∧ Q (.str (Txt.join a ys)) H
theorem de_join (K' : PySem.W.Frag) (ha : DE X m a ta f) (he : DE X m1 e te g) (hK : X.K = K' := by rfl) (hs : starEach [e] X.env = [(false, eval e X.env)] := by rfl) (hbase : attributeBase a "join" X.env (eval a X.env) = eval a X.env := by rfl) (hline : (apos.endLine == pos.line) = true := by rfl) :
    DE X .fz (.Call (.Attribute a "join" apos) [e] [] pos) (tM1 (rJoin K') ta te) (f2 joinD f g) := by
  subst hK
  exact ⟨pe_m1 F.slot_str_join F.type_str_join mt_join ha.p he.p hs hbase hline, fun B F H σ ρ z Q r hf q => by
    obtain ⟨d, h1, h2⟩ := bind_some hf
    obtain ⟨i, h3, h4⟩ := bind_some h2
    refine ha.s B F H σ ρ d _ r h1 fun v F1 H1 x1 r1 => ?_
    cases d with
    | str t =>
      refine ⟨⟨t, r1.str⟩, ?_⟩
      refine he.s B F1 H1 σ ρ i _ (r.ext x1) h3 fun w F2 H2 x2 r2 => ?_
      obtain ⟨ds, h5, h6⟩ := bind_some (show (itemsD i).bind _ = some z from h4)
      obtain ⟨ys, h7, h8⟩ := bind_some h6
      obtain ⟨h9, rfl⟩ := if_some h8
      obtain ⟨l, xs, rfl, s1, p1⟩ := r2.items x2.s h5
      have ed := strsOf_map h7
      subst ed
      have ex := RepA.strs p1
      subst ex
      exact ⟨t, l, ys, r1.str, rfl, s1, h9, q _ F2 H2 (x1.trans x2) (Rep.str _)⟩
    | _ => cases h4⟩
/-! ### xs.extend(a new list) -/
def bExt (j : Nat) (f : Rho → Option D) : Bd := fun ρ => (f ρ).bind fun d => match d with
  | .list es => (owL ρ[j]?).bind fun ds => if ds.length + es.length ≤ sizeLine then some (.nx (ρ.set j (.ow (.list (ds ++ es))))) else none
  | _ => none
theorem ext_some {ρ : Rho} {o : Out} (h : bExt j f ρ = some o) : ∃ ds es, ρ[j]? = some (.ow (.list ds)) ∧ f ρ = some (.list es) ∧ ds.length + es.length ≤ sizeLine ∧ o = .nx (ρ.set j (.ow (.list (ds ++ es)))) := by
  obtain ⟨d, h1, h2⟩ := bind_some h
  cases d with
  | list es =>
    obtain ⟨ds, h3, h4⟩ := bind_some (show (owL ρ[j]?).bind _ = some o from h2)
    obtain ⟨h5, rfl⟩ := if_some h4
    refine ⟨ds, es, ?_, h1, h5, rfl⟩
    revert h3
    cases hq : ρ[j]? with
    | none => intro h3; cases h3
    | some sl =>
      cases sl with
      | ow d =>
        cases d with
        | list l => intro h3; cases h3; rfl
        | _ => intro h3; cases h3
      | _ => intro h3; cases h3
  | _ => cases h2
theorem sem_ext {K : PySem.W.Frag} (h : SemE K .fr te f) : SemS K m [] (tDrop (tBM K "list" rExtend (tVar j) (tCons te tNil))) (bExt j f) := by
  intro B F H σ ρ o D r hb q
  obtain ⟨ds, es, e1, e2, hl, rfl⟩ := ext_some hb
  obtain ⟨a, vs, h1, h2, h3, h4, h5⟩ := r.own e1
  refine ⟨_, h1, tyL h4, ?_⟩
  refine h B F H σ ρ _ _ r e2 fun v F1 H1 x1 r1 => ?_
  obtain ⟨b, rfl, k1, k2, ys, k3, k4⟩ := r1
  have h6 := x1.h _ _ h4
  refine ⟨a, b, vs, ys, rfl, rfl, h6, k3, by rw [h5.length, k4.length]; exact hl, ?_⟩
  have hF1 : F1 a = none := x1.keepNone h2 (by rw [h4]; exact fun z => nomatch z)
  exact q σ F1 _ ((r.ext x1).write e1 h1 hF1 h3 ⟨vs ++ ys, upd_same, (h5.mono x1.f).append k4⟩) fun _ _ => rfl
theorem ds_ext {pn : Pos} (he : DE X .fr e te f) (hN : X.N[j]? = some x := by rfl) (hv : Vis X.env.scope x := by first | exact Or.inl rfl | exact Or.inr (Or.inl rfl) | exact Or.inr (Or.inr rfl)) (hd : (x == ("__debug__" : Str)) = false := by decide) (hcd : (x == ("__classdict__" : Str)) = false := by decide)
    (hbase : attributeBase (.Name x pn) "extend" X.env (eval (.Name x pn) X.env) = eval (.Name x pn) X.env := by rfl)
    (hfew : ((backTo p (starEach [e] X.env)).all (fun x => !x.1) && (backToKw p (keywordEach [] X.env)).all (fun x => x.1.isSome)
      && decide ([e].length + ([] : List Keyword).length + (if ([] : List Keyword).isEmpty then 0 else 1) < 30)) = true := by rfl)
    (hline : (apos.endLine == p.line) = true := by rfl) (hs : starEach [e] X.env = (false, eval e X.env) :: starEach [] X.env := by rfl) (hsw : swapsWith (.Call (.Attribute (.Name x pn) "extend" apos) [e] [] p) none pos.line X.env = pure false := by rfl) :
    DS X m [] (.Expr (.Call (.Attribute (.Name x pn) "extend" apos) [e] [] p) pos) (tDrop (tBM X.K "list" rExtend (tVar j) (tCons te tNil))) (bExt j f) :=
  ⟨ps_expr (pe_bm PySem.F.plainAttrs_list PySem.F.slot_list_extend PySem.F.type_list_extend mt_extend (pe_var hN hv hd hcd) (pa_cons he.p pa_nil hs) hbase hfew hline hs rfl) hsw, sem_ext he.s⟩
/-! ### min(xs, default=d) -/
def rMinDf (K : PySem.W.Frag) : List V → List V → Hp → VK → Prop := fun vs zs H Q => ∃ a xs F w ds, vs = [V.ref a] ∧ zs = [w] ∧ Same F H ∧ SqA K H a xs ∧ RepA K F xs ds ∧ (ds = [] → Q w H) ∧ (∀ y ys, ds = y :: ys → bestOk (y :: ys) = true ∧ ∀ v, Rep K F v (PySem.W.minD y ys) → Q v H)
theorem cr_minDf (K' : PySem.W.Frag) (hc : X.calm = true) (hu : X.A.units + 70 < cLine) (hK : X.K = K' := by rfl) : CallRK X (.builtin "min") [Str.ofString "default"] (rMinDf K') := by
  subst hK
  intro pins s σ H vs zs us ws Q I r rz h
  obtain ⟨a, xs, F, w, ds, rfl, rfl, fh, sq, rp, q0, q1⟩ := h
  obtain rfl := Vals.ref1 r
  obtain ⟨w1, rfl, e1⟩ := vals1 rz
  have key : PySem.W.AlikeAll ds ∧ PyData.depthAll ds ≤ 64 := by
    cases ds with
    | nil => exact ⟨⟨fun d hd => (nomatch hd), fun d hd => (nomatch hd)⟩, Nat.zero_le _⟩
    | cons y ys => exact bestOk_of (q1 y ys rfl).1
  obtain ⟨h1, h2⟩ := key
  rcases sq with sq | sq
  · obtain ⟨its, rv, pl, hz⟩ := I.list sq
    obtain ⟨as, hr⟩ := Dp.readsAll I ds xs its ((rp.mono fh).dp (ndA_of _ fun d hd => nd_alike d (h1.1 d hd d hd))) rv
    refine PySem.W.min_list_default (I.ok.hd hc) pl.isList (show ReadsAll s.heap its.toArray.toList _ _ from hr) h1 (by omega) (fun e h' tk hk => ⟨w, H, I.kept hk, e1, q0 e⟩) fun y ys i v h' tk bs e hi hr' hk => ?_
    subst e
    obtain ⟨w, r1, r2⟩ := best_end (tk := tk) I fh rv rp h1 (minD_mem y ys) hi hr' hk
    exact ⟨w, H, I.kept hk, r1, (q1 y ys rfl).2 w r2⟩
  · obtain ⟨its, rv, pl, hz⟩ := I.tuple sq
    obtain ⟨as, hr⟩ := Dp.readsAll I ds xs its ((rp.mono fh).dp (ndA_of _ fun d hd => nd_alike d (h1.1 d hd d hd))) rv
    refine PySem.W.min_tuple_default (I.ok.hd hc) pl (show ReadsAll s.heap its.toArray.toList _ _ from hr) h1 (by omega) (fun e h' tk hk => ⟨w, H, I.kept hk, e1, q0 e⟩) fun y ys i v h' tk bs e hi hr' hk => ?_
    subst e
    obtain ⟨w, r1, r2⟩ := best_end (tk := tk) I fh rv rp h1 (minD_mem y ys) hi hr' hk
    exact ⟨w, H, I.kept hk, r1, (q1 y ys rfl).2 w r2⟩
def minDf (d z : D) : Option D := (itemsD d).bind fun ds => match ds with
  | [] => some z
  | ds => minOf ds
theorem de_minDf (K' : PySem.W.Frag) {kpos : Pos} (hg : Gl X "min") (hm : X.mg "min" = none) (hu : X.A.units + 70 < cLine) (he : DE X m e te f) (hd : DE X .fz a ta g) (hc : X.calm = true := by rfl) (hK : X.K = K' := by rfl)
    (hs : backTo pos (starEach [e] X.env) = (false, eval e X.env) :: backTo pos (starEach [] X.env) := by rfl) (hpl : (backTo pos (starEach [e] X.env)).any (·.1) = false := by rfl)
    (hall : (backToKw pos (keywordEach [⟨some (Str.ofString "default"), a, kpos⟩] X.env)).all (·.1.isSome) = true := by rfl) (hnone : (backToKw pos (keywordEach [⟨some (Str.ofString "default"), a, kpos⟩] X.env)).any (·.1.isNone) = false := by rfl) (hks : (backToKw pos (keywordEach [⟨some (Str.ofString "default"), a, kpos⟩] X.env)).filterMap (·.1) = [Str.ofString "default"] := by rfl) (hn1 : starEach [e] X.env = (false, eval e X.env) :: starEach [] X.env := by rfl) :
    DE X .fz (.Call (.Name "min" p) [e] [⟨some (Str.ofString "default"), a, kpos⟩] pos) (tCKw (rMinDf K') (tCons te tNil) (tCons ta tNil)) (f2 minDf f g) := by
  have hcr := cr_minDf K' hc hu hK
  subst hK
  exact ⟨pe_callBK hcr hg hm bt_min (pa_cons he.p pa_nil hn1) (pk_cons hd.p pk_nil) (by decide) (by decide) hs hpl hall hnone hks, fun B F H σ ρ z Q r hf q => by
    obtain ⟨d, h1, h2⟩ := bind_some hf
    obtain ⟨i, h3, h4⟩ := bind_some h2
    obtain ⟨ds, h5, h6⟩ := bind_some (show (itemsD d).bind _ = some z from h4)
    refine he.s B F H σ ρ d _ r h1 fun v F1 H1 x1 r1 => ?_
    refine hd.s B F1 H1 σ ρ i _ (r.ext x1) h3 fun w F2 H2 x2 r2 => ?_
    obtain ⟨l, xs, rfl, s1, p1⟩ := (r1.mono x2).items x2.s h5
    refine ⟨l, xs, F2, w, ds, rfl, rfl, x2.s, s1, p1, fun e => ?_, fun y ys e => ?_⟩
    · subst e
      cases h6
      exact q _ F2 H2 (x1.trans x2) r2
    · subst e
      obtain ⟨ok, rfl⟩ := if_some (show (if bestOk (y :: ys) = true then some (PySem.W.minD y ys) else none) = some z from h6)
      exact ⟨ok, fun v rv => q v F2 H2 (x1.trans x2) rv⟩⟩
/-! ### min of three -/
def min3D : List D → Option D
  | [.int a, .int b, .int c] => some (.int (min (min a b) c))
  | _ => none
def rMin3 : List V → Hp → VK → Prop := fun xs H Q => ∃ a b c : Int, xs = [.int a, .int b, .int c] ∧ Q (.int (min (min a b) c)) H
theorem cr_min3 (hc : X.calm = true) : CallR X (.builtin "min") rMin3 := by
  intro pins s σ H xs us Q I r h
  obtain ⟨a, b, c, rfl, q⟩ := h
  cases r with
  | cons r1 r => cases r with
  | cons r2 r => cases r with
  | cons r3 r =>
  cases r
  obtain ⟨t1, rfl⟩ := r1
  obtain ⟨t2, rfl⟩ := r2
  obtain ⟨t3, rfl⟩ := r3
  refine min_three_ints (I.ok.hd hc) fun h' tk k => ⟨_, H, I.kept k, ?_, q⟩
  by_cases h1 : b < a
  · rw [if_pos h1]
    by_cases h2 : c < b
    · rw [if_pos h2]; exact ⟨t3, by congr 1; omega⟩
    · rw [if_neg h2]; exact ⟨t2, by congr 1; omega⟩
  · rw [if_neg h1]
    by_cases h2 : c < a
    · rw [if_pos h2]; exact ⟨t3, by congr 1; omega⟩
    · rw [if_neg h2]; exact ⟨t1, by congr 1; omega⟩
theorem cs_min3 {K : PySem.W.Frag} : CallS K .fz rMin3 min3D := by
  intro F H Ha vs ds z Q fh r hz q
  match ds, r, hz with
  | [.int a, .int b, .int c], r, hz =>
    cases hz
    obtain ⟨x, y, w, rfl, r1, r2, r3⟩ := resA3 r
    rw [r1.int, r2.int, r3.int]
    exact ⟨a, b, c, rfl, q _ F H (.refl fh) (Rep.int _)⟩
@[simp] theorem min3_i (a b c : Int) : min3D [.int a, .int b, .int c] = some (.int (min (min a b) c)) := rfl
@[simp] theorem revSD_e (ds : List D) : revSD (.list ds) (.int (-1)) = some (.list ds.reverse) := rfl
@[simp] theorem bExt_e {ρ : Rho} : bExt j f ρ = (f ρ).bind fun d => match d with
  | .list es => (owL ρ[j]?).bind fun ds => if ds.length + es.length ≤ sizeLine then some (.nx (ρ.set j (.ow (.list (ds ++ es))))) else none
  | _ => none := rfl
end
end Q
end

/-! part: Q25 -/
section
set_option Elab.async false
set_option linter.all false
set_option maxRecDepth 100000
set_option maxHeartbeats 4000000
set_option autoImplicit false
namespace Q
open PySem PySem.Spec PySem.Calls PyProof.Rows L2
/-! ### enumerate over a text -/
def IteS (z : Str) : It :=
  ⟨fun i _ => i < z.cps.size, fun i H v H' => ∃ T c, v = .ref T ∧ H T = none ∧ z.cps[i]? = some c ∧ H' = upd H T (.tup [.int (i : Nat), .str ⟨#[c]⟩]), fun i _ => z.cps.size ≤ i⟩
theorem turn_enumS {P : Program} {w : World} {K : PySem.W.Frag} {elts : List Expr} {kk : Nat} {tpos : Pos} (e it : Addr) (z : Str) (t : Tok) :
    Turn P w K (.Tuple elts kk tpos) (IteS z) [e, it] e (fun i h => i ≤ z.cps.size ∧ (∃ old, IsEnum h e it ((i : Nat) : Int) old) ∧ h.IsStrIter it (strIterType z) z t i ∧ e ≠ it) where
  mem := by simp
  obj := fun i h st b hb => by
    obtain ⟨_, ⟨old, he⟩, ⟨o, ho, hc, hd⟩, _⟩ := st
    have e' : b = e ∨ b = it := by simpa using hb
    rcases e' with z | z
    · rw [z]; exact ⟨_, he, fun v q => nomatch q⟩
    · rw [z]; exact ⟨o, ho, fun v q => by rw [hd] at q; cases q⟩
  keep := fun i h h' st k => let ⟨hn, ⟨old, he⟩, ⟨o, ho, r⟩, hne⟩ := st; ⟨hn, ⟨old, k e (by simp) _ he⟩, ⟨o, k it (by simp) o ho, r⟩, hne⟩
  item := by
    intro X hP hw hK hc i pins s σ H E I hf st hg
    subst hP hw hK
    obtain ⟨_, ⟨old, he⟩, hit, hne⟩ := st
    have hlt : i < z.cps.size := hg
    have hel : e < s.heap.objs.size := Heap.lt_size he
    have hil : it < s.heap.objs.size := by obtain ⟨_, q, _⟩ := hit; exact Heap.lt_size q
    have Dr := Draws.text (prog := X.prog) (w := X.w) (A := X.A.in1) (I.ok.hd hc) it z t
    refine wpAny_pyNext_enum_itemD Dr he hit hlt hne (by simp [hne]) fun u' h' tk hP' ho hit' hT hsz hk => ?_
    obtain ⟨c, u, hcx, rfl⟩ := hP'
    refine ⟨_, rfl, wpAny_letOwnedTupleGo_enum (s := { s with heap := h', toks := tk + 1 }) ho fun h'' he' sb => ?_⟩
    have hT2 : h''.get? s.heap.objs.size = some { cls := .type "tuple", data := .seq #[.int i tk, .str ⟨#[c]⟩ u] } := (sb.2 _ (Nat.ne_of_gt hel)).trans hT
    have new : ObjOk X.prog X.w (upd H s.heap.objs.size (.tup [.int (i : Nat), .str ⟨#[c]⟩])) h'' s.heap.objs.size (.tup [.int (i : Nat), .str ⟨#[c]⟩]) :=
      ⟨by show 2 ≤ sizeLine; decide, [.int i tk, .str ⟨#[c]⟩ u], .cons ⟨_, rfl⟩ (.cons ⟨_, rfl⟩ .nil), ⟨_, hT2, rfl, _, rfl⟩⟩
    have I1 : Inv X pins σ (upd H s.heap.objs.size (.tup [.int (i : Nat), .str ⟨#[c]⟩])) { s with heap := h'', toks := tk + 1 } :=
      I.turnedNew (ch := [e, it]) (fun b ob hb q => (sb.2 b (fun z => hb (by simp [z]))).trans (hk b ob (fun z => hb (by simp [z])) (fun z => hb (by simp [z])) q)) hf (Nat.le_refl _) new
    refine ⟨.ref s.heap.objs.size, _, I1, rfl, ⟨_, c, rfl, I.hok.fresh (Nat.le_refl _), hcx, rfl⟩, ⟨hlt, ⟨.str ⟨#[c]⟩ u, ?_⟩, ?_, hne⟩, fun b hb => ?_⟩
    · have e1 : ((i + 1 : Nat) : Int) = (i : Int) + 1 := by omega
      rw [e1]; exact he'
    · obtain ⟨o, ho', r⟩ := hit'
      exact ⟨o, (sb.2 it (Ne.symm hne)).trans ho', r⟩
    · have hb' : b < s.heap.objs.size := by
        have e' : b = e ∨ b = it := by simpa using hb
        rcases e' with z | z
        · rw [z]; exact hel
        · rw [z]; exact hil
      rw [upd_ne (Nat.ne_of_lt hb')]
      exact (hf b hb).1
  done := by
    intro X hP hw hK hc i pins s σ H E I hf st hg
    subst hP hw hK
    obtain ⟨hin, ⟨old, he⟩, hit, hne⟩ := st
    have hge : z.cps.size ≤ i := hg
    obtain ⟨f0, f1, f2, f3, f4, f5⟩ := hf it (by simp)
    have Dr := Draws.text (prog := X.prog) (w := X.w) (A := X.A.in1) (I.ok.hd hc) it z t
    have ei : i = z.cps.size := by omega
    subst ei
    exact wpAny_pyNext_enum_endD Dr he hit fun h' eb => ⟨rfl, I.turned (t' := s.toks) (fun b o hb q => eb b o hb q) f0 f1 f3 f4 f5⟩
  self := fun A i s Q E st h => let ⟨_, ⟨_, he⟩, _⟩ := st; wpAny_pyIter_enum he h
def iEnumS (te : TE) : TI := fun σ H R => te σ H fun v H1 => ∃ z, v = .str z ∧ R (IteS z) H1
theorem pi_enumS {X : Cx} {e : Expr} {te : TE} {p pos tpos : Pos} {elts : List Expr} {kk : Nat} (hg : Gl X "enumerate") (hm : X.mg "enumerate" = none) (he : PE X e te) (hs : starEach [e] X.env = (false, eval e X.env) :: starEach [] X.env := by rfl) :
    PI X (.Tuple elts kk tpos) (.Call (.Name "enumerate" p) [e] [] pos) (iEnumS te) := by
  refine ⟨fun pins s σ H R I h => ?_⟩
  refine Call_ (ld_blt I hg hm boot_enumerate (PyProof.Rows.callWith_type1 (args_cons (thn (he.run pins s σ H _ I h) fun u s1 ⟨v, H1, I1, r1, q1⟩ => args_nil ?_) hs) hs rfl))
  obtain ⟨z, ev, q⟩ := q1
  subst ev
  obtain ⟨t, rfl⟩ : ∃ t, u = .str z t := r1
  have fresh2 : ∀ b, b ∈ [s1.heap.objs.size + 1, s1.heap.objs.size] → FpOk X pins H1 b := fun b hb => by
    have e' : b = s1.heap.objs.size + 1 ∨ b = s1.heap.objs.size := by simpa using hb
    have hle : s1.heap.objs.size ≤ b := by
      rcases e' with z | z
      · rw [z]; exact Nat.le_add_right _ _
      · rw [z]; exact Nat.le_refl _
    exact I1.fpOk hle (I1.hok.fresh hle)
  refine enum_begins1 (begins_text z t) trivial fun h' he hit hsz hk => wpAny_pyIter_enum he ?_
  have I2 : Inv X pins σ H1 { s1 with heap := h' } := I1.kept (t' := s1.toks) hk
  exact ⟨s1.heap.objs.size + 1, [s1.heap.objs.size + 1, s1.heap.objs.size], _, _, H1, rfl, I2, turn_enumS (s1.heap.objs.size + 1) s1.heap.objs.size z t, ⟨Nat.zero_le _, ⟨.none, he⟩, ⟨_, hit, rfl, rfl⟩, Nat.succ_ne_self _⟩, fresh2, q⟩
theorem signs_at {z : Str} {i : Nat} {d : D} (h : (signsD z)[i]? = some d) : ∃ c, z.cps[i]? = some c ∧ d = .str ⟨#[c]⟩ := by
  unfold signsD at h
  rw [List.getElem?_map, Option.map_eq_some_iff] at h
  obtain ⟨c, h1, h2⟩ := h
  exact ⟨c, by rw [← h1]; simp, h2.symm⟩
theorem signs_length (z : Str) : (signsD z).length = z.cps.size := by simp [signsD]
theorem iteS_ok {K : PySem.W.Frag} {F : Hp} {z : Str} {st : Hp → Prop} : ItO true K (IteS z) F st (numL 0 (signsD z)) :=
  ⟨fun i F' H' hi s1 s2 s3 => by
    rw [numL_length, signs_length] at hi
    exact hi, fun i d F' H' v H3 hd s1 s2 s3 yy => by
    obtain ⟨T, c, rfl, hT, hc, rfl⟩ := yy
    obtain ⟨dx, h1, rfl⟩ := numL_at hd
    obtain ⟨c', h3, rfl⟩ := signs_at h1
    rw [hc] at h3
    cases h3
    rw [Nat.zero_add]
    exact pair_ok s2 hT (Rep.int _) (Rep.str _), fun i F' H' hi s1 s2 s3 => by
    rw [numL_length, signs_length] at hi
    exact hi⟩
def fEnumS (f : Rho → Option D) : Rho → Option (List D) := fun ρ => (f ρ).bind fun d => match d with
  | .str z => some (numL 0 (signsD z))
  | _ => none
section
variable {X : Cx} {m : Md} {e : Expr} {te : TE} {f : Rho → Option D} {p pos tpos : Pos} {elts : List Expr} {kk : Nat}
theorem sem_enumS {K : PySem.W.Frag} (h : SemE K m te f) : SemI true K .fz (iEnumS te) (fEnumS f) := by
  intro B F H σ ρ ds R rel hf q
  obtain ⟨d, h1, h2⟩ := bind_some hf
  refine h B F H σ ρ d _ rel h1 fun v F1 H1 x1 r1 => ?_
  cases d with
  | str z =>
    cases h2
    exact ⟨z, r1.str, q _ F1 H1 x1 iteS_ok⟩
  | _ => cases h2
theorem di_enumS (hg : Gl X "enumerate") (hm : X.mg "enumerate" = none) (he : DE X m e te f) (hs : starEach [e] X.env = (false, eval e X.env) :: starEach [] X.env := by rfl) :
    DI true X .fz (.Tuple elts kk tpos) (.Call (.Name "enumerate" p) [e] [] pos) (iEnumS te) (fEnumS f) := ⟨pi_enumS hg hm he.p hs, sem_enumS he.s⟩
def enumSD (d : D) : Option (List D) := match d with
  | .str z => some (numL 0 (signsD z))
  | _ => none
@[simp] theorem fEnumS_e {ρ : Rho} : fEnumS f ρ = (f ρ).bind enumSD := rfl
end
end Q
end

/-! part: Q26 -/
section
set_option Elab.async false
set_option linter.all false
set_option maxRecDepth 100000
set_option maxHeartbeats 4000000
set_option autoImplicit false
namespace Q
open PySem PySem.Spec PySem.Calls PyProof.Rows L2
/-! ### dicts whose keys are ints and texts -/
def keyO : D → Option Key
  | .int i => some (.inl i)
  | .str x => some (.inr x)
  | _ => none
theorem keyO_kD (k : Key) : keyO (kD k) = some k := by cases k <;> rfl
def valE (es : List (D × D)) (k : Key) : Option D := (es.find? fun e => decide (keyO e.1 = some k)).map (·.2)
def putE (es : List (D × D)) (k : Key) (d : D) : List (D × D) :=
  if (es.any fun e => decide (keyO e.1 = some k)) = true then es.map (fun e => if keyO e.1 = some k then (e.1, d) else e) else es ++ [(kD k, d)]
section
variable {K : PySem.W.Frag} {F : Hp} {v : V} {d : D} {ks : List (Key × V)} {es : List (D × D)}
theorem rep_key {k : Key} (h : Rep K F v d) (e : keyO d = some k) : v = kV k := by
  cases h with
  | int i => cases e; rfl
  | str x => cases e; rfl
  | _ => cases e
theorem RepK.length : ∀ {ks : List (Key × V)} {es : List (D × D)}, RepK K F ks es → ks.length = es.length
  | _, _, .nil => rfl
  | _, _, .cons _ r => congrArg Nat.succ (RepK.length r)
theorem key_dec (k j : Key) : decide (keyO (kD k) = some j) = decide (k = j) := by rw [keyO_kD]; simp
theorem RepK.val (k : Key) : ∀ {ks : List (Key × V)} {es : List (D × D)}, RepK K F ks es → (valV ks k = none ∧ valE es k = none) ∨ ∃ v d, valV ks k = some v ∧ valE es k = some d ∧ Rep K F v d
  | _, _, .nil => .inl ⟨rfl, rfl⟩
  | _, _, .cons (k := j) h r => by
    unfold valV valE
    rw [List.find?_cons, List.find?_cons]
    dsimp only
    rw [key_dec]
    by_cases c : j = k
    · rw [decide_eq_true c]
      exact .inr ⟨_, _, rfl, rfl, h⟩
    · rw [decide_eq_false c]
      exact RepK.val k r
theorem RepK.any (k : Key) : ∀ {ks : List (Key × V)} {es : List (D × D)}, RepK K F ks es → (ks.any fun e => decide (e.1 = k)) = es.any fun e => decide (keyO e.1 = some k)
  | _, _, .nil => rfl
  | _, _, .cons (k := j) h r => by
    rw [List.any_cons, List.any_cons, RepK.any k r]
    dsimp only
    rw [key_dec]
theorem RepK.repl (k : Key) (h : Rep K F v d) : ∀ {ks : List (Key × V)} {es : List (D × D)}, RepK K F ks es → RepK K F (ks.map fun e => if e.1 = k then (e.1, v) else e) (es.map fun e => if keyO e.1 = some k then (e.1, d) else e)
  | _, _, .nil => .nil
  | _, _, .cons (k := j) q r => by
    rw [List.map_cons, List.map_cons]
    dsimp only
    rw [keyO_kD]
    by_cases c : j = k
    · subst c
      rw [if_pos rfl, if_pos rfl]
      exact .cons h (RepK.repl j h r)
    · rw [if_neg c, if_neg fun z => c (Option.some.inj z)]
      exact .cons q (RepK.repl k h r)
theorem RepK.append : ∀ {ks js : List (Key × V)} {es fs : List (D × D)}, RepK K F ks es → RepK K F js fs → RepK K F (ks ++ js) (es ++ fs)
  | _, _, _, _, .nil, s => s
  | _, _, _, _, .cons h r, s => .cons h (RepK.append r s)
theorem RepK.put (k : Key) (h : Rep K F v d) (r : RepK K F ks es) : RepK K F (putK ks k v) (putE es k d) := by
  unfold putK putE
  rw [r.any k]
  by_cases c : (es.any fun e => decide (keyO e.1 = some k)) = true
  · rw [if_pos c, if_pos c]
    exact r.repl k h
  · rw [if_neg c, if_neg c]
    exact r.append (.cons h .nil)
theorem Res.dict {m : Md} {H0 H : Hp} (h : Res K m H0 F H v (.dict es)) (fh : Same F H) : ∃ a ks, v = .ref a ∧ Rd H a (.dK ks) ∧ RepK K F ks es := by
  rcases h.any with h | ⟨a, rfl, _, o⟩
  · cases h with
    | dct h1 r => exact ⟨_, _, rfl, fh.rd h1, r⟩
  · obtain ⟨ks, e, r⟩ := o
    exact ⟨a, ks, rfl, .of e, r⟩
end
/-! reading -/
def dgetD : D → D → Option D
  | .dict es, y => (keyO y).bind fun k => valE es k
  | _, _ => none
def dinD (r : Bool → Bool) : D → D → Option D
  | y, .dict es => (keyO y).map fun k => .bool (r (valE es k).isSome)
  | _, _ => none
def dget1D : D → D → Option D
  | .dict es, y => (keyO y).map fun k => (valE es k).getD .none
  | _, _ => none
def dget2D : D → D → D → Option D
  | .dict es, y, z => (keyO y).map fun k => (valE es k).getD z
  | _, _, _ => none
section
variable {X : Cx} {m m1 m2 : Md} {o i z : Expr} {td ty tx : TE} {f g h : Rho → Option D} {pos apos cpos : Pos}
theorem dict_of {d : D} {α : Type} {F : List (D × D) → Option α} {x : α} (h : (match d with | .dict es => F es | _ => none) = some x) : ∃ es, d = .dict es ∧ F es = some x := by
  cases d with
  | dict es => exact ⟨es, rfl, h⟩
  | _ => cases h
theorem de_dget (hu : X.A.units + 64 < cLine) (ho : DE X m o td f) (hi : DE X .fz i ty g) (hs : NoSl i := by intro _ _; rfl) : DE X .fz (.Subscript o i pos) (tDGet td ty) (f2 dgetD f g) := by
  refine ⟨pe_dget (by omega) ho.p hi.p hs, fun B F H σ ρ d Q r hf q => ?_⟩
  obtain ⟨d1, h1, h2⟩ := bind_some hf
  obtain ⟨y, h3, h4⟩ := bind_some h2
  cases d1 with
  | dict es =>
    obtain ⟨k, h5, h6⟩ := bind_some (show ((keyO y).bind fun k => valE es k) = some d from h4)
    refine ho.s B F H σ ρ _ _ r h1 fun v F1 H1 x1 r1 => ?_
    refine hi.s B F1 H1 σ ρ y _ (r.ext x1) h3 fun u F2 H2 x2 r2 => ?_
    obtain ⟨a, ks, rfl, rd, rk⟩ := (r1.mono x2).dict x2.s
    have r2 := rep_key r2 h5
    subst r2
    rcases rk.val k with ⟨_, z2⟩ | ⟨w, d', z1, z2, z3⟩
    · rw [z2] at h6; cases h6
    · rw [z2] at h6; cases h6
      exact ⟨a, w, rfl, .inl ⟨ks, k, rd, rfl, z1.symm⟩, q w F2 H2 (x1.trans x2) z3⟩
  | _ => cases h4
theorem sem_din {K : PySem.W.Frag} (r0 : Bool → Bool) (hi : SemE K .fz ty g) (ho : SemE K m td f) : SemE K .fz (fun σ H Q => ty σ H fun y H1 => td σ H1 fun x H2 => ∃ a o, x = .ref a ∧ DGet H2 a y o ∧ Q (.bl (r0 o.isSome)) H2) (f2 (dinD r0) g f) := by
  intro B F H σ ρ d Q r hf q
  obtain ⟨y, h1, h2⟩ := bind_some hf
  obtain ⟨d1, h3, h4⟩ := bind_some h2
  cases d1 with
  | dict es =>
    obtain ⟨k, h5, h6⟩ := Option.map_eq_some_iff.mp (show ((keyO y).map fun k => PyData.bool (r0 (valE es k).isSome)) = some d by cases y <;> exact h4)
    subst h6
    refine hi B F H σ ρ y _ r h1 fun u F1 H1 x1 r1 => ?_
    refine ho B F1 H1 σ ρ _ _ (r.ext x1) h3 fun v F2 H2 x2 r2 => ?_
    obtain ⟨a, ks, rfl, rd, rk⟩ := r2.dict x2.s
    have r1 := rep_key r1 h5
    subst r1
    refine ⟨a, valV ks k, rfl, .inl ⟨ks, k, rd, rfl, rfl⟩, q _ F2 H2 (x1.trans x2) ?_⟩
    rcases rk.val k with ⟨z1, z2⟩ | ⟨w, d', z1, z2, z3⟩
    · rw [z1, z2]; exact Rep.bl _
    · rw [z1, z2]; exact Rep.bl _
  | _ => cases y <;> cases h4
theorem de_din (hu : X.A.units + 64 < cLine) (hi : DE X .fz i ty g) (ho : DE X m o td f) (hm : behindInMarks .In o = false := by rfl) : DE X .fz (.Compare i [.In] [o] pos) (tDIn ty td) (f2 (dinD id) g f) :=
  ⟨pe_cmp (pc_din (by omega) hi.p ho.p) hm, sem_din id hi.s ho.s⟩
theorem de_dnot (hu : X.A.units + 64 < cLine) (hi : DE X .fz i ty g) (ho : DE X m o td f) (hm : behindInMarks .NotIn o = false := by rfl) : DE X .fz (.Compare i [.NotIn] [o] pos) (tDNotIn ty td) (f2 (dinD not) g f) :=
  ⟨pe_cmp (pc_dnotin (by omega) hi.p ho.p) hm, sem_din not hi.s ho.s⟩
theorem dt_din (hu : X.A.units + 64 < cLine) (hi : DE X .fz i ty g) (ho : DE X m o td f) (hm : behindInMarks .In o = false := by rfl) : DT X (.Compare i [.In] [o] pos) (tTest (tDIn ty td)) (fT (f2 (dinD id) g f)) :=
  ⟨pt_cmp (pc_din (by omega) hi.p ho.p) hm, sem_test (sem_din id hi.s ho.s)⟩
theorem dt_dnot (hu : X.A.units + 64 < cLine) (hi : DE X .fz i ty g) (ho : DE X m o td f) (hm : behindInMarks .NotIn o = false := by rfl) : DT X (.Compare i [.NotIn] [o] pos) (tTest (tDNotIn ty td)) (fT (f2 (dinD not) g f)) :=
  ⟨pt_cmp (pc_dnotin (by omega) hi.p ho.p) hm, sem_test (sem_din not hi.s ho.s)⟩
theorem isD_rd {H : Hp} {a : Addr} {ks : List (Key × V)} (h : Rd H a (.dK ks)) : IsD H a := .inl ⟨ks, h⟩
theorem de_dget1 (hu : X.A.units + 64 < cLine) (ho : DE X m o td f) (hi : DE X .fz i ty g) (hm : M1 X o "get" apos i cpos := by exact ⟨rfl, rfl, rfl, rfl⟩) : DE X .fz (.Call (.Attribute o "get" apos) [i] [] cpos) (tDGet1 td ty) (f2 dget1D f g) := by
  refine ⟨pe_dget1 (by omega) ho.p hi.p hm, fun B F H σ ρ d Q r hf q => ?_⟩
  obtain ⟨d1, h1, h2⟩ := bind_some hf
  obtain ⟨y, h3, h4⟩ := bind_some h2
  cases d1 with
  | dict es =>
    obtain ⟨k, h5, h6⟩ := Option.map_eq_some_iff.mp (show ((keyO y).map fun k => (valE es k).getD .none) = some d from h4)
    subst h6
    refine ho.s B F H σ ρ _ _ r h1 fun v F1 H1 x1 r1 => ?_
    obtain ⟨a, ks, rfl, rd, rk⟩ := r1.dict x1.s
    refine ⟨a, rfl, isD_rd rd, ?_⟩
    refine hi.s B F1 H1 σ ρ y _ (r.ext x1) h3 fun u F2 H2 x2 r2 => ?_
    have r2 := rep_key r2 h5
    subst r2
    refine ⟨valV ks k, .inl ⟨ks, k, x2.h.rd rd, rfl, rfl⟩, q _ F2 H2 (x1.trans x2) ?_⟩
    rcases rk.val k with ⟨z1, z2⟩ | ⟨w, d', z1, z2, z3⟩
    · rw [z1, z2]; exact Rep.non
    · rw [z1, z2]; exact z3.mono x2.f
  | _ => cases h4
def fGet2 (f g h : Rho → Option D) : Rho → Option D := fun ρ => (f ρ).bind fun d => (g ρ).bind fun y => (h ρ).bind fun z => dget2D d y z
theorem de_dget2 (hu : X.A.units + 64 < cLine) (ho : DE X m o td f) (hi : DE X .fz i ty g) (hz : DE X .fz z tx h) (hm : M2 X o "get" apos i z cpos := by exact ⟨rfl, rfl, rfl, rfl⟩) :
    DE X .fz (.Call (.Attribute o "get" apos) [i, z] [] cpos) (tDGet2 td ty tx) (fGet2 f g h) := by
  refine ⟨pe_dget2 (by omega) ho.p hi.p hz.p hm, fun B F H σ ρ d Q r hf q => ?_⟩
  obtain ⟨d1, h1, h2⟩ := bind_some hf
  obtain ⟨y, h3, h4⟩ := bind_some h2
  obtain ⟨e, h7, h8⟩ := bind_some h4
  cases d1 with
  | dict es =>
    obtain ⟨k, h5, h6⟩ := Option.map_eq_some_iff.mp (show ((keyO y).map fun k => (valE es k).getD e) = some d from h8)
    subst h6
    refine ho.s B F H σ ρ _ _ r h1 fun v F1 H1 x1 r1 => ?_
    obtain ⟨a, ks, rfl, rd, rk⟩ := r1.dict x1.s
    refine ⟨a, rfl, isD_rd rd, ?_⟩
    refine hi.s B F1 H1 σ ρ y _ (r.ext x1) h3 fun u F2 H2 x2 r2 => ?_
    refine hz.s B F2 H2 σ ρ e _ ((r.ext x1).ext x2) h7 fun w0 F3 H3 x3 r3 => ?_
    have r2 := rep_key r2 h5
    subst r2
    refine ⟨valV ks k, .inl ⟨ks, k, x3.h.rd (x2.h.rd rd), rfl, rfl⟩, q _ F3 H3 ((x1.trans x2).trans x3) ?_⟩
    rcases rk.val k with ⟨z1, z2⟩ | ⟨w, d', z1, z2, z3⟩
    · rw [z1, z2]; exact r3
    · rw [z1, z2]; exact (z3.mono x2.f).mono x3.f
  | _ => cases h8
end
/-! new dicts -/
section
variable {X : Cx} {k v : Expr} {tk tv : TE} {f g : Rho → Option D} {pos : Pos}
theorem de_dnew : DE X .fr (.Dict [] [] pos) tDNewK (cD (.dict [])) := ⟨pe_dnewK, fun B F H σ ρ d Q r hf q p hp => by
  cases hf
  have hF : F p = none := r.fh.free hp
  refine q _ F _ ⟨.refl _, same_upd hp, .refl, fun b u z => ?_⟩ ⟨p, rfl, hp, hF, [], upd_same, .nil⟩
  rw [upd_ne (ne_of_none z hF)]; exact r.fh b u z⟩
def disp1D (y d : D) : Option D := (keyO y).map fun k => .dict [(kD k, d)]
theorem de_disp1 (hk : DE X .fz k tk f) (hv : DE X .fz v tv g) : DE X .fr (.Dict [some k] [v] pos) (tDisp [(tk, tv)]) (f2 disp1D f g) := by
  refine ⟨pe_disp (pps_cons hk.p hv.p pps_nil) rfl rfl (by simp) (by simp), fun B F H σ ρ d Q r hf q p hp => ?_⟩
  obtain ⟨y, h1, h2⟩ := bind_some hf
  obtain ⟨e, h3, h4⟩ := bind_some h2
  obtain ⟨j, h5, h6⟩ := Option.map_eq_some_iff.mp (show ((keyO y).map fun k => PyData.dict [(kD k, e)]) = some d from h4)
  subst h6
  have hF : F p = none := r.fh.free hp
  have xx : Ext F H F (upd H p (.dK [])) := ⟨.refl _, same_upd hp, .refl, fun b u z => by rw [upd_ne (ne_of_none z hF)]; exact r.fh b u z⟩
  refine hk.s B F _ σ ρ y _ (r.ext xx) h1 fun u F1 H1 x1 r1 => ?_
  refine hv.s B F1 H1 σ ρ e _ ((r.ext xx).ext x1) h3 fun w F2 H2 x2 r2 => ?_
  have r1 := rep_key r1 h5
  subst r1
  have e1 : H2 p = some (.dK []) := x2.h _ _ (x1.h _ _ upd_same)
  have f1 : F1 p = none := x1.keepNone hF (by rw [upd_same]; exact fun z => nomatch z)
  have f2 : F2 p = none := x2.keepNone f1 (by rw [x1.h _ _ upd_same]; exact fun z => nomatch z)
  have x3 := (xx.trans x1).trans x2
  refine ⟨e1, [(j, w)], rfl, by simp, q _ F2 _ ⟨x3.f, fun b u z => ?_, x3.n, fun b u z => ?_⟩ ⟨p, rfl, hp, f2, [(j, w)], ?_, .cons r2 .nil⟩⟩
  · rw [upd_ne (ne_of_none z hp)]; exact x3.h b u z
  · rw [upd_ne (ne_of_none z f2)]; exact x3.s b u z
  · rw [upd_same]; rfl
end
/-! writing -/
def dcL : Option Sl → Option (List (D × D))
  | some (.ow (.dict es)) => some es
  | _ => none
@[simp] theorem dcL_ow {es : List (D × D)} : dcL (some (.ow (.dict es))) = some es := rfl
def bDput (j : Nat) (fk fv : Rho → Option D) : Bd := fun ρ => (fv ρ).bind fun d => (dcL ρ[j]?).bind fun es => (fk ρ).bind fun y => (keyO y).bind fun k => if es.length < sizeLine then some (.nx (ρ.set j (.ow (.dict (putE es k d))))) else none
theorem dcL_some {s : Option Sl} {es : List (D × D)} (h : dcL s = some es) : s = some (.ow (.dict es)) := by
  unfold dcL at h
  split at h
  · cases h; rfl
  · cases h
theorem sem_dput {K : PySem.W.Frag} {m : Md} {j : Nat} {tk tv : TE} {fk fv : Rho → Option D} (hk : SemE K .fz tk fk) (hv : SemE K .fz tv fv) : SemS K m [] (sDPut (tVar j) tk tv) (bDput j fk fv) := by
  intro B F H σ ρ o D r hb q
  obtain ⟨d, h1, h2⟩ := bind_some hb
  obtain ⟨es, h3, h4⟩ := bind_some h2
  obtain ⟨y, h5, h6⟩ := bind_some h4
  obtain ⟨k, h7, h8⟩ := bind_some h6
  obtain ⟨hl, rfl⟩ := if_some h8
  have h3 := dcL_some h3
  refine hv B F H σ ρ d _ r h1 fun v F1 H1 x1 r1 => ?_
  obtain ⟨oo, e1, a, rfl, hF, hG, ks, e2, rk⟩ := (r.ext x1).at h3
  refine ⟨.ref a, e1, ?_⟩
  refine hk B F1 H1 σ ρ y _ (r.ext x1) h5 fun u F2 H2 x2 r2 => ?_
  have r2 := rep_key r2 h7
  subst r2
  have hF2 : F2 a = none := x2.keepNone hF (by rw [e2]; exact fun z => nomatch z)
  refine ⟨a, _, rfl, DPut.k (x2.h _ _ e2) (by rw [rk.length]; exact hl), ?_⟩
  exact q σ F2 _ (((r.ext x1).ext x2).write h3 e1 hF2 hG ⟨putK ks k v, upd_same, (rk.mono x2.f).put k (Rep.mono x2.f r1)⟩) fun _ _ => rfl
theorem ds_dput {X : Cx} {m : Md} {j : Nat} {x : Str} {pn pos pos' : Pos} {i e : Expr} {tk tv : TE} {fk fv : Rho → Option D} (hu : X.A.units + 64 < cLine) (hk : DE X .fz i tk fk) (hv : DE X .fz e tv fv) (hN : X.N[j]? = some x := by rfl)
    (hvs : Vis X.env.scope x := by first | exact Or.inl rfl | exact Or.inr (Or.inl rfl) | exact Or.inr (Or.inr rfl)) (hd : (x == ("__debug__" : Str)) = false := by decide) (hcd : (x == ("__classdict__" : Str)) = false := by decide)
    (hs : swapsWith e (some (.Subscript (.Name x pn) i pos')) pos.line X.env = pure false := by rfl) :
    DS X m [] (.Assign [.Subscript (.Name x pn) i pos'] e pos) (sDPut (tVar j) tk tv) (bDput j fk fv) :=
  ⟨ps_dput (by omega) (pe_var hN hvs hd hcd) hk.p hv.p hs, sem_dput hk.s hv.s⟩
@[simp] theorem fGet2_e {f g h : Rho → Option D} {ρ : Rho} : fGet2 f g h ρ = (f ρ).bind fun d => (g ρ).bind fun y => (h ρ).bind fun z => dget2D d y z := rfl
@[simp] theorem bDput_e {j : Nat} {fk fv : Rho → Option D} {ρ : Rho} : bDput j fk fv ρ = (fv ρ).bind fun d => (dcL ρ[j]?).bind fun es => (fk ρ).bind fun y => (keyO y).bind fun k => if es.length < sizeLine then some (.nx (ρ.set j (.ow (.dict (putE es k d))))) else none := rfl
end Q
end

/-! part: Q27 -/
section
set_option Elab.async false
set_option linter.all false
set_option maxRecDepth 100000
set_option maxHeartbeats 4000000
set_option autoImplicit false
namespace Q
open PySem PySem.Spec PySem.Calls PyProof.Rows L2
/-! ### x[::-1], a text -/
theorem rev_pick {α : Type} (items : Array α) : ((List.range items.size).map fun k => items.size - 1 - k).filterMap (fun j => items[j]?) = items.toList.reverse := by
  rw [List.filterMap_map]
  have key : (List.range items.size).filterMap ((fun j => items[j]?) ∘ fun k => items.size - 1 - k) = (List.range items.size).filterMap fun k => items.toList.reverse[k]? := by
    refine fm_congr ?_
    intro k hk
    have := List.mem_range.mp hk
    show items[items.size - 1 - k]? = _
    rw [List.getElem?_reverse (by simpa using this)]
    simp
  rw [key]
  have : items.size = items.toList.reverse.length := by simp
  rw [this]
  generalize items.toList.reverse = l
  induction l with
  | nil => rfl
  | cons x l ih =>
    rw [List.length_cons, List.range_succ_eq_map, List.filterMap_cons]
    simp only [List.getElem?_cons_zero, List.filterMap_map]
    congr 1
theorem sidx_rev (n : Nat) : Builtin.Str.strSliceIndices none none (-1) n = (List.range n).map fun k => n - 1 - k := by
  rw [← range_rev]
  rfl
def revS (z : Str) : Str := ⟨z.cps.toList.reverse.toArray⟩
def tRevT (te tc : TE) : TE := fun σ H Q => te σ H fun x H1 => tc σ H1 fun y H2 => ∃ z, x = .str z ∧ y = .int (-1) ∧ z.length ≤ sizeLine ∧ Q (.str (revS z)) H2
section
variable {X : Cx} {m m1 : Md} {e c : Expr} {te tc : TE} {f g : Rho → Option D} {p2 pos : Pos}
theorem pe_revT (he : PE X e te) (hc : PE X c tc) : PE X (.Subscript e (.Slice none none (some c) p2) pos) (tRevT te tc) := by
  refine ⟨fun pins s σ H Q I h => ?_⟩
  refine Subscript_ (thn (he.run pins s σ H _ I h) fun v s1 ⟨x, H1, I1, r1, q1⟩ => ?_)
  refine wpAny_Slice ?_
  rw [evalPart_none]
  refine wpAny_pure (wpAny_pure ?_)
  rw [evalPart_some]
  refine thn (hc.run pins s1 σ H1 _ I1 q1) fun u s2 ⟨y, H2, I2, r2, z, ex, ey, hz, q2⟩ => ?_
  subst ey; subst ex
  obtain ⟨t1, rfl⟩ := r1
  obtain ⟨t, rfl⟩ := r2
  have I4 : Inv X pins σ H2 { s2 with heap := s2.heap.push { cls := .type "slice", data := .fields #[.none, .none, .int (-1) t] } } := I2.kept (t' := s2.toks) fun b ob q => Heap.get?_push_of_some _ q
  show wpAny (model X.prog X.w) X.A (subscriptTail e (.Slice none none (some c) p2) (.str z t1) (.ref s2.heap.objs.size)) (EP X pins σ Q) X.xe { s2 with heap := s2.heap.push { cls := .type "slice", data := .fields #[.none, .none, .int (-1) t] } }
  refine tail_any (ops := [.str z t1, .ref s2.heap.objs.size]) (typeIs_str _ _ _) F.slot_str_getitem.lookup ?_ (by with_unfolding_all rfl)
  refine wpAny_getItem_str_slice (l := none) (u := none) (st := some (-1, t)) ⟨_, Heap.get?_push_size _ rfl, rfl, rfl⟩ rfl ?_
  have hrev : ((Builtin.Str.strSliceIndices none none (-1) z.length).filterMap (z.cps[·]?)).toArray = z.cps.toList.reverse.toArray := by
    rw [sidx_rev]
    exact congrArg List.toArray (rev_pick z.cps)
  show Made.post (Made.str ⟨((Builtin.Str.strSliceIndices none none (-1) z.length).filterMap (z.cps[·]?)).toArray⟩) (EP X pins σ Q) _
  rw [hrev]
  refine ⟨?_, .str (revS z), H2, I4.tok _, ⟨_, rfl⟩, q2⟩
  show (z.cps.toList.reverse.toArray).size ≤ sizeLine
  have : z.cps.size ≤ sizeLine := hz
  simpa using this
def revTD (d c : D) : Option D := match d, c with
  | .str z, .int i => if i = -1 ∧ z.length ≤ sizeLine then some (.str (revS z)) else none
  | _, _ => none
theorem de_revT (he : DE X m e te f) (hc : DE X m1 c tc g) : DE X .fz (.Subscript e (.Slice none none (some c) p2) pos) (tRevT te tc) (f2 revTD f g) := ⟨pe_revT he.p hc.p, fun B F H σ ρ z Q r hf q => by
  obtain ⟨d, h1, h2⟩ := bind_some hf
  obtain ⟨i, h3, h4⟩ := bind_some h2
  refine he.s B F H σ ρ d _ r h1 fun v F1 H1 x1 r1 => ?_
  refine hc.s B F1 H1 σ ρ i _ (r.ext x1) h3 fun w F2 H2 x2 r2 => ?_
  match d, i, h4, r1, r2 with
  | .str x, .int i, h4, r1, r2 =>
    obtain ⟨⟨hn, hl⟩, rfl⟩ := if_some (show (if i = -1 ∧ x.length ≤ sizeLine then some (PyData.str (revS x)) else none) = some z from h4)
    subst hn
    exact ⟨x, r1.str, r2.int, hl, q _ F2 H2 (x1.trans x2) (Rep.str _)⟩⟩
end
end Q
end

/-! part: Q38 -/
section
set_option Elab.async false
set_option linter.all false
set_option maxRecDepth 100000
set_option maxHeartbeats 4000000
set_option autoImplicit false
namespace Q
open PySem PySem.Spec PySem.Calls PyProof.Rows L2
/-! ### x[::-1], a tuple -/
section
variable {prog : Program} {w : World} {A : Around} {E : Value → Shared → Prop} {s : Shared}
theorem adjust_rev (n : Nat) : Builtin.Slice.sliceAdjust none none (-1) (n : Int) = ((n : Int) - 1, -1) := by
  unfold Builtin.Slice.sliceAdjust
  have h1 : ((-1 : Int) < 0) := by omega
  simp [h1]
theorem places_rev (n : Nat) : Builtin.Slice.slicePlaces ((n : Int) - 1) (-1) (-1) = n := by
  unfold Builtin.Slice.slicePlaces
  have h1 : ¬ ((-1 : Int) > 0) := by omega
  simp only [h1, if_false]
  have e : (- -1 : Int) = 1 := by decide
  rw [e]
  simp only [Int.ediv_one]
  split <;> omega
theorem sliceApplied_rev {sl : Addr} {n : Nat} {t : Tok} {Q : Int × Int × Nat → Shared → Prop} (hs : s.heap.IsSliceOf sl .none .none (.int (-1) t))
    (h : Q ((n : Int) - 1, -1, n) s) : wpAny (model prog w) A (Builtin.Slice.sliceApplied (.ref sl) (pure (n : Int))) Q E s := by
  obtain ⟨os, hos, hcs, hds⟩ := id hs
  unfold Builtin.Slice.sliceApplied Builtin.Slice.sliceFields
  refine wpAny_bind (wpAny_bind (wpAny_field hos hds (x := .none) rfl (wpAny_bind (wpAny_field hos hds (x := .none) rfl (wpAny_bind (wpAny_field hos hds (x := .int (-1) t) rfl (wpAny_pure ?_)))))))
  refine wpAny_bind (slicePart_int ?_)
  show wpAny _ _ (if ((-1 : Int) == 0) = true then _ else _) _ _ s
  rw [if_neg (by decide)]
  refine wpAny_bind (slicePart_none (wpAny_bind (slicePart_none (wpAny_bind (wpAny_pure ?_)))))
  show wpAny _ _ (match Builtin.Slice.sliceAdjust none none (-1) (n : Int) with | (lo, hi) => pure (lo, (-1 : Int), Builtin.Slice.slicePlaces lo hi (-1))) _ _ s
  rw [adjust_rev n]
  show wpAny _ _ (pure ((n : Int) - 1, (-1 : Int), Builtin.Slice.slicePlaces ((n : Int) - 1) (-1) (-1))) _ _ s
  rw [places_rev]
  exact wpAny_pure h
theorem pick_revT (xs : Array Value) : ((List.range xs.size).filterMap fun (m : Nat) => xs[(((xs.size : Int) - 1) + (m : Int) * (-1)).toNat]?).toArray = xs.toList.reverse.toArray := by
  rw [← rev_pick xs, List.filterMap_map]
  refine congrArg List.toArray (fm_congr fun k hk => ?_)
  have := List.mem_range.mp hk
  have e : (((xs.size : Int) - 1) + (k : Int) * (-1)).toNat = xs.size - 1 - k := by omega
  rw [e]
  rfl
theorem getItem_tuple_rev {t sl : Addr} {items : Array Value} {u : Tok} {Q : Value → Shared → Prop} (ht : IsTup s.heap t items) (hs : s.heap.IsSliceOf sl .none .none (.int (-1) u))
    (h : Q (.ref s.heap.objs.size) { s with heap := s.heap.push { cls := .type "tuple", data := .seq items.toList.reverse.toArray } })
    (hsz : items.size ≤ sizeLine) : wpAny (model prog w) A (getItem (.ref t) (.ref sl)) Q E s := by
  have htake : sizeOk (.seq items.toList.reverse.toArray) := by
    show items.toList.reverse.toArray.size ≤ sizeLine
    rw [List.size_toArray, List.length_reverse, Array.length_toList]
    exact hsz
  obtain ⟨os, hos, hcs, hds⟩ := id hs
  have hTs : s.TypeIs (.ref sl) "slice" := ⟨os, hos, hcs⟩
  unfold getItem
  try with_reducible refine wpAny_holding ?_
  first | refine wpAny_bind (wpAny_pure ?_) | skip
  refine wpAny_bind (wpAny_sequenceKey ht.typeIs (by decide) ?_)
  refine wpAny_bind (wpAny_callSpecial?_slot (name := Str.ofString "__getitem__") ht.typeIs PyProof.Rows.slot_tuple_getitem
    (wpAny_call_entry PyProof.Rows.slot_tuple_getitem ht.typeIs entry_tuple_getitem ?_ (args_tuple_getitem _ _)))
  show wpAny _ _ (Builtin.Tuple.tupleItemsOf (.ref t) >>= _) _ _ s
  refine wpAny_bind (tupleItemsOf_ ht ?_)
  refine wpAny_bind (wpAny_typeOf hTs ?_)
  rw [if_pos (by decide)]
  refine wpAny_bind (sliceApplied_rev hs ?_)
  have hno : ¬ ((((items.size : Int) - 1) == 0 && (-1 : Int) == 1 && items.size == items.size) = true) := by
    intro q
    rw [Bool.and_eq_true, Bool.and_eq_true] at q
    exact absurd q.1.2 (by decide)
  show wpAny _ _ (if (((items.size : Int) - 1) == 0 && (-1 : Int) == 1 && items.size == items.size) = true then _ else _) _ _ s
  rw [if_neg hno, pick_revT]
  first
    | exact wpAny_bind (m := Builtin.Tuple.tupleExact _) (wpAny_newObj_type (wpAny_pure ⟨_, rfl, wpAny_pure h⟩) htake)
    | exact wpAny_bind (m := Builtin.Tuple.tupleExact _) (wpAny_newObj_type (wpAny_bind (wpAny_pure (wpAny_pure ⟨_, rfl, wpAny_pure h⟩))) htake)
    | exact wpAny_bind (wpAny_bind (m := Builtin.Tuple.tupleExact _) (wpAny_newObj_type (wpAny_pure (wpAny_pure ⟨_, rfl, wpAny_pure h⟩)) htake))
    | exact wpAny_bind (wpAny_bind (m := Builtin.Tuple.tupleExact _) (wpAny_newObj_type (wpAny_pure ⟨_, rfl, wpAny_pure h⟩) htake))
end
section
variable {X : Cx} {m m1 : Md} {e c : Expr} {te tc : TE} {f g : Rho → Option D} {p2 pos : Pos}
def tRevU (K : PySem.W.Frag) (te tc : TE) : TE := fun σ H Q => te σ H fun x H1 => tc σ H1 fun y H2 => ∃ a xs, x = .ref a ∧ y = .int (-1) ∧ SqT K H2 a xs ∧ NewT xs.reverse H2 Q
theorem pe_revU (he : PE X e te) (hc : PE X c tc) : PE X (.Subscript e (.Slice none none (some c) p2) pos) (tRevU X.K te tc) := by
  refine ⟨fun pins s σ H Q I h => ?_⟩
  refine Subscript_ (thn (he.run pins s σ H _ I h) fun v s1 ⟨x, H1, I1, r1, q1⟩ => ?_)
  refine wpAny_Slice ?_
  rw [evalPart_none]
  refine wpAny_pure (wpAny_pure ?_)
  rw [evalPart_some]
  refine thn (hc.run pins s1 σ H1 _ I1 q1) fun u s2 ⟨y, H2, I2, r2, a, xs, ex, ei, sq, q2⟩ => ?_
  subst ei; subst ex
  cases r1
  obtain ⟨t, rfl⟩ := r2
  have I4 : Inv X pins σ H2 { s2 with heap := s2.heap.push { cls := .type "slice", data := .fields #[.none, .none, .int (-1) t] } } := I2.kept (t' := s2.toks) fun b ob q => Heap.get?_push_of_some _ q
  obtain ⟨its, rv, pl, hz⟩ := I4.tuple sq
  show wpAny (model X.prog X.w) X.A (subscriptTail e (.Slice none none (some c) p2) (.ref a) (.ref s2.heap.objs.size)) (EP X pins σ Q) X.xe { s2 with heap := s2.heap.push { cls := .type "slice", data := .fields #[.none, .none, .int (-1) t] } }
  refine tail_any (ops := [.ref a, .ref s2.heap.objs.size]) pl.typeIs PyProof.Rows.slot_tuple_getitem.lookup ?_ (by with_unfolding_all rfl)
  refine getItem_tuple_rev pl (Heap.IsSliceOf.new ..) ?_ (by rw [List.size_toArray, ← rv.length]; exact hz)
  refine ⟨.ref _, _, ?_, rfl, q2 _ (tupObj its.reverse.toArray) (I4.hok.fresh (Nat.le_refl _)) rfl rfl⟩
  have h1 : its.toArray.toList.reverse.toArray = its.reverse.toArray := by simp
  rw [h1]
  exact I4.laidT (its := its.reverse) (t' := s2.toks) (vals_rev rv) (by rw [List.length_reverse]; exact hz)
def revUD (d c : D) : Option D := match d, c with
  | .tuple ds, .int i => if i = -1 then some (.tuple ds.reverse) else none
  | _, _ => none
theorem de_revU (K' : PySem.W.Frag) (he : DE X m e te f) (hc : DE X m1 c tc g) (hK : X.K = K' := by rfl) : DE X .fz (.Subscript e (.Slice none none (some c) p2) pos) (tRevU K' te tc) (f2 revUD f g) := by
  subst hK
  refine ⟨pe_revU he.p hc.p, fun B F H σ ρ z Q r hf q => ?_⟩
  obtain ⟨d, h1, h2⟩ := bind_some hf
  obtain ⟨i, h3, h4⟩ := bind_some h2
  refine he.s B F H σ ρ d _ r h1 fun v F1 H1 x1 r1 => ?_
  refine hc.s B F1 H1 σ ρ i _ (r.ext x1) h3 fun w F2 H2 x2 r2 => ?_
  match d, i, h4, r1, r2 with
  | .tuple ds, .int i, h4, r1, r2 =>
    obtain ⟨hn, rfl⟩ := if_some (show (if i = -1 then some (PyData.tuple ds.reverse) else none) = some z from h4)
    obtain ⟨a, xs, rfl, s1, p1⟩ := (r1.mono x2).tup x2.s
    refine ⟨a, xs, rfl, by rw [r2.int, hn], s1.sq, newT_rep (x1.trans x2) p1.rev q⟩
@[simp] theorem revUD_e (ds : List D) : revUD (.tuple ds) (.int (-1)) = some (.tuple ds.reverse) := rfl
end
end Q
end

/-! part: Q39 -/
section
set_option Elab.async false
set_option linter.all false
set_option maxRecDepth 100000
set_option maxHeartbeats 4000000
set_option autoImplicit false
namespace Q
open PySem PySem.Spec PySem.Calls PyProof.Rows L2
open PySem.Sem (wp)
/-! ### bool(x) -/
theorem meets_boolT (l : Addr) (items : Array Value) (hfit : (items.size : Int) < 2 ^ 63) :
    Meets (Builtin.«bool.__new__» ⟨[.type "bool", .ref l], []⟩) (fun _ R s => IsTup s.heap l items ∧ R (.ok (.ret (.bool (!items.isEmpty)))) { s with toks := s.toks + 1 + 1 }) :=
  Meets.of_wp fun prog w A R s hs => by
    obtain ⟨hl, hs⟩ := hs
    obtain ⟨hp, g, d, tk, os⟩ := s
    have f1 := F.conv_sub_bool
    repeat (any_goals (first | assumption | (with_reducible refine truthy_tuple hl hfit ?_) | wp_step))
    all_goals first | exact ⟨_, rfl, hs⟩ | exact hs | skip
theorem call_boolT {prog : Program} {w : World} {A : Around} {E : Value → Shared → Prop} {s : Shared} {l : Addr} {items : Array Value} {Q : Value → Shared → Prop} (hfit : (items.size : Int) < 2 ^ 63) (hl : IsTup s.heap l items)
    (h : Q (.bool (!items.isEmpty)) { s with toks := s.toks + 1 + 1 }) : wpAny (model prog w) A (call (.type "bool") [.ref l]) Q E s :=
  call_bool_1 (meets_boolT l items hfit) ⟨hl, rfl, h⟩
def rBoolQ (K : PySem.W.Frag) : List V → Hp → VK → Prop := fun vs H Q => (∃ i, vs = [.int i] ∧ Q (.bl (i != 0)) H) ∨ (∃ b, vs = [.bl b] ∧ Q (.bl b) H) ∨
  (∃ a xs, vs = [.ref a] ∧ SqL K H a xs ∧ Q (.bl (!xs.isEmpty)) H) ∨ (∃ a xs, vs = [.ref a] ∧ SqT K H a xs ∧ Q (.bl (!xs.isEmpty)) H)
theorem cr_boolQ {X : Cx} : CallR X (.type "bool") (rBoolQ X.K) := by
  intro pins s σ H vs us Q I r h
  rcases h with ⟨i, rfl, q⟩ | ⟨b, rfl, q⟩ | ⟨a, xs, rfl, hs, q⟩ | ⟨a, xs, rfl, hs, q⟩
  · obtain ⟨u, rfl, ru⟩ := vals1 r
    obtain ⟨t, rfl⟩ := ru
    exact call_bool_int ⟨.bl (i != 0), H, I, rfl, q⟩
  · obtain ⟨u, rfl, ru⟩ := vals1 r
    cases ru
    exact call_bool_bool ⟨.bl b, H, I, rfl, q⟩
  · obtain ⟨u, rfl, ru⟩ := vals1 r
    cases ru
    obtain ⟨its, rv, pl, hz⟩ := I.list hs
    have hl := line63
    have hlen := rv.length
    refine GBL.call_bool_list (by simp only [List.size_toArray]; omega) pl.isList ?_
    exact ⟨.bl (!xs.isEmpty), H, I.tok _, by rw [isEmpty_of rv]; rfl, q⟩
  · obtain ⟨u, rfl, ru⟩ := vals1 r
    cases ru
    obtain ⟨its, rv, pl, hz⟩ := I.tuple hs
    have hl := line63
    have hlen := rv.length
    refine call_boolT (by simp only [List.size_toArray]; omega) pl ?_
    exact ⟨.bl (!xs.isEmpty), H, I.tok _, by rw [isEmpty_of rv]; rfl, q⟩
theorem cr_boolK {X : Cx} (K' : PySem.W.Frag) (hK : X.K = K' := by rfl) : CallR X (.type "bool") (rBoolQ K') := by
  subst hK
  exact cr_boolQ
def toBoolD : List D → Option D
  | [.int i] => some (.bool (i != 0))
  | [.bool b] => some (.bool b)
  | [.list ds] => some (.bool (!ds.isEmpty))
  | [.tuple ds] => some (.bool (!ds.isEmpty))
  | _ => none
theorem cs_bool {K : PySem.W.Frag} : CallS K .fz (rBoolQ K) toBoolD := by
  intro F H Ha vs ds z Q fh r hz q
  match ds, r, hz with
  | [.int i], r, hz =>
    cases hz
    obtain ⟨v, rfl, r1⟩ := resA1 r
    rw [r1.int]
    exact .inl ⟨i, rfl, q _ F H (.refl fh) (Rep.bl _)⟩
  | [.bool b], r, hz =>
    cases hz
    obtain ⟨v, rfl, r1⟩ := resA1 r
    rw [r1.bl]
    exact .inr (.inl ⟨b, rfl, q _ F H (.refl fh) (Rep.bl _)⟩)
  | [.list es], r, hz =>
    cases hz
    obtain ⟨v, rfl, r1⟩ := resA1 r
    obtain ⟨a, xs, rfl, s1, p1⟩ := r1.list fh
    exact .inr (.inr (.inl ⟨a, xs, rfl, s1, by rw [isEmpty_len p1.length]; exact q _ F H (.refl fh) (Rep.bl _)⟩))
  | [.tuple es], r, hz =>
    cases hz
    obtain ⟨v, rfl, r1⟩ := resA1 r
    obtain ⟨a, xs, rfl, s1, p1⟩ := r1.tup fh
    exact .inr (.inr (.inr ⟨a, xs, rfl, s1.sq, by rw [isEmpty_len p1.length]; exact q _ F H (.refl fh) (Rep.bl _)⟩))
@[simp] theorem bool_i {i : Int} : toBoolD [.int i] = some (.bool (i != 0)) := rfl
@[simp] theorem bool_b {b : Bool} : toBoolD [.bool b] = some (.bool b) := rfl
@[simp] theorem bool_l {ds : List D} : toBoolD [.list ds] = some (.bool (!ds.isEmpty)) := rfl
@[simp] theorem bool_t {ds : List D} : toBoolD [.tuple ds] = some (.bool (!ds.isEmpty)) := rfl
end Q
end

/-! part: Q40 -/
section
set_option Elab.async false
set_option linter.all false
set_option maxRecDepth 100000
set_option maxHeartbeats 4000000
set_option autoImplicit false
namespace Q
open PySem PySem.Spec PySem.Calls PyProof.Rows L2
/-! ### sorted(set(xs)) of ints, any number up to 4000 -/
section
variable {P : Program} {w : World} {A : Around} {E : Value → Shared → Prop} {s : Shared}
/-- an empty set's object -/
def es0 (w : World) : Obj := { cls := .type "set", dict := none, data := .set #[] 0 (.fresh 0 0 (!w.params.followText "set-order")) }
set_option maxHeartbeats 8000000 in
theorem set_listI {l : Addr} {items : Array Value} (ns : List Int) {Q : Value → Shared → Prop} (hh : A.handled = none) (hl : s.heap.IsList l items) (hit : IntsAre items.toList ns) (hb : ns.length + 1 < scanBound)
    (hq : ∀ (h' : Heap) (tk c : Nat), SetR w h' s.heap.objs.size (fun j => decide (j ∈ ns)) c → c ≤ ns.length → (∀ b o, s.heap.get? b = some o → h'.get? b = some o) → Q (.ref s.heap.objs.size) { s with heap := h', toks := tk }) :
    wpAny (model P w) A (call (.type "set") [.ref l]) Q E s := by
  have size_eq : items.size = ns.length := by
    have := hit.length
    rwa [Array.length_toList] at this
  obtain ⟨c0, tl0, k0⟩ := PySem.F.called_set.mro
  have k1 := PySem.F.called_set.made
  have k2 := PySem.F.called_set.sub
  refine wpAny_call (codeAny_of_tree ?_)
  show wpAny _ _ (callAny (.type "set") _) _ _ _
  refine wpAny_pure ⟨Code.quiet_builtin _ (by decide +kernel), codeAny_builtin PySem.F.entry_type_call ?_⟩
  rw [Around.under_plain (weight_type_call_type "set" [.ref l] []) rfl]
  have k3 := PySem.F.called_set.notType
  have k4 := PySem.F.called_set.canCreate
  have k5 := PySem.F.typeCall_set_1 (.ref l)
  repeat (any_goals (first | assumption | wp_step))
  refine codeAny_mono (code_set_led1 (.ref l) (E := E) (Q₁ := fun x s₁ => x = .ref s.heap.objs.size ∧ s₁ = { s with heap := s.heap.push (es0 w) }) ⟨rfl, rfl⟩) fun r s₁ hr => ?_
  match r, hr with
  | .error _, hr => exact hr
  | .ok (.ret x), hr =>
    obtain ⟨rfl, rfl⟩ := hr
    have new : (s.heap.push (es0 w)).get? s.heap.objs.size = some (es0 w) := Heap.get?_push_size _ rfl
    have ty : Shared.TypeIs { s with heap := s.heap.push (es0 w) } (.ref s.heap.objs.size) "set" := ⟨_, new, rfl⟩
    have k6 := PySem.F.called_set.init.lookup
    have k7 := PySem.F.called_set.init.bind (.ref s.heap.objs.size)
    repeat (any_goals (first | assumption | wp_step))
    refine codeAny_mono (codeAny_call_builtin (R := wants (fun r t => r = .none ∧ ∃ h' tk c, t = { s with heap := h', toks := tk } ∧ SetR w h' s.heap.objs.size (fun j => decide (j ∈ ns)) c ∧ c ≤ ns.length ∧ ∀ b o, s.heap.get? b = some o → h'.get? b = some o) E)
      PySem.F.called_set.init.plain PySem.F.entry_set_init (check_set_init_1 ty ?_)) fun r₂ s₂ hr₂ => ?_
    · obtain ⟨⟨oc, od, odat, osl⟩, ho, hc, nl, hd⟩ := hl
      simp only at hc hd
      subst hc hd
      have hold : (s.heap.push (es0 w)).get? l = some { cls := .type "list", dict := od, data := .seq items nl, slots := osl } := Heap.get?_push_of_some _ ho
      have k8 := PySem.F.sub_list_set
      have k9 := PySem.F.sub_list_frozenset
      have k10 : (Value.type "list" == Value.type "dict") = false := by decide
      have isl : (s.heap.push (es0 w)).IsList l items := ⟨_, hold, rfl, nl, rfl⟩
      unfold Builtin.«set.__init__» noKeywords Builtin.Frozenset.updateFrom
      generalize hPI : pyIter = PI
      wp_walk
      subst hPI
      refine wpAny_pyIter_list isl ?_
      refine wpAny_bind (wpAny_runValue ?_)
      have lt0 : l < s.heap.objs.size := Heap.lt_size ho
      have none3 : A.in1.in1.in1.handled = none := by simp [hh]
      have sz1 : (s.heap.push (es0 w)).objs.size = s.heap.objs.size + 1 := Heap.size_push ..
      have away : l ≠ (s.heap.push (es0 w)).objs.size := by rw [sz1]; exact Nat.ne_of_lt (Nat.lt_succ_of_lt lt0)
      have notin : s.heap.objs.size ∉ [(s.heap.push (es0 w)).objs.size, l] := by
        simp only [List.mem_cons, List.not_mem_nil, or_false, not_or]
        rw [sz1]
        exact ⟨Nat.ne_of_lt (Nat.lt_succ_self _), Nat.ne_of_gt lt0⟩
      have vals : ∀ (i : Nat) (v : Value), items[i]? = some v → ∃ k t, ns[i]? = some k ∧ v = .int k t := fun i v hv => by
        have lt : i < ns.length := by rw [← size_eq]; exact (Array.getElem?_eq_some_iff.mp hv).1
        obtain ⟨t, e⟩ := PyProof.Rows.IntsAre.int_at hit i v (by rw [Array.getElem?_toList]; exact hv)
        refine ⟨ns[i], t, List.getElem?_eq_getElem lt, ?_⟩
        rw [e, List.getD_eq_getElem?_getD, List.getElem?_eq_getElem lt]
        rfl
      refine set_update_ints (Walks.list none3 _ l away items).toS s.heap.objs.size notin ns size_eq hb vals (items.size - 0) 0 _ (by omega) (Nat.zero_le _) ⟨⟨_, Heap.get?_push_size _ rfl, rfl, rfl⟩, isl.push _⟩ ?first ?last
      case first => exact ⟨0, Nat.le_refl 0, setR_new_at (Heap.get?_push_of_some _ new)⟩
      case last =>
        rintro ⟨h', g2, d', tk', os'⟩ c' mv le' R'
        cases (show g2 = s.gens from mv.gens)
        cases (show d' = s.drawn from mv.drawn)
        cases (show os' = s.os from mv.os)
        show wpAny _ _ _ _ _ _
        refine wpAny_pure ?_
        show wpAny _ _ (ret Value.none) _ _ _
        refine wpAny_pure ⟨rfl, h', tk', c', rfl, R', by omega, fun b o e => ?_⟩
        have ltb : b < s.heap.objs.size := Heap.lt_size e
        refine mv.heap b o ?_ (Heap.get?_push_of_some _ (Heap.get?_push_of_some _ e))
        simp only [List.mem_cons, List.not_mem_nil, or_false, not_or]
        rw [sz1]
        exact ⟨Nat.ne_of_lt ltb, Nat.ne_of_lt (Nat.lt_succ_of_lt ltb)⟩
    · match r₂, hr₂ with
      | .error _, hr₂ => exact hr₂
      | .ok (.ret x), hr₂ =>
        obtain ⟨rfl, h', tk, c', rfl, R', le', keep⟩ := hr₂
        repeat (any_goals (first | assumption | wp_step))
        exact hq _ _ _ R' le' keep
/-- sorted of a set, however many it has -/
theorem sorted_setBig {a : Addr} {S : Int → Bool} {n : Nat} {Q : Value → Shared → Prop} (R : SetR w s.heap a S n) (hh : A.handled = none)
    (hq : ∀ s' p (out : Array Value) (c : Nat) (ns : List Int), (∀ b o, s.heap.get? b = some o → s'.heap.get? b = some o) → s'.gens = s.gens → s'.os = s.os → s.heap.objs.size ≤ p → s'.heap.get? p = some (seqObj "list" out c) → IntsAre out.toList ns →
      ns.Pairwise (· < ·) → (∀ k, k ∈ ns ↔ S k = true) → ns.length = n → Q (.ref p) s') : wpAny (model P w) A (call (.builtin "sorted") [.ref a]) Q E s := by
  obtain ⟨o, es, ep, t, ho, hex, hd, g, nd, hm, hb, hf, hn, hr, hl⟩ := R
  refine Calls.call_function_entry kind_sorted plain_sorted entry_sorted (args_sorted1 _) ?_
  unfold Builtin.«sorted»
  refine wpAny_bind (m := checkCount "sorted" 1 1 _) (wpAny_pure ?_)
  refine wpAny_bind (collect_set (A := A.in1) hh ⟨o, ho, hex.1, hd⟩ hf hb hr hl fun s1 vs k1 hz g1 o1 pm => ?_)
  have ln : vs.length = n := by rw [pm.length_eq, List.length_map, Array.length_toList]; exact hn
  have fits : vs.length ≤ sizeLine := by
    have := fits_of_scanBound hb
    omega
  have allI : IntsAre vs (vs.map Builtin.Re.reRawOf) := ints_of vs fun v hv => by
    obtain ⟨e, he, q⟩ := List.mem_map.mp (pm.mem_iff.mp hv)
    obtain ⟨k, tk, h1, _⟩ := g e he
    exact ⟨k, tk, q ▸ h1⟩
  have pk : (vs.map Builtin.Re.reRawOf).Perm (es.toList.map keyOf) := by
    have := pm.map Builtin.Re.reRawOf
    rwa [List.map_map] at this
  refine wpAny_bind (wpAny_newList ?_ fits)
  have at1 : (s1.heap.push (seqObj "list" vs.toArray 0)).get? s1.heap.objs.size = some (seqObj "list" vs.toArray 0) := Heap.get?_push_size _ rfl
  refine wpAny_bind (wpAny_holding (wpAny_call_entry slot_list_sort ⟨_, at1, rfl⟩ entry_list_sort (list_sort_treeAny at1 allI fits fun out ns' a1 a2 a3 => ⟨_, rfl, ?_⟩) (args_list_sort _)))
  obtain ⟨c, hc⟩ := sortedHeap_at (vs := vs) (out := out) at1
  have pn : ns'.Perm (es.toList.map keyOf) := a2.trans pk
  refine wpAny_pure ⟨_, rfl, hq _ s1.heap.objs.size out c ns' (fun b u e => ?_) g1 o1 hz hc a1 (lt_of_le_nodup ns' a3 (pn.nodup_iff.mpr nd)) (fun k => by rw [pn.mem_iff, ← hm k]) (by rw [pn.length_eq, List.length_map, Array.length_toList]; exact hn)⟩
  have q := k1 b u e
  have lt := Heap.lt_size q
  show (sortedHeap (s1.heap.push (seqObj "list" vs.toArray 0)) s1.heap.objs.size vs out).get? b = some u
  rw [sortedHeap_old (Nat.ne_of_lt lt) (by rw [size_push']; exact Nat.lt_succ_of_lt lt)]
  exact Heap.get?_push_of_some _ q
end
def rSetLI (K : PySem.W.Frag) (w : World) : List V → Hp → VK → Prop := fun vs H Q => ∃ (l : Addr) (ns : List Int), vs = [.ref l] ∧ SqA K H l (ns.map V.int) ∧ ns.length ≤ 4000 ∧ ∀ a c, H a = none → c ≤ ns.length → Q (.ref a) (upd H a (SetO w a (fun j => decide (j ∈ ns)) c))
section
variable {X : Cx}
theorem cr_setLI (hc : X.calm = true) : CallR X (.type "set") (rSetLI X.K X.w) := by
  intro pins s σ H vs us Q I r h
  obtain ⟨l, ns, rfl, hl, hf, q⟩ := h
  rw [Vals.ref1 r]
  have fresh : H s.heap.objs.size = none := I.hok.fresh (Nat.le_refl _)
  rcases hl with hl | hl
  · obtain ⟨its, rv, pl, hz⟩ := I.list hl
    refine set_listI ns (I.ok.hd hc) pl.isList (by simpa using RZ.intsAre_vals rv) (by unfold scanBound; omega) fun h' tk c R le k => ?_
    exact ⟨.ref s.heap.objs.size, upd H s.heap.objs.size (SetO X.w s.heap.objs.size (fun j => decide (j ∈ ns)) c), I.laid (t' := tk) k (Nat.le_refl _) (setO_new R), rfl, q _ c fresh le⟩
  · obtain ⟨its, rv, pl, hz⟩ := I.tuple hl
    refine call_set_tupI ns (I.ok.hd hc) pl (by simpa using RZ.intsAre_vals rv) (by unfold scanBound; omega) fun h' tk c R le k => ?_
    exact ⟨.ref s.heap.objs.size, upd H s.heap.objs.size (SetO X.w s.heap.objs.size (fun j => decide (j ∈ ns)) c), I.laid (t' := tk) k (Nat.le_refl _) (setO_new R), rfl, q _ c fresh le⟩
def rSortedBig (w : World) : List V → Hp → VK → Prop := fun vs H Q => ∃ (a : Addr) (S : Int → Bool) (n : Nat), vs = [.ref a] ∧ H a = some (SetO w a S n) ∧ n ≤ 100000 ∧
  ∀ (ns : List Int) (p : Addr), ns.Pairwise (· < ·) → (∀ k : Int, k ∈ ns ↔ S k = true) → ns.length = n → H p = none → Q (.ref p) (upd H p (.lst (ns.map V.int)))
theorem cr_sortedBig (hc : X.calm = true) : CallR X (.builtin "sorted") (rSortedBig X.w) := by
  intro pins s σ H vs us Q I r h
  obtain ⟨a, S, n, rfl, ha, hn, q⟩ := h
  have R := setO_get I ha
  rw [Vals.ref1 r]
  refine sorted_setBig R (I.ok.hd hc) fun s' p out c ns k g o hp hg hi hs hm hl => ?_
  have len : (ns.map V.int).length ≤ sizeLine := by rw [List.length_map, hl, sizeLine_eq]; omega
  have np : H p = none := I.hok.fresh hp
  have J : Inv X pins σ (upd H p (.lst (ns.map V.int))) { s with heap := s'.heap, gens := s'.gens, drawn := s'.drawn, toks := s'.toks } :=
    I.call (ch := []) (Un.laid k hp np) (I.hok.laid k hp ⟨len, out.toList, c, vals_of_ints hi, hg⟩) (by rw [g]; exact I.bare) (fun _ z => nomatch z)
  have e : s' = { s with heap := s'.heap, gens := s'.gens, drawn := s'.drawn, toks := s'.toks } := by
    obtain ⟨_, _, _, _, _⟩ := s'
    cases o
    rfl
  rw [e]
  exact ⟨.ref p, _, J, rfl, q ns p hs hm hl np⟩
end
/-- the ints of a row, rising, each once -/
def ssI (ns : List Int) : List Int := (dedupI ns).mergeSort (fun a b => decide (a ≤ b))
theorem lt_uniq : ∀ {xs ys : List Int}, xs.Pairwise (· < ·) → ys.Pairwise (· < ·) → (∀ k, k ∈ xs ↔ k ∈ ys) → xs = ys := fun {xs ys} h1 h2 hm => by
  have n1 : xs.Nodup := h1.imp fun {a b} h => by omega
  have n2 : ys.Nodup := h2.imp fun {a b} h => by omega
  exact ((List.perm_ext_iff_of_nodup n1 n2).mpr hm).eq_of_pairwise (fun a b _ _ x y => by omega) h1 h2
theorem ssI_mem (k : Int) (ns : List Int) : k ∈ ssI ns ↔ k ∈ ns := by
  unfold ssI
  rw [List.mem_mergeSort, dedupI_mem]
theorem ssI_lt (ns : List Int) : (ssI ns).Pairwise (· < ·) := by
  have h := List.pairwise_mergeSort (le := fun a b : Int => decide (a ≤ b)) (fun a b c x y => by simp only [decide_eq_true_eq] at *; omega) (fun a b => by simp only [Bool.or_eq_true, decide_eq_true_eq]; omega) (dedupI ns)
  have n : (ssI ns).Nodup := ((List.mergeSort_perm _ _).nodup_iff).mpr (dedupI_nodup ns)
  exact lt_of_le_nodup _ (h.imp fun h => of_decide_eq_true h) n
def srtSetID : D → Option D := fun d => (itemsD d).bind fun ds => (intsOf ds).bind fun ns => if ns.length ≤ 4000 then some (.list ((ssI ns).map .int)) else none
@[simp] theorem srtSetI_l {ns : List Int} (h : ns.length ≤ 4000) : srtSetID (.list (ns.map .int)) = some (.list ((ssI ns).map .int)) := by
  unfold srtSetID
  rw [items_l, Option.bind_some, intsOf_m, Option.bind_some, if_pos h]
@[simp] theorem srtSetI_t {ns : List Int} (h : ns.length ≤ 4000) : srtSetID (.tuple (ns.map .int)) = some (.list ((ssI ns).map .int)) := by
  unfold srtSetID
  rw [items_t, Option.bind_some, intsOf_m, Option.bind_some, if_pos h]
def tSrtSetI (K : PySem.W.Frag) (w : World) (te : TE) : TE := tCB (rSortedBig w) (tCons (tCB (rSetLI K w) (tCons te tNil)) tNil)
theorem sem_srtSetI {K : PySem.W.Frag} {w : World} {m : Md} {te : TE} {f : Rho → Option D} (h : SemE K m te f) : SemE K .fr (tSrtSetI K w te) (f1 srtSetID f) := by
  intro B F H σ ρ z Q rel hf q
  obtain ⟨d, h1, h2⟩ := bind_some hf
  refine h B F H σ ρ d _ rel h1 fun v F1 H1 x1 r1 => ?_
  obtain ⟨ds, h3, h4⟩ := bind_some h2
  obtain ⟨ns, h5, h6⟩ := bind_some h4
  obtain ⟨h7, rfl⟩ := if_some h6
  have e := intsOf_map h5
  subst e
  obtain ⟨a, xs, rfl, sq, rp⟩ := r1.items x1.s h3
  have e2 := rp.ints
  subst e2
  refine ⟨a, ns, rfl, sq, h7, fun b c hb hc => ?_⟩
  have x2 : Ext F H F1 (upd H1 b (SetO w b (fun j => decide (j ∈ ns)) c)) := ext_own x1 hb
  refine ⟨b, _, c, rfl, upd_same, by omega, fun ks p l1 l2 l3 hp => ?_⟩
  have es : ks = ssI ns := lt_uniq l1 (ssI_lt ns) fun k => by rw [l2, ssI_mem]; simp
  subst es
  exact newL_res x2 (RepA.of_ints _) q p hp
theorem de_srtSetI {X : Cx} {m : Md} {a : Expr} {te : TE} {f : Rho → Option D} {p p2 qp pos : Pos} (hg : Gl X "sorted") (hm : X.mg "sorted" = none) (hg2 : Gl X "set") (hm2 : X.mg "set" = none) (ha : DE X m a te f) (hc : X.calm = true := by rfl)
    (na : starEach [.Call (.Name "set" p2) [a] [] qp] X.env = (false, eval (.Call (.Name "set" p2) [a] [] qp) X.env) :: starEach [] X.env := by rfl) (na2 : starEach [a] X.env = (false, eval a X.env) :: starEach [] X.env := by rfl) :
    DE X .fr (.Call (.Name "sorted" p) [.Call (.Name "set" p2) [a] [] qp] [] pos) (tSrtSetI X.K X.w te) (f1 srtSetID f) :=
  ⟨pe_callB (cr_sortedBig hc) hg hm bt_sorted (pa_cons (pe_callTy (cr_setLI hc) hg2 hm2 PyProof.Rows.boot_set (pa_cons ha.p pa_nil na2) (by decide) (by decide) na2 rfl) pa_nil na) (by decide) (by decide) na rfl, sem_srtSetI ha.s⟩
end Q
end

/-! part: Q41 -/
section
set_option Elab.async false
set_option linter.all false
set_option maxRecDepth 100000
set_option maxHeartbeats 4000000
set_option autoImplicit false
namespace Q
open PySem PySem.Spec PySem.Calls PyProof.Rows L2
/-! ### a tuple times 0, 1, more -/
theorem mul_one_t (l : Addr) (items : Array Value) (n : Nat) (dd : Option Addr) (sl : Array (Option Value)) (u : Tok) :
    Meets (Builtin.«tuple.__mul__» ⟨[.ref l, .int 1 u], []⟩) (fun _ R s => s.heap.get? l = some { cls := .type "tuple", dict := dd, data := .seq items n, slots := sl } ∧ R (.ok (.ret (Value.ref l))) s) :=
  .of_wp fun prog w A R s h => by
    obtain ⟨hp, g, d, tk, os⟩ := s
    obtain ⟨hl, h⟩ := h
    have k1 := AutoSeq1.idx_int
    have ty : (⟨hp, g, d, tk, os⟩ : Shared).TypeIs (.ref l) "tuple" := ⟨_, hl, rfl⟩
    have c0 : (decide ((1 : Int) < -(2 ^ 63)) || decide ((1 : Int) ≥ 2 ^ 63)) = false := by decide
    have c1 : (items.isEmpty || (1 : Int) == 1) = true := by simp
    wp_walk using wpAny_loadPart' hl
    repeat (first
      | (refine wpAny_ite_false (decide_eq_false (by rw [c0]; exact Bool.false_ne_true)) ?_; wp_walk using wpAny_loadPart' hl)
      | (refine wpAny_ite_true (decide_eq_true c1) ?_; wp_walk using wpAny_loadPart' hl))
    exact ⟨_, rfl, h⟩
theorem mul_zero_t (l : Addr) (items : Array Value) (n : Nat) (dd : Option Addr) (sl : Array (Option Value)) (u : Tok) (hi : items.isEmpty = false) :
    Meets (Builtin.«tuple.__mul__» ⟨[.ref l, .int 0 u], []⟩) (fun _ R s => s.heap.get? l = some { cls := .type "tuple", dict := dd, data := .seq items n, slots := sl } ∧
      R (.ok (.ret (Value.ref s.heap.objs.size))) { s with heap := s.heap.push { cls := Value.type "tuple", data := Data.seq #[] }, toks := s.toks }) :=
  .of_wp fun prog w A R s h => by
    obtain ⟨hp, g, d, tk, os⟩ := s
    obtain ⟨hl, h⟩ := h
    have k1 := AutoSeq1.idx_int
    have c0 : (decide ((0 : Int) < -(2 ^ 63)) || decide ((0 : Int) ≥ 2 ^ 63)) = false := by decide
    have c1 : (items.isEmpty || (0 : Int) == 1) = false := by rw [hi]; rfl
    have c2 : (decide ((0 : Int) ≤ 0) || items.isEmpty) = true := by simp
    wp_walk using wpAny_loadPart' hl
    repeat (first
      | (refine wpAny_ite_false (decide_eq_false (by rw [c0]; exact Bool.false_ne_true)) ?_; wp_walk using wpAny_loadPart' hl)
      | (refine wpAny_ite_false (decide_eq_false (by rw [c1]; exact Bool.false_ne_true)) ?_; wp_walk using wpAny_loadPart' hl)
      | (refine wpAny_ite_true (decide_eq_true c2) ?_; wp_walk using wpAny_loadPart' hl))
    exact ⟨_, rfl, h⟩
def rRepG (K : PySem.W.Frag) : R2 := fun x y H Q => ∃ l k xs, x = .ref l ∧ y = .int k ∧ SqT K H l xs ∧ xs ≠ [] ∧ 0 ≤ k ∧ k ≤ 1000 ∧ xs.length ≤ 1000 ∧ (k = 1 → Q (.ref l) H) ∧ (k ≠ 1 → NewT (List.replicate k.toNat xs).flatten H Q)
theorem op_repG {X : Cx} : OpR X (binaryOp .Mult) (rRepG X.K) := by
  intro pins s σ H x y v u Q I rx ry h
  obtain ⟨l, k, xs, rfl, rfl, hT, hne, h1, h2, hz, q1, q2⟩ := h
  by_cases hk : 2 ≤ k
  · exact op_repF pins s σ H _ _ v u Q I rx ry ⟨l, k, xs, rfl, rfl, hT, hne, hk, h2, hz, q2 (by omega)⟩
  cases rx
  obtain ⟨t, rfl⟩ := ry
  obtain ⟨its, r, ⟨⟨cls, dd, data, sl⟩, ho, hc, n, hd⟩, hs⟩ := I.tuple hT
  simp only at hc hd
  subst hc hd
  have ln : its.length = xs.length := r.length.symm
  have ne : its.toArray.isEmpty = false := by
    cases its with
    | nil => exact absurd (List.eq_nil_of_length_eq_zero ln.symm) hne
    | cons a b => rfl
  have k01 : k = 1 ∨ k = 0 := by omega
  rcases k01 with rfl | rfl
  · exact wpAny_binaryOp_repeat_ref (T := "tuple") (U := "int") (by decide) ⟨_, ho, rfl⟩ (fun s' => typeIs_int s' 1 t) noFill_tuple_mul PySem.F.fills_int_mul PySem.F.slot_int_rmul repeat_tuple PySem.F.slot_int_index.lookup
      (call_meets PySem.F.slot_int_rmul (typeIs_int s 1 t) PySem.F.entry_int_rmul (PySem.F.args_int_rmul_2 _ _) (int_rmul_tuple 1 t l its.toArray n dd sl)
        ⟨ho, rfl, ⟨_, ho, rfl⟩, call_meets PySem.F.slot_tuple_mul ⟨_, ho, rfl⟩ PySem.F.entry_tuple_mul (PySem.F.args_tuple_mul_2 _ _) (mul_one_t l its.toArray n dd sl t) ⟨ho, ⟨.ref l, H, I, rfl, q1 rfl⟩⟩⟩)
  · refine wpAny_binaryOp_repeat_ref (T := "tuple") (U := "int") (by decide) ⟨_, ho, rfl⟩ (fun s' => typeIs_int s' 0 t) noFill_tuple_mul PySem.F.fills_int_mul PySem.F.slot_int_rmul repeat_tuple PySem.F.slot_int_index.lookup
      (call_meets PySem.F.slot_int_rmul (typeIs_int s 0 t) PySem.F.entry_int_rmul (PySem.F.args_int_rmul_2 _ _) (int_rmul_tuple 0 t l its.toArray n dd sl)
        ⟨ho, rfl, ⟨_, ho, rfl⟩, call_meets PySem.F.slot_tuple_mul ⟨_, ho, rfl⟩ PySem.F.entry_tuple_mul (PySem.F.args_tuple_mul_2 _ _) (mul_zero_t l its.toArray n dd sl t ne) ⟨ho, ?_⟩⟩)
    exact ⟨.ref s.heap.objs.size, _, I.laidT (t' := s.toks) (xs := []) .nil (Nat.zero_le _), rfl, q2 (by decide) _ _ (I.hok.fresh (Nat.le_refl _)) rfl rfl⟩
theorem op_repGK {X : Cx} (K' : PySem.W.Frag) (hK : X.K = K' := by rfl) : OpR X (binaryOp .Mult) (rRepG K') := by
  subst hK
  exact op_repG
def repGD : D → D → Option D
  | .tuple ds, .int k => if ds ≠ [] ∧ 0 ≤ k ∧ k ≤ 1000 ∧ ds.length ≤ 1000 then some (.tuple (List.replicate k.toNat ds).flatten) else none
  | _, _ => none
theorem ops_repG {K : PySem.W.Frag} : OpS K .fz (rRepG K) repGD := by
  intro F H Ha Hb x y d e z Q fh r1 r2 hz q
  match d, e, r1, r2, hz with
  | .tuple ds, .int k, r1, r2, hz =>
    obtain ⟨⟨h1, h2, h3, h4⟩, rfl⟩ := if_some hz
    have rt := Res.rep r1 (fun _ z => nomatch z) (fun _ z => nomatch z)
    obtain ⟨a, vs, rfl, s1, p1⟩ := r1.tup fh
    refine ⟨a, k, vs, rfl, r2.int, s1.sq, fun e0 => h1 (by subst e0; cases p1; rfl), h2, h3, by rw [p1.length]; exact h4, fun e1 => ?_, fun _ => newT_rep (.refl fh) (p1.rep _) q⟩
    subst e1
    have er : (List.replicate (1 : Int).toNat ds).flatten = ds := by simp
    rw [er] at q
    exact q _ F H (.refl fh) rt
/-- [..] * e, its implicit arguments in front -/
theorem de_repL2 {X : Cx} {m1 : Md} {es : List Expr} {b : Expr} {te tb : TE} {f fb : Rho → Option D} {p pos : Pos} (ha : DE X .fr (.List es p) te f) (hb : DE X m1 b tb fb) : DE X .fr (.BinOp (.List es p) .Mult b pos) (tOp rRep te tb) (f2 repLD f fb) := de_repL ha hb
@[simp] theorem repG_1 {d : D} {k : Nat} (h : k ≤ 1000) : repGD (.tuple [d]) (.int (k : Int)) = some (.tuple (List.replicate k d)) := by
  have e : (List.replicate ((k : Int)).toNat [d]).flatten = List.replicate k d := by
    rw [Int.toNat_natCast]
    induction k with
    | zero => rfl
    | succ n ih => rw [List.replicate_succ, List.flatten_cons, ih (by omega), List.replicate_succ]; rfl
  show (if [d] ≠ [] ∧ 0 ≤ (k : Int) ∧ (k : Int) ≤ 1000 ∧ [d].length ≤ 1000 then some (PyData.tuple (List.replicate ((k : Int)).toNat [d]).flatten) else none) = _
  rw [if_pos ⟨by simp, by omega, by omega, by simp⟩, e]
end Q
end

/-! part: Q42 -/
section
set_option Elab.async false
set_option linter.all false
set_option maxRecDepth 100000
set_option maxHeartbeats 4000000
set_option autoImplicit false
namespace Q
open PySem PySem.Spec PySem.Calls PyProof.Rows L2
/-! ### lists within a list: made, read, written, given back -/
theorem SubL.len {K : PySem.W.Frag} {F H G : Hp} : ∀ {bs : List Addr} {dss : List (List D)}, SubL K F H G bs dss → bs.length = dss.length
  | [], [], _ => rfl
  | b :: bs, ds :: dss, h => congrArg Nat.succ (SubL.len h.2)
  | [], _ :: _, h => h.elim
  | _ :: _, [], h => h.elim
theorem SubL.at {K : PySem.W.Frag} {F H G : Hp} : ∀ {bs : List Addr} {dss : List (List D)} {k : Nat} {ds : List D}, SubL K F H G bs dss → dss[k]? = some ds → ∃ b vs, bs[k]? = some b ∧ F b = none ∧ G b = none ∧ H b = some (.lst vs) ∧ RepA K F vs ds
  | [], [], _, _, _, e => by simp at e
  | b :: bs, ds :: dss, 0, _, h, e => by
    obtain ⟨⟨h1, h2, vs, h3, h4⟩, h5⟩ := h
    simp at e
    subst e
    exact ⟨b, vs, rfl, h1, h2, h3, h4⟩
  | b :: bs, ds :: dss, k + 1, _, h, e => by
    obtain ⟨b', vs, e1, r⟩ := SubL.at (k := k) h.2 (by simpa using e)
    exact ⟨b', vs, by simpa using e1, r⟩
  | [], _ :: _, _, _, h, _ => h.elim
  | _ :: _, [], _, _, h, _ => h.elim
theorem SubL.gmono {K : PySem.W.Frag} {F H G G' : Hp} : ∀ {bs : List Addr} {dss : List (List D)}, SubL K F H G bs dss → (∀ b ∈ bs, G' b = none) → SubL K F H G' bs dss
  | [], [], _, _ => trivial
  | b :: bs, ds :: dss, h, e => by
    obtain ⟨⟨h1, h2, h3⟩, h5⟩ := h
    exact ⟨⟨h1, e b List.mem_cons_self, h3⟩, SubL.gmono h5 fun c hc => e c (List.mem_cons_of_mem _ hc)⟩
  | [], _ :: _, h, _ => h.elim
  | _ :: _, [], h, _ => h.elim
theorem SubL.snoc {K : PySem.W.Frag} {F H G : Hp} {b : Addr} {ds : List D} : ∀ {bs : List Addr} {dss : List (List D)}, SubL K F H G bs dss → F b = none → G b = none → (∃ vs, H b = some (.lst vs) ∧ RepA K F vs ds) → SubL K F H G (bs ++ [b]) (dss ++ [ds])
  | [], [], _, h1, h2, h3 => ⟨⟨h1, h2, h3⟩, trivial⟩
  | c :: bs, es :: dss, h, h1, h2, h3 => ⟨h.1, SubL.snoc h.2 h1 h2 h3⟩
  | [], _ :: _, h, _, _, _ => h.elim
  | _ :: _, [], h, _, _, _ => h.elim
/-- one of the lists is written -/
theorem SubL.set {K : PySem.W.Frag} {F H G : Hp} {vs : List V} {ds : List D} : ∀ {bs : List Addr} {dss : List (List D)} {k : Nat} {b : Addr}, SubL K F H G bs dss → bs.Nodup → bs[k]? = some b → RepA K F vs ds → SubL K F (upd H b (.lst vs)) G bs (dss.set k ds)
  | [], [], _, _, _, _, e, _ => by simp at e
  | c :: bs, es :: dss, 0, b, h, nd, e, r => by
    obtain ⟨⟨h1, h2, _⟩, h5⟩ := h
    obtain ⟨n1, n2⟩ := List.nodup_cons.mp nd
    simp at e
    subst e
    exact ⟨⟨h1, h2, vs, upd_same, r⟩, h5.away (.refl _) fun x hx => ⟨rfl, upd_ne fun z => n1 (z ▸ hx)⟩⟩
  | c :: bs, es :: dss, k + 1, b, h, nd, e, r => by
    obtain ⟨⟨h1, h2, ws, h3, h4⟩, h5⟩ := h
    obtain ⟨n1, n2⟩ := List.nodup_cons.mp nd
    have e' : bs[k]? = some b := by simpa using e
    have hb := List.mem_of_getElem? e'
    have hcb : c ≠ b := fun z => n1 (by rw [z]; exact hb)
    exact ⟨⟨h1, h2, ws, (upd_ne hcb).trans h3, h4⟩, SubL.set h5 n2 e' r⟩
  | [], _ :: _, _, _, h, _, _, _ => h.elim
  | _ :: _, [], _, _, h, _, _, _ => h.elim
section
variable {K : PySem.W.Frag} {B : Bs} {F H : Hp} {σ : L2.St} {ρ : Rho}
theorem Rel.dpAt (r : Rel K B F H σ ρ) {i : Nat} {p : Kd × List (List D)} (h : ρ[i]? = some (.dp p)) : ∃ a bs, σ[i]? = some (some (.ref a)) ∧ F a = none ∧ B.G a = none ∧ CB H a bs p.1 ∧ (a :: bs).Nodup ∧ SubL K F H B.G bs p.2 := by
  have hl : i < ρ.length := (List.getElem?_eq_some_iff.mp h).1
  have hs : i < σ.length := by rw [r.len]; exact hl
  obtain ⟨a, bs, e, q⟩ := r.sl i _ _ (List.getElem?_eq_getElem hs) h
  exact ⟨a, bs, by rw [List.getElem?_eq_getElem hs, e], q⟩
theorem Rel.setDp (r : Rel K B F H σ ρ) {i : Nat} {a : Addr} {bs : List Addr} {p : Kd × List (List D)} (h0 : F a = none) (hg : B.G a = none) (hc : CB H a bs p.1) (nd : (a :: bs).Nodup) (hs : SubL K F H B.G bs p.2)
    (hfar : ∀ (j : Nat) (e : D) (c : Addr), j ≠ i → ρ[j]? = some (.ow e) → σ[j]? = some (some (.ref c)) → c ∉ a :: bs) (hone : ∀ (j : Nat) (d : Kd × List (List D)), j ≠ i → ρ[j]? ≠ some (.dp d)) : Rel K B F H (σ.set i (some (.ref a))) (ρ.set i (.dp p)) := by
  refine ⟨by simpa using r.len, r.f0, r.g, r.fh, r.nw, fun j o s e1 e2 => ?_, fun j k d1 d2 b hjk e1 e2 e3 e4 => ?_, fun i1 j dss e b c cs e1 e2 e3 e4 e5 => ?_, fun i1 j d1 d2 e1 e2 => ?_⟩
  · rcases set_at e1 with ⟨rfl, _, rfl⟩ | ⟨n1, e1⟩
    · rcases set_at e2 with ⟨_, _, rfl⟩ | ⟨n2, _⟩
      · exact ⟨a, bs, rfl, h0, hg, hc, nd, hs⟩
      · exact absurd rfl n2
    · rcases set_at e2 with ⟨e, _, _⟩ | ⟨_, e2⟩
      · exact absurd e n1
      · exact r.sl j o s e1 e2
  · rcases set_at e1 with ⟨_, _, z⟩ | ⟨n1, q1⟩
    · cases z
    rcases set_at e2 with ⟨_, _, z⟩ | ⟨n2, q2⟩
    · cases z
    rw [List.getElem?_set_ne (Ne.symm n1)] at e3
    rw [List.getElem?_set_ne (Ne.symm n2)] at e4
    exact r.sep j k d1 d2 b hjk q1 q2 e3 e4
  · rcases set_at e1 with ⟨rfl, _, z⟩ | ⟨n1, q1⟩
    · rcases set_at e2 with ⟨_, _, z⟩ | ⟨n2, q2⟩
      · cases z
      rw [List.getElem?_set_ne (Ne.symm n2)] at e5
      rcases set_at e3 with ⟨_, _, z⟩ | ⟨n3, _⟩
      · cases z
        have : cs = bs := e4.uniq ⟨_, hc⟩
        rw [this]
        exact hfar j e c n2 q2 e5
      · exact absurd rfl n3
    · exact absurd q1 (hone i1 dss n1)
  · rcases set_at e1 with ⟨rfl, _, z⟩ | ⟨n1, q1⟩
    · rcases set_at e2 with ⟨e, _, z⟩ | ⟨n2, q2⟩
      · exact e.symm
      · exact absurd q2 (hone j d2 n2)
    · exact absurd q1 (hone i1 d1 n1)
/-- one of the lists is written -/
theorem Rel.writeDp (r : Rel K B F H σ ρ) {j k : Nat} {a b : Addr} {bs : List Addr} {p : Kd × List (List D)} {vs : List V} {ds : List D} (h1 : ρ[j]? = some (.dp p)) (h2 : σ[j]? = some (some (.ref a))) (hc : CB H a bs p.1) (nd : (a :: bs).Nodup) (hs : SubL K F H B.G bs p.2) (h0 : F a = none) (hg0 : B.G a = none)
    (hb : bs[k]? = some b) (hF : F b = none) (hG : B.G b = none) (rv : RepA K F vs ds) : Rel K B F (upd H b (.lst vs)) σ (ρ.set j (.dp (p.1, p.2.set k ds))) := by
  obtain ⟨n1, n2⟩ := List.nodup_cons.mp nd
  have hbm := List.mem_of_getElem? hb
  have hab : a ≠ b := fun z => n1 (z ▸ hbm)
  refine ⟨by simpa using r.len, r.f0, fun c u q => ?_, fun c u q => ?_, r.nw, fun i o s e1 e2 => ?_, fun i1 i2 d1 d2 c hjk e1 e2 e3 e4 => ?_, fun i1 i2 dss e c c' cs e1 e2 e3 e4 e5 => ?_, fun i1 i2 d1 d2 e1 e2 => ?_⟩
  · rw [upd_ne (ne_of_none q hG)]; exact r.g c u q
  · rw [upd_ne (ne_of_none q hF)]; exact r.fh c u q
  · rcases set_at e2 with ⟨rfl, _, rfl⟩ | ⟨n, e2⟩
    · rw [h2] at e1
      cases e1
      exact ⟨a, bs, rfl, h0, hg0, hc.at (upd_ne hab), nd, hs.set n2 hb rv⟩
    · have q := r.sl i o s e1 e2
      cases s with
      | un => trivial
      | im d => exact q
      | ow d =>
        obtain ⟨c, rfl, f, g, w⟩ := q
        have hn := r.sepD j i p d a c bs h1 e2 h2 ⟨_, hc⟩ e1
        have hcb : c ≠ b := fun z => hn (List.mem_cons_of_mem _ (z ▸ hbm))
        refine ⟨c, rfl, f, g, ?_⟩
        cases d with
        | list es => obtain ⟨ws, w1, w2⟩ := w; exact ⟨ws, by rw [upd_ne hcb]; exact w1, w2⟩
        | dict es => obtain ⟨ws, w1, w2⟩ := w; exact ⟨ws, by rw [upd_ne hcb]; exact w1, w2⟩
        | _ => exact w.elim
      | dp p2 => exact absurd (r.one j i p p2 h1 e2) (Ne.symm n)
  · rcases set_at e1 with ⟨_, _, z⟩ | ⟨m1, q1⟩
    · cases z
    rcases set_at e2 with ⟨_, _, z⟩ | ⟨m2, q2⟩
    · cases z
    exact r.sep i1 i2 d1 d2 c hjk q1 q2 e3 e4
  · rcases set_at e2 with ⟨_, _, z⟩ | ⟨m2, q2⟩
    · cases z
    rcases set_at e1 with ⟨rfl, _, z⟩ | ⟨m1, q1⟩
    · rw [h2] at e3
      cases e3
      have : Cont H a cs := e4.at (upd_ne hab).symm
      exact r.sepD i1 i2 p e a c' cs h1 q2 h2 this e5
    · exact absurd (r.one j i1 p dss h1 q1) (Ne.symm m1)
  · rcases set_at e1 with ⟨rfl, _, z⟩ | ⟨m1, q1⟩
    · rcases set_at e2 with ⟨rfl, _, z⟩ | ⟨m2, q2⟩
      · rfl
      · exact r.one i1 i2 p d2 h1 q2
    · rcases set_at e2 with ⟨rfl, _, z⟩ | ⟨m2, q2⟩
      · exact r.one i1 i2 d1 p q1 h1
      · exact r.one i1 i2 d1 d2 q1 q2
end
/-! made -/
def SemN (K : PySem.W.Frag) (t : TE) (f : Rho → Option (Kd × List (List D))) : Prop :=
  ∀ (B : Bs) (F H : Hp) (σ : L2.St) (ρ : Rho) (p : Kd × List (List D)) (Q : VK), Rel K B F H σ ρ → f ρ = some p → (∀ a bs F' H', Ext F H F' H' → H a = none → F' a = none → CB H' a bs p.1 → (a :: bs).Nodup → (∀ b ∈ bs, H b = none) → SubL K F' H' H bs p.2 → Q (.ref a) H') → t σ H Q
structure DN (X : Cx) (e : Expr) (t : TE) (f : Rho → Option (Kd × List (List D))) : Prop where
  p : PE X e t
  s : SemN X.K t f
def isDp : Sl → Bool
  | .dp _ => true
  | _ => false
def bDp (i : Nat) (f : Rho → Option (Kd × List (List D))) : Bd := fun ρ => if (ρ.set i .un).any isDp = true then none else (f ρ).map fun p => .nx (ρ.set i (.dp p))
theorem sem_dp {K : PySem.W.Frag} {m : Md} {i : Nat} {te : TE} {f : Rho → Option (Kd × List (List D))} (h : SemN K te f) : SemS K m [i] (tAsg te (gName i)) (bDp i f) := by
  intro B F H σ ρ o Z r hb q
  unfold bDp at hb
  split at hb
  · cases hb
  rename_i hno
  obtain ⟨p, h1, rfl⟩ := Option.map_eq_some_iff.mp hb
  have hno' : ∀ (j : Nat) (d : Kd × List (List D)), j ≠ i → ρ[j]? ≠ some (.dp d) := fun j d hj z => by
    refine hno (List.any_eq_true.mpr ⟨.dp d, ?_, rfl⟩)
    refine List.mem_of_getElem? (i := j) ?_
    rw [List.getElem?_set_ne (Ne.symm hj)]
    exact z
  refine h B F H σ ρ p _ r h1 fun a bs F1 H1 x1 ha fa hc nd hbs hs => ?_
  refine q _ F1 H1 ((r.ext x1).setDp fa (r.g.free ha) hc nd (hs.gmono fun b hb => r.g.free (hbs b hb)) (fun j e c hj e1 e2 hm => ?_) hno') set_keep
  obtain ⟨o, e3, c', rfl, _, _, w⟩ := r.at e1
  rw [e2] at e3
  cases e3
  have : H c ≠ none := w.there
  rcases List.mem_cons.mp hm with z | z
  · exact this (z ▸ ha)
  · exact this (hbs c z)
section
variable {X : Cx} {m : Md} {e : Expr} {te : TE} {pos pos' : Pos}
theorem ds_dp {i : Nat} {x : Str} {f : Rho → Option (Kd × List (List D))} (he : DN X e te f) (hN : X.N.Nodup) (hi : X.N[i]? = some x := by rfl) (hx : Loc X.env.scope x := by first | exact Or.inl rfl | exact Or.inr rfl) (hs : swapsWith e (some (.Name x pos')) pos.line X.env = pure false := by rfl)
    (hf : X.fn x = true ∨ X.env.scope.names.lookup x = some .local := by first | exact .inl rfl | exact .inr rfl) : DS X m [i] (.Assign [.Name x pos'] e pos) (tAsg te (gName i)) (bDp i f) := ⟨ps_set hN hi hx he.p hs hf, sem_dp he.s⟩
end
/-! a row of new lists -/
def SemR (K : PySem.W.Frag) (t : TA) (f : Rho → Option (List (List D))) : Prop :=
  ∀ (B : Bs) (F H : Hp) (σ : L2.St) (ρ : Rho) (dss : List (List D)) (Q : List V → Hp → Prop), Rel K B F H σ ρ → f ρ = some dss → (∀ bs F' H', Ext F H F' H' → bs.Nodup → (∀ b ∈ bs, H b = none) → SubL K F' H' H bs dss → Q (bs.map V.ref) H') → t σ H Q
structure DR (X : Cx) (es : List Expr) (t : TA) (f : Rho → Option (List (List D))) : Prop where
  p : PA X es t
  s : SemR X.K t f
  n : ∀ ρ ds, f ρ = some ds → ds.length = es.length
def rNil : Rho → Option (List (List D)) := fun _ => some []
def unL : D → Option (List D)
  | .list ds => some ds
  | _ => none
def rCons (f : Rho → Option D) (fs : Rho → Option (List (List D))) : Rho → Option (List (List D)) := fun ρ => (f ρ).bind fun d => (unL d).bind fun ds => (fs ρ).map (ds :: ·)
theorem unL_some {d : D} {ds : List D} (h : unL d = some ds) : d = .list ds := by
  cases d <;> cases h
  rfl
section
variable {X : Cx} {e : Expr} {es : List Expr} {te : TE} {t : TA} {f : Rho → Option D} {fs : Rho → Option (List (List D))} {pos : Pos}
theorem dr_nil : DR X [] tNil rNil := ⟨pa_nil, fun B F H σ ρ ds Q rel hf q => by cases hf; exact q [] F H (.refl rel.fh) List.nodup_nil (fun _ z => nomatch z) trivial, fun ρ ds h => by cases h; rfl⟩
theorem dr_cons (ha : DE X .fr e te f) (hr : DR X es t fs) (hs : starEach (e :: es) X.env = (false, eval e X.env) :: starEach es X.env := by rfl) : DR X (e :: es) (tCons te t) (rCons f fs) :=
  ⟨pa_cons ha.p hr.p hs, fun B F H σ ρ dss Q rel hf q => by
    obtain ⟨d, h1, h2⟩ := bind_some hf
    obtain ⟨ds, h3, h4⟩ := bind_some h2
    obtain ⟨rest, h5, rfl⟩ := Option.map_eq_some_iff.mp h4
    have := unL_some h3
    subst this
    refine ha.s B F H σ ρ _ _ rel h1 fun x F1 H1 x1 r1 => ?_
    obtain ⟨a, rfl, ha0, fa, vs, ha1, ra⟩ := r1
    refine hr.s B F1 H1 σ ρ rest _ (rel.ext x1) h5 fun bs F2 H2 x2 nd hbs sub => ?_
    have hne : H1 a ≠ none := by rw [ha1]; exact fun z => nomatch z
    refine q (a :: bs) F2 H2 (x1.trans x2) (List.nodup_cons.mpr ⟨fun z => hne (hbs a z), nd⟩) (fun b hb => ?_) ⟨⟨x2.keepNone fa hne, ha0, vs, x2.h _ _ ha1, ra.mono x2.f⟩, sub.gmono fun b hb => x1.h.free (hbs b hb)⟩
    rcases List.mem_cons.mp hb with z | z
    · rw [z]; exact ha0
    · exact x1.h.free (hbs b z), fun ρ ds h => by
    obtain ⟨d, h1, h2⟩ := bind_some h
    obtain ⟨ds', h3, h4⟩ := bind_some h2
    obtain ⟨rest, h5, rfl⟩ := Option.map_eq_some_iff.mp h4
    exact congrArg Nat.succ (hr.n ρ rest h5)⟩
def nLst (fs : Rho → Option (List (List D))) : Rho → Option (Kd × List (List D)) := fun ρ => (fs ρ).map fun dss => (.l, dss)
def nTup (fs : Rho → Option (List (List D))) : Rho → Option (Kd × List (List D)) := fun ρ => (fs ρ).map fun dss => (.t, dss)
theorem far_new {K : PySem.W.Frag} {F1 H1 G : Hp} {bs : List Addr} {dss : List (List D)} {p : Addr} {o : HO} (hp : H1 p = none) (s : SubL K F1 H1 G bs dss) : p ∉ bs ∧ SubL K F1 (upd H1 p o) G bs dss := by
  have hn : ∀ b ∈ bs, b ≠ p := fun b hb z => (s.there b hb).1 (z ▸ hp)
  exact ⟨fun z => hn p z rfl, s.away (.refl _) fun b hb => ⟨rfl, upd_ne (hn b hb)⟩⟩
theorem dn_lst (h : DR X es t fs) (hn : es.length ≤ 1000 := by decide) : DN X (.List es pos) (tLst t) (nLst fs) := ⟨pe_lst h.p, fun B F H σ ρ p Q rel hf q => by
  obtain ⟨dss, h1, rfl⟩ := Option.map_eq_some_iff.mp hf
  refine h.s B F H σ ρ dss _ rel h1 fun bs F1 H1 x1 nd hbs sub => ⟨small_es (by rw [List.length_map, sub.len, h.n ρ dss h1]; exact hn), fun p hp => ?_⟩
  obtain ⟨f1, f2⟩ := far_new (o := .lst (bs.map V.ref)) hp sub
  exact q p bs F1 _ (ext_own x1 hp) (x1.h.free hp) (x1.s.free hp) upd_same (List.nodup_cons.mpr ⟨f1, nd⟩) hbs f2⟩
theorem dn_tup {k : Nat} (h : DR X es t fs) (hn : es.length ≤ 1000 := by decide) : DN X (.Tuple es k pos) (tTup t) (nTup fs) := ⟨pe_tup h.p, fun B F H σ ρ p Q rel hf q => by
  obtain ⟨dss, h1, rfl⟩ := Option.map_eq_some_iff.mp hf
  refine h.s B F H σ ρ dss _ rel h1 fun bs F1 H1 x1 nd hbs sub => ⟨small_es (by rw [List.length_map, sub.len, h.n ρ dss h1]; exact hn), fun p hp => ?_⟩
  obtain ⟨f1, f2⟩ := far_new (o := .tup (bs.map V.ref)) hp sub
  exact q p bs F1 _ (ext_own x1 hp) (x1.h.free hp) (x1.s.free hp) upd_same (List.nodup_cons.mpr ⟨f1, nd⟩) hbs f2⟩
end
/-! read -/
theorem atI_some {α : Type} {xs : List α} {i : Int} {x : α} (h : L2.atI xs i = some x) : ∃ k, L2.ixN xs.length i = some k ∧ xs[k]? = some x := by
  unfold L2.atI at h
  exact bind_some h
def dpIx (j : Nat) (fb : Rho → Option D) : Rho → Option D := fun ρ => match ρ[j]? with
  | some (.dp p) => match p.1 with
    | .d _ => none
    | _ => (fb ρ).bind fun i => match i with
      | .int i => (L2.atI p.2 i).map .list
      | _ => none
  | _ => none
theorem dpIx_some {j : Nat} {fb : Rho → Option D} {ρ : Rho} {d : D} (h : dpIx j fb ρ = some d) : ∃ p i k ds, ρ[j]? = some (.dp p) ∧ (∀ ks, p.1 ≠ .d ks) ∧ fb ρ = some (.int i) ∧ L2.ixN p.2.length i = some k ∧ p.2[k]? = some ds ∧ d = .list ds := by
  unfold dpIx at h
  split at h
  · rename_i p e
    split at h
    · cases h
    · rename_i hk
      obtain ⟨v, h1, h2⟩ := bind_some h
      cases v with
      | int i =>
        obtain ⟨ds, h3, rfl⟩ := Option.map_eq_some_iff.mp (show (L2.atI p.2 i).map PyData.list = some d from h2)
        obtain ⟨k, h4, h5⟩ := atI_some h3
        exact ⟨p, i, k, ds, e, fun ks z => hk ks z, h1, h4, h5, rfl⟩
      | _ => cases h2
  · cases h
/-- the list at i of what holds them -/
theorem ix_dp {K : PySem.W.Frag} {H : Hp} {a b : Addr} {bs : List Addr} {kd : Kd} {i : Int} {k : Nat} {Q : VK} (hc : CB H a bs kd) (hkd : ∀ ks, kd ≠ .d ks) (h1 : L2.ixN bs.length i = some k) (h2 : bs[k]? = some b) (q : Q (.ref b) H) : rIx K (.ref a) (.int i) H Q := by
  have e : L2.atI (bs.map V.ref) i = some (.ref b) := by
    unfold L2.atI
    rw [List.length_map, h1, Option.bind_some, List.getElem?_map, h2]
    rfl
  cases kd with
  | l => exact .inl ⟨a, _, i, _, rfl, rfl, .inl (.inl hc), e, q⟩
  | t => exact .inr (.inl ⟨a, _, i, _, rfl, rfl, .inl (.inl hc), e, q⟩)
  | d ks => exact absurd rfl (hkd ks)
theorem sem_dpIx {K : PySem.W.Frag} {m : Md} {j : Nat} {tb : TE} {fb : Rho → Option D} (hb : SemE K m tb fb) : SemE K .pk (tOp (rIx K) (tVar j) tb) (dpIx j fb) := by
  intro B F H σ ρ d Q rel hf q
  obtain ⟨p, i, k, ds, e1, e2, e3, e4, e5, rfl⟩ := dpIx_some hf
  obtain ⟨a, bs, s1, fa, ga, hc, nd, sub⟩ := rel.dpAt e1
  refine ⟨_, s1, ?_⟩
  refine hb B F H σ ρ (.int i) _ rel e3 fun v F1 H1 x1 r1 => ?_
  rw [r1.int]
  have sub1 := sub.mono x1
  obtain ⟨b, vs, hb1, fb1, gb1, hb2, rb⟩ := sub1.at e5
  refine ix_dp (hc.mono x1.h) e2 (by rw [sub.len]; exact e4) hb1 ?_
  exact q _ F1 H1 x1 (.inr ⟨b, rfl, fb1, vs, hb2, rb⟩)
section
variable {X : Cx} {m m1 : Md} {b e : Expr} {tb te : TE} {fb f : Rho → Option D} {x : Str} {pos pn p apos ps : Pos} {j : Nat}
theorem de_dpIx (hb : DE X m b tb fb) (hN : X.N[j]? = some x := by rfl) (hv : Vis X.env.scope x := by first | exact Or.inl rfl | exact Or.inr (Or.inl rfl) | exact Or.inr (Or.inr rfl)) (hd : (x == ("__debug__" : Str)) = false := by decide) (hcd : (x == ("__classdict__" : Str)) = false := by decide)
    (hs : PlainIx b := by exact fun _ _ => rfl) : DE X .pk (.Subscript (.Name x pn) b pos) (tOp (rIx X.K) (tVar j) tb) (dpIx j fb) := ⟨pe_ix ix_seq (pe_var hN hv hd hcd) hb.p hs, sem_dpIx hb.s⟩
/-! written -/
def bDpApp (j : Nat) (fb f : Rho → Option D) : Bd := fun ρ => match ρ[j]? with
  | some (.dp p) => match p.1 with
    | .d _ => none
    | _ => (fb ρ).bind fun i => match i with
      | .int i => (L2.ixN p.2.length i).bind fun k => (p.2[k]?).bind fun ds => (f ρ).bind fun d => if ds.length < sizeLine then some (.nx (ρ.set j (.dp (p.1, p.2.set k (ds ++ [d]))))) else none
      | _ => none
  | _ => none
theorem dpApp_some {j : Nat} {fb f : Rho → Option D} {ρ : Rho} {o : Out} (h : bDpApp j fb f ρ = some o) : ∃ p i k ds d, ρ[j]? = some (.dp p) ∧ (∀ ks, p.1 ≠ .d ks) ∧ fb ρ = some (.int i) ∧ L2.ixN p.2.length i = some k ∧ p.2[k]? = some ds ∧ f ρ = some d ∧ ds.length < sizeLine ∧ o = .nx (ρ.set j (.dp (p.1, p.2.set k (ds ++ [d])))) := by
  unfold bDpApp at h
  split at h
  · rename_i p e
    split at h
    · cases h
    · rename_i hk
      obtain ⟨v, h1, h2⟩ := bind_some h
      cases v with
      | int i =>
        obtain ⟨k, h3, h4⟩ := bind_some (show (L2.ixN p.2.length i).bind (fun k => (p.2[k]?).bind fun ds => (f ρ).bind fun d => if ds.length < sizeLine then some (Out.nx (ρ.set j (.dp (p.1, p.2.set k (ds ++ [d]))))) else none) = some o from h2)
        obtain ⟨ds, h5, h6⟩ := bind_some h4
        obtain ⟨d, h7, h8⟩ := bind_some h6
        obtain ⟨h9, rfl⟩ := if_some h8
        exact ⟨p, i, k, ds, d, e, fun ks z => hk ks z, h1, h3, h5, h7, h9, rfl⟩
      | _ => cases h2
  · cases h
theorem sem_dpApp {K : PySem.W.Frag} (hb : SemE K m1 tb fb) (he : SemE K .fz te f) : SemS K m [] (tDrop (tBM K "list" rAppend (tOp (rIx K) (tVar j) tb) (tCons te tNil))) (bDpApp j fb f) := by
  intro B F H σ ρ o Z r hb' q
  obtain ⟨p, i, k, ds, d, e1, e2, e3, e4, e5, e6, hl, rfl⟩ := dpApp_some hb'
  obtain ⟨a, bs, s1, fa, ga, hc, nd, sub⟩ := r.dpAt e1
  refine ⟨_, s1, ?_⟩
  refine hb B F H σ ρ (.int i) _ r e3 fun v F1 H1 x1 r1 => ?_
  rw [r1.int]
  obtain ⟨b, vs, hb1, fb1, gb1, hb2, rb⟩ := (sub.mono x1).at e5
  refine ix_dp (hc.mono x1.h) e2 (by rw [sub.len]; exact e4) hb1 ?_
  refine ⟨tyL hb2, ?_⟩
  refine he B F1 H1 σ ρ d _ (r.ext x1) e6 fun v F2 H2 x2 r2 => ?_
  have x12 := x1.trans x2
  have sub2 := sub.mono x12
  obtain ⟨b', vs', hb1', fb2, gb2, hb2', rb'⟩ := sub2.at e5
  rw [hb1] at hb1'
  cases hb1'
  refine ⟨b, vs', v, rfl, rfl, hb2', by rw [rb'.length]; exact hl, ?_⟩
  have hae : H a ≠ none := hc.there
  exact q σ F2 _ ((r.ext x12).writeDp e1 s1 (hc.mono x12.h) nd sub2 (x12.keepNone fa hae) ga hb1 fb2 gb2 (rb'.append (.cons r2 .nil))) fun _ _ => rfl
/-- x[i].append(e) -/
theorem ds_dpApp (hb : DE X m1 b tb fb) (he : DE X .fz e te f) (hN : X.N[j]? = some x := by rfl) (hv : Vis X.env.scope x := by first | exact Or.inl rfl | exact Or.inr (Or.inl rfl) | exact Or.inr (Or.inr rfl)) (hd : (x == ("__debug__" : Str)) = false := by decide) (hcd : (x == ("__classdict__" : Str)) = false := by decide)
    (hix : PlainIx b := by exact fun _ _ => rfl)
    (hbase : attributeBase (.Subscript (.Name x pn) b ps) "append" X.env (eval (.Subscript (.Name x pn) b ps) X.env) = eval (.Subscript (.Name x pn) b ps) X.env := by rfl)
    (hfew : ((backTo p (starEach [e] X.env)).all (fun x => !x.1) && (backToKw p (keywordEach [] X.env)).all (fun x => x.1.isSome)
      && decide ([e].length + ([] : List Keyword).length + (if ([] : List Keyword).isEmpty then 0 else 1) < 30)) = true := by rfl)
    (hline : (apos.endLine == p.line) = true := by rfl) (hs : starEach [e] X.env = (false, eval e X.env) :: starEach [] X.env := by rfl) (hsw : swapsWith (.Call (.Attribute (.Subscript (.Name x pn) b ps) "append" apos) [e] [] p) none pos.line X.env = pure false := by rfl) :
    DS X m [] (.Expr (.Call (.Attribute (.Subscript (.Name x pn) b ps) "append" apos) [e] [] p) pos) (tDrop (tBM X.K "list" rAppend (tOp (rIx X.K) (tVar j) tb) (tCons te tNil))) (bDpApp j fb f) :=
  ⟨ps_expr (pe_bm PySem.F.plainAttrs_list PySem.F.slot_list_append PySem.F.type_list_append mt_append (pe_ix ix_seq (pe_var hN hv hd hcd) hb.p hix) (pa_cons he.p pa_nil hs) hbase hfew hline hs rfl) hsw, sem_dpApp hb.s he.s⟩
/-! given back -/
def vDp (i : Nat) : Rho → Option D := fun ρ => match ρ[i]? with
  | some (.dp (.l, dss)) => some (.list (dss.map .list))
  | _ => none
theorem rep_sub {K : PySem.W.Frag} {F H G F' : Hp} : ∀ {bs : List Addr} {dss : List (List D)}, SubL K F H G bs dss → Same F F' → (∀ b ∈ bs, F' b = H b) → RepA K F' (bs.map V.ref) (dss.map .list)
  | [], [], _, _, _ => .nil
  | b :: bs, ds :: dss, h, s, e => by
    obtain ⟨⟨_, _, vs, h3, h4⟩, h5⟩ := h
    refine .cons (.lst (xs := vs) (.inl (.inl ?_)) (h4.mono s)) (rep_sub h5 s fun c hc => e c (List.mem_cons_of_mem _ hc))
    rw [e b List.mem_cons_self, h3]
  | [], _ :: _, h, _, _ => h.elim
  | _ :: _, [], h, _, _ => h.elim
theorem ds_retDp {i : Nat} (hN : X.N[i]? = some x := by rfl) (hv : Vis X.env.scope x := by first | exact Or.inl rfl | exact Or.inr (Or.inl rfl) | exact Or.inr (Or.inr rfl)) (hd : (x == ("__debug__" : Str)) = false := by decide)
    (hcd : (x == ("__classdict__" : Str)) = false := by decide) : DS X .fz [] (.Return (some (.Name x pn)) pos) (tRet (tVar i)) (bRet (vDp i)) := ⟨ps_ret (pe_var hN hv hd hcd), fun B F H σ ρ o Z r hb q => by
  obtain ⟨d, h1, rfl⟩ := Option.map_eq_some_iff.mp hb
  unfold vDp at h1
  split at h1
  · rename_i dss e1
    cases h1
    obtain ⟨a, bs, s1, fa, ga, hc, nd, sub⟩ := r.dpAt e1
    refine ⟨_, s1, ?_⟩
    let F' : Hp := fun c => if c ∈ a :: bs then H c else F c
    have fn : ∀ c ∈ a :: bs, F c = none ∧ B.G c = none := fun c hcm => by
      rcases List.mem_cons.mp hcm with rfl | hcm
      · exact ⟨fa, ga⟩
      · exact (sub.there c hcm).2
    have sF : Same F F' := fun c u hu => by
      show (if c ∈ a :: bs then H c else F c) = some u
      by_cases hm : c ∈ a :: bs
      · rw [(fn c hm).1] at hu; cases hu
      · rw [if_neg hm]; exact hu
    have sH : Same F' H := fun c u hu => by
      have hu' : (if c ∈ a :: bs then H c else F c) = some u := hu
      by_cases hm : c ∈ a :: bs
      · rw [if_pos hm] at hu'; exact hu'
      · rw [if_neg hm] at hu'; exact r.fh c u hu'
    have eq : ∀ c ∈ a :: bs, F' c = H c := fun c hm => if_pos hm
    refine q _ F' H ⟨r.f0.trans sF, r.g, sH, fun c hn => ?_, ?_⟩
    · by_cases hm : c ∈ a :: bs
      · exact .inr (fn c hm).2
      · have : F' c = F c := if_neg hm
        rw [this] at hn
        exact r.nw c hn
    · refine Rep.lst (xs := bs.map V.ref) (.inl (.inl ?_)) (rep_sub sub sF fun c hcm => eq c (List.mem_cons_of_mem _ hcm))
      rw [eq a List.mem_cons_self]
      exact hc
  · cases h1⟩
end
/-! [new list for ..] -/
def unLs : List D → Option (List (List D))
  | [] => some []
  | d :: ds => (unL d).bind fun es => (unLs ds).map (es :: ·)
theorem unLs_some : ∀ {rs : List D} {dss : List (List D)}, unLs rs = some dss → rs = dss.map .list
  | [], _, h => by cases h; rfl
  | d :: rs, dss, h => by
    obtain ⟨es, h1, h2⟩ := bind_some h
    obtain ⟨rest, h3, rfl⟩ := Option.map_eq_some_iff.mp h2
    rw [unL_some h1, unLs_some h3]
    rfl
@[simp] theorem unLs_map (dss : List (List D)) : unLs (dss.map .list) = some dss := by
  induction dss with
  | nil => rfl
  | cons ds dss ih =>
    show (unL (.list ds)).bind (fun es => (unLs (dss.map .list)).map (es :: ·)) = _
    rw [ih]
    rfl
def fLcN (f : Rho → Option (List D)) (s : D → Rho → Option Rho) (ft : Rho → Option Bool) (fe : Rho → Option D) (vs : List Nat) : Rho → Option (Kd × List (List D)) := fun ρ => (f ρ).bind fun ds =>
  (lcL (fun d => (s d (wipeR ρ vs)).bind ft) (fun d => (s d (wipeR ρ vs)).bind fe) ds).bind fun rs => (unLs rs).bind fun dss => if dss.length ≤ sizeLine then some (.l, dss) else none
theorem lists_split : ∀ {a b : List D} {dss : List (List D)}, a ++ b = dss.map .list → ∃ x y, a = x.map PyData.list ∧ b = y.map PyData.list ∧ dss = x ++ y := fun {a b dss} h => by
  obtain ⟨x, y, h1, h2, h3⟩ := List.map_eq_append_iff.mp h.symm
  exact ⟨x, y, h2.symm, h3.symm, h1⟩
theorem sem_lcN {w : Bool} {K : PySem.W.Frag} {W1 vs : List Nat} {wi : TI} {g : TG} {tt : TT} {te : TE} {f : Rho → Option (List D)} {s : D → Rho → Option Rho} {ft : Rho → Option Bool} {fe : Rho → Option D} (hi : SemI w K .pk wi f) (hg : SemG w K W1 g s) (ht : SemT K tt ft) (he : SemE K .fr te fe) (hW : ∀ j ∈ W1, j ∈ vs) :
    SemN K (tLc wi g tt te vs) (fLcN f s ft fe vs) := by
  intro B F H σ ρ z Q rel hf q
  obtain ⟨ds, h1, h2⟩ := bind_some hf
  obtain ⟨rs, h3, h4⟩ := bind_some h2
  obtain ⟨dss, h5, h6⟩ := bind_some h4
  obtain ⟨h7, rfl⟩ := if_some h6
  have hrl := unLs_some h5
  refine hi B F H σ ρ ds _ rel h1 fun J F1 H1 x1 it => ?_
  intro L hL
  have r1 := (rel.ext x1).wiped vs
  have gL : B.G L = none := (rel.ext x1).g.free hL
  have nL : ∀ (j : Nat) (e : D), (wipeR ρ vs)[j]? = some (.ow e) → (wipe σ vs)[j]? ≠ some (some (.ref L)) := own_ne r1 hL
  let Inv0 : Hp → List Addr → List (List D) → Hp → Prop := fun F' bs rr H' => Rel K B F' H' (wipe σ vs) (wipeR ρ vs) ∧ Same F1 F' ∧ Same H1 H' ∧ New F1 F' H1 ∧ F' L = none ∧ H' L = some (.lst (bs.map V.ref)) ∧ bs.Nodup ∧ L ∉ bs ∧ (∀ b ∈ bs, H1 b = none) ∧ SubL K F' H' H1 bs rr
  have ext : ∀ {F2 F5 H2 H5 : Hp} {bs : List Addr} {rr : List (List D)}, Inv0 F2 bs rr H2 → Ext F2 H2 F5 H5 → Inv0 F5 bs rr H5 := fun {F2 F5 H2 H5 bs rr} st x => by
    obtain ⟨rel2, f2, s2, n2, fL, hH, nd, nl, nb, sub⟩ := st
    exact ⟨rel2.ext x, f2.trans x.f, s2.trans x.h, fun a h => (x.n a h).elim (n2 a) fun z => .inr (s2.free z), x.keepNone fL (by rw [hH]; exact fun z => nomatch z), x.h _ _ hH, nd, nl, nb, sub.mono x⟩
  refine ⟨fun i m H' => m = ds.length - i ∧ i ≤ ds.length ∧ ∃ F' bs rr r2, Inv0 F' bs rr H' ∧ lcL (fun d => (s d (wipeR ρ vs)).bind ft) (fun d => (s d (wipeR ρ vs)).bind fe) (ds.drop i) = some r2 ∧ rs = rr.map .list ++ r2,
    ⟨ds.length, by simp, Nat.zero_le _, F1, [], [], rs, ⟨r1.other (x1.s.free hL) gL nL (dp_ne r1 hL), .refl _, same_upd hL, .refl, x1.s.free hL, upd_same, List.nodup_nil, (fun z => nomatch z), (fun _ z => nomatch z), trivial⟩, by simpa using h3, rfl⟩, ?_⟩
  rintro i m H2 ⟨rfl, hil, F2, bs, rr, r2, st2, hl, hrs⟩
  obtain ⟨rel2, f2, s2, n2, fL, hH, nd, nl, nb, sub⟩ := id st2
  by_cases hlt : i < ds.length
  · rw [List.drop_eq_getElem_cons hlt] at hl
    obtain ⟨b, e1, e2⟩ := bind_some (show ((s ds[i] (wipeR ρ vs)).bind ft).bind _ = some r2 from hl)
    obtain ⟨ρ3, e3, e4⟩ := bind_some e1
    refine .inr ⟨it.go i F2 H2 hlt f2 rel2.fh s2, fun H' => i + 1 ≤ ds.length ∧ ∃ F' bs rr r2, Inv0 F' bs rr H' ∧ lcL (fun d => (s d (wipeR ρ vs)).bind ft) (fun d => (s d (wipeR ρ vs)).bind fe) (ds.drop (i + 1)) = some r2 ∧ rs = rr.map .list ++ r2, fun H' hn => ⟨ds.length - (i + 1), by omega, rfl, hn⟩, fun x H3 y => ?_⟩
    obtain ⟨F3, x3, rb⟩ := it.yld i ds[i] F2 H2 x H3 (List.getElem?_eq_getElem hlt) f2 rel2.fh s2 y
    refine hg B F3 H3 (wipe σ vs) (wipeR ρ vs) ρ3 x ds[i] _ (rel2.ext x3) rb e3 fun σ3 r3 k3 l3 => ?_
    refine ⟨wipe_back (l3.trans (wipe_length σ vs)) fun j hj => k3 j fun z => hj (hW j z), ?_⟩
    refine ht B F3 H3 σ3 ρ3 b _ r3 e4 fun F4 H4 x4 => ?_
    have x34 := x3.trans x4
    cases b with
    | false => exact ⟨hlt, F4, bs, rr, r2, ext st2 x34, e2, hrs⟩
    | true =>
      obtain ⟨y0, e5, e6⟩ := bind_some (show ((s ds[i] (wipeR ρ vs)).bind fe).bind _ = some r2 from e2)
      obtain ⟨ρ4, e7, e8⟩ := bind_some e5
      rw [e3] at e7
      cases e7
      obtain ⟨r5, e9, rfl⟩ := Option.map_eq_some_iff.mp e6
      have hsplit : rr.map PyData.list ++ y0 :: r5 = dss.map .list := by rw [← hrs]; exact hrl
      obtain ⟨da, db, z1, z2, z3⟩ := lists_split hsplit
      have hy0 : ∃ ys, y0 = .list ys := by
        cases db with
        | nil => cases z2
        | cons y ys => rw [List.map_cons] at z2; exact ⟨y, (List.cons.inj z2).1⟩
      obtain ⟨ys, rfl⟩ := hy0
      have st4 := ext st2 x34
      show te σ3 H4 _
      refine he B F4 H4 σ3 ρ3 _ _ (r3.ext x4) e8 fun v F5 H5 x5 rv => ?_
      obtain ⟨c, rfl, hc4, fc, vs5, hc5, rc⟩ := rv
      obtain ⟨a1, a2, a3, a4, a5, a6, a7, a8, a9, a10⟩ := ext st4 x5
      obtain ⟨_, _, _, _, _, b6, _, _, _, b10⟩ := st4
      have hlen : (bs.map V.ref).length < sizeLine := by
        have h7 : rs.length = dss.length := by rw [hrl, List.length_map]
        have h8 := sub.len
        rw [hrs] at h7
        simp at h7 ⊢
        omega
      have cL : c ≠ L := fun z => by rw [z, b6] at hc4; cases hc4
      have cb : c ∉ bs := fun z => (b10.there c z).1 hc4
      have c1 : H1 c = none := by
        cases q1 : H1 c with
        | none => rfl
        | some o => rw [(ext st2 x34).2.2.1 _ _ q1] at hc4; cases hc4
      have sub5 : SubL K F5 H5 H1 (bs ++ [c]) (rr ++ [ys]) := a10.snoc fc c1 ⟨vs5, hc5, rc⟩
      have nl5 : L ∉ bs ++ [c] := fun z => by
        rcases List.mem_append.mp z with z | z
        · exact a8 z
        · exact cL (List.mem_singleton.mp z).symm
      refine ⟨bs.map V.ref, a6, hlen, hlt, F5, bs ++ [c], rr ++ [ys], r5, ⟨a1.other a5 gL nL (dp_far r1 hL a3 a1), a2, fun c' u hc => ?_, a4, a5, by rw [List.map_append]; exact upd_same, ?_, nl5, fun d hd => ?_, sub5.away (.refl _) fun d hd => ⟨rfl, upd_ne fun z => nl5 (z ▸ hd)⟩⟩, e9, by rw [hrs]; simp⟩
      · rw [upd_ne (ne_of_none hc hL)]
        exact a3 _ _ hc
      · rw [List.nodup_append]
        exact ⟨a7, List.nodup_cons.mpr ⟨by simp, List.nodup_nil⟩, fun p hp r hr => by rw [List.mem_singleton.mp hr]; exact fun z => cb (z ▸ hp)⟩
      · rcases List.mem_append.mp hd with z | z
        · exact a9 d z
        · rw [List.mem_singleton.mp z]; exact c1
  · have ei : i = ds.length := by omega
    subst ei
    rw [List.drop_length] at hl
    cases hl
    rw [List.append_nil] at hrs
    have hdd : rr = dss := by
      have : rr.map PyData.list = dss.map .list := hrs.symm.trans hrl
      have e2 := congrArg unLs this
      rw [unLs_map, unLs_map] at e2
      exact Option.some.inj e2
    subst hdd
    refine .inl ⟨it.stop _ F2 H2 (Nat.le_refl _) f2 rel2.fh s2, q L bs F2 H2 ⟨x1.f.trans f2, x1.h.trans s2, fun a h => ?_, rel2.fh⟩ (x1.h.free hL) fL hH (List.nodup_cons.mpr ⟨nl, nd⟩) (fun b hb => x1.h.free (nb b hb)) (sub.gmono fun b hb => x1.h.free (nb b hb))⟩
    exact (n2 a h).elim (x1.n a) fun z => .inr (x1.h.free z)
section
variable {X : Cx} {W1 vs : List Nat} {wi : TI} {g : TG} {tt : TT} {te : TE} {f : Rho → Option (List D)} {s : D → Rho → Option Rho} {ft : Rho → Option Bool} {fe : Rho → Option D} {m : Md} {w : Bool} {tg iter elt : Expr} {ifs : List Expr} {scope : Scope} {pos : Pos}
/-- x = [a new list for ..] -/
theorem ds_dpLc {m1 : Md} {i : Nat} {y : Str} {py spos : Pos} (own : List (Str × Nat)) (hN : X.N.Nodup) (hi : DI w X m tg iter wi f) (ok : blkC X.N X.env.scope scope own = true)
    (hg : ∀ (s' : Shared) (H : Hp) (C : Addr) (cl : List (Str × Addr)) (fp : List Addr), DG w (X.blk s' H scope (compEnvC scope cl C X.env) fp) W1 tg g s) (ht : ∀ (s : Shared) (H : Hp) (C : Addr) (cl : List (Str × Addr)) (fp : List Addr), DTs (X.blk s H scope (compEnvC scope cl C X.env) fp) ifs tt ft)
    (he : ∀ (s : Shared) (H : Hp) (C : Addr) (cl : List (Str × Addr)) (fp : List Addr), DE (X.blk s H scope (compEnvC scope cl C X.env) fp) .fr elt te fe) (hW : ∀ j ∈ W1, j ∈ vs) (hsw : swapsWith (.ListComp elt [⟨tg, iter, ifs, 0⟩] scope pos) (some (.Name y py)) spos.line X.env = pure true)
    (hy : X.N[i]? = some y := by rfl) (hyl : X.env.scope.names.lookup y = some .local := by rfl) (hc : X.calm = true := by rfl) (hs : ∀ x, foldedSetIterable iter X.env x = pure x := by intro _; rfl) (hvs : own.map (·.2) = vs := by rfl) :
    DS X m1 [i] (.Assign [.Name y py] (.ListComp elt [⟨tg, iter, ifs, 0⟩] scope pos) spos) (tAsg (tLc wi g tt te (vs)) (gName i)) (bDp i (fLcN f s ft fe (vs))) := by
  subst hvs
  exact ⟨ps_setLc hc hN hy hyl hsw hi.p (blkOk_by ok) (fun s H C cl fp => (hg s H C cl fp).p) (fun s H C cl fp => (ht s H C cl fp).p) (fun s H C cl fp => (he s H C cl fp).p) hs,
    sem_dp (sem_lcN hi.pk.s (hg X.s_0 (fun _ => none) 0 [] []).s (ht X.s_0 (fun _ => none) 0 [] []).s (he X.s_0 (fun _ => none) 0 [] []).s hW)⟩
end
/-! x[i] op= e -/
theorem get_lst {X : Cx} : PGet X (rIxL X.K) := by
  intro pins s σ H o i ov iv Q I ro ri h
  obtain ⟨p, xs, k, z, rfl, rfl, hq, he, q⟩ := h
  cases ro
  obtain ⟨t, rfl⟩ := ri
  obtain ⟨its, r, pl, hz⟩ := I.list hq
  obtain ⟨j, h1, h2, h3, h4, h5⟩ := atI_get he
  obtain ⟨w, ew, rw'⟩ := r.get h2
  have hl := r.length
  have hn := line63
  by_cases h0 : 0 ≤ k
  · have hj : k.toNat = j := by
      rw [seqIndex_of h0 h5] at h1
      exact Option.some.inj h1
    exact wpAny_getItem_list pl.isList h0 (by omega) (by rw [hj]; simpa using ew) ⟨z, H, I, rw', q⟩
  · have hj : (k + (its.toArray.size : Int)).toNat = j := by
      rw [seqIndex_neg (by omega) h4] at h1
      rw [List.size_toArray, ← hl]
      exact Option.some.inj h1
    exact wpAny_getItem_list_neg pl.isList (by omega) (by rw [List.size_toArray]; omega) (by omega) (by rw [hj]; simpa using ew) ⟨z, H, I, rw', q⟩
def bAugSet (op : D → D → Option D) (j : Nat) (fi f : Rho → Option D) : Bd := fun ρ => match ρ[j]? with
  | some (.ow (.list ds)) => (fi ρ).bind fun i => match i with
    | .int i => (L2.ixN ds.length i).bind fun k => (ds[k]?).bind fun a => (f ρ).bind fun e => (op a e).bind fun z => some (.nx (ρ.set j (.ow (.list (ds.set k z)))))
    | _ => none
  | _ => none
theorem augSet_some {op : D → D → Option D} {j : Nat} {fi f : Rho → Option D} {ρ : Rho} {o : Out} (h : bAugSet op j fi f ρ = some o) : ∃ ds i k a e z, ρ[j]? = some (.ow (.list ds)) ∧ fi ρ = some (.int i) ∧ L2.ixN ds.length i = some k ∧ ds[k]? = some a ∧ f ρ = some e ∧ op a e = some z ∧ o = .nx (ρ.set j (.ow (.list (ds.set k z)))) := by
  unfold bAugSet at h
  split at h
  · rename_i ds e0
    obtain ⟨v, h1, h2⟩ := bind_some h
    cases v with
    | int i =>
      obtain ⟨k, h3, h4⟩ := bind_some (show (L2.ixN ds.length i).bind (fun k => (ds[k]?).bind fun a => (f ρ).bind fun e => (op a e).bind fun z => some (Out.nx (ρ.set j (.ow (.list (ds.set k z)))))) = some o from h2)
      obtain ⟨a, h5, h6⟩ := bind_some h4
      obtain ⟨e, h7, h8⟩ := bind_some h6
      obtain ⟨z, h9, h10⟩ := bind_some h8
      cases h10
      exact ⟨ds, i, k, a, e, z, e0, h1, h3, h5, h7, h9, rfl⟩
    | _ => cases h2
  · cases h
theorem sem_augSet {K : PySem.W.Frag} {m m1 m2 : Md} {j : Nat} {ti te : TE} {fi f : Rho → Option D} {r2 : R2} {g : D → D → Option D} (hs : OpS K .fz r2 g) (hi : SemE K m1 ti fi) (he : SemE K m2 te f) : SemS K m [] (tAugS (tVar j) ti te (rIxL K) r2 rSetL) (bAugSet g j fi f) := by
  intro B F H σ ρ o Z r hb q
  obtain ⟨ds, i, k, a, e, z, e1, e2, e3, e4, e5, e6, rfl⟩ := augSet_some hb
  obtain ⟨p, vs, s1, fp, gp, hp, rv⟩ := r.own e1
  refine ⟨_, s1, ?_⟩
  refine hi B F H σ ρ (.int i) _ r e2 fun v F1 H1 x1 r1 => ?_
  rw [r1.int]
  have hp1 := x1.h _ _ hp
  have rv1 := rv.mono x1.f
  obtain ⟨va, va1, va2⟩ := rv1.get e4
  refine ⟨p, vs, i, va, rfl, rfl, .inl (.inl hp1), ?_, ?_⟩
  · unfold L2.atI
    rw [rv.length, e3, Option.bind_some]
    exact va1
  refine he B F1 H1 σ ρ e _ (r.ext x1) e5 fun w F2 H2 x2 r2' => ?_
  have x12 := x1.trans x2
  refine hs F2 H2 H2 H1 va w a e z _ x2.s (.inl (va2.mono x2.f)) r2'.any e6 fun u F3 H3 x3 r3 => ?_
  have x13 := x12.trans x3
  have hne : H p ≠ none := by rw [hp]; exact fun z => nomatch z
  refine ⟨p, vs, i, k, rfl, rfl, x13.h _ _ hp, by rw [rv.length]; exact e3, ?_⟩
  exact q σ F3 _ ((r.ext x13).write e1 s1 (x13.keepNone fp hne) gp ⟨vs.set k u, upd_same, (rv.mono x13.f).set k r3⟩) fun _ _ => rfl
section
variable {X : Cx} {m m1 m2 : Md} {i e : Expr} {ti te : TE} {fi f : Rho → Option D} {x : Str} {pos pn p : Pos} {j : Nat}
theorem ds_augAddS (hi : DE X m1 i ti fi) (he : DE X m2 e te f) (hN : X.N[j]? = some x := by rfl) (hv : Vis X.env.scope x := by first | exact Or.inl rfl | exact Or.inr (Or.inl rfl) | exact Or.inr (Or.inr rfl)) (hd : (x == ("__debug__" : Str)) = false := by decide) (hcd : (x == ("__classdict__" : Str)) = false := by decide)
    (ha : ∀ ov iv new, augStore i ov iv new = (do holding [new, ov, iv] (setItem ov iv new); release [new, ov, iv] []; pure .next) := by intros; rfl) : DS X m [] (.AugAssign (.Subscript (.Name x pn) i p) .Add e pos) (tAugS (tVar j) ti te (rIxL X.K) rAddS rSetL) (bAugSet addS j fi f) :=
  ⟨ps_augS (pe_var hN hv hd hcd) hi.p get_lst he.p iop_addS set_list ha, sem_augSet ops_addS hi.s he.s⟩
end
@[simp] theorem bAugSet_e {op : D → D → Option D} {j : Nat} {fi f : Rho → Option D} {ρ : Rho} : bAugSet op j fi f ρ = (owL ρ[j]?).bind fun ds => (fi ρ).bind fun i => (intO i).bind fun o => match o with
    | some i => (L2.ixN ds.length i).bind fun k => (ds[k]?).bind fun a => (f ρ).bind fun e => (op a e).bind fun z => some (.nx (ρ.set j (.ow (.list (ds.set k z)))))
    | none => none := by
  unfold bAugSet owL
  cases h : ρ[j]? with
  | none => rfl
  | some s =>
    cases s with
    | ow d =>
      cases d with
      | list ds =>
        show (fi ρ).bind _ = (fi ρ).bind _
        congr 1
        funext v
        cases v <;> rfl
      | _ => rfl
    | _ => rfl
def dpD : Option Sl → Option (Kd × List (List D))
  | some (.dp p) => some p
  | _ => none
@[simp] theorem dpD_dp {p : Kd × List (List D)} : dpD (some (.dp p)) = some p := rfl
@[simp] theorem isDp_im {d : D} : isDp (.im d) = false := rfl
@[simp] theorem isDp_ow {d : D} : isDp (.ow d) = false := rfl
@[simp] theorem isDp_un : isDp .un = false := rfl
@[simp] theorem isDp_dp {p : Kd × List (List D)} : isDp (.dp p) = true := rfl
@[simp] theorem bDp_e {i : Nat} {f : Rho → Option (Kd × List (List D))} {ρ : Rho} : bDp i f ρ = if (ρ.set i .un).any isDp = true then none else (f ρ).map fun p => .nx (ρ.set i (.dp p)) := rfl
@[simp] theorem fLcN_e {ρ : Rho} {f : Rho → Option (List D)} {s : D → Rho → Option Rho} {ft : Rho → Option Bool} {fe : Rho → Option D} {vs : List Nat} : fLcN f s ft fe vs ρ = (f ρ).bind fun ds => (lcL (fun d => (s d (wipeR ρ vs)).bind ft) (fun d => (s d (wipeR ρ vs)).bind fe) ds).bind fun rs => (unLs rs).bind fun dss => if dss.length ≤ sizeLine then some (.l, dss) else none := rfl
/-- what a list or a tuple holds -/
def sqK : Kd × List (List D) → Option (List (List D))
  | (.d _, _) => none
  | (_, dss) => some dss
@[simp] theorem sqK_l {dss : List (List D)} : sqK (.l, dss) = some dss := rfl
@[simp] theorem sqK_t {dss : List (List D)} : sqK (.t, dss) = some dss := rfl
@[simp] theorem dpIx_e {j : Nat} {fb : Rho → Option D} {ρ : Rho} : dpIx j fb ρ = (dpD ρ[j]?).bind fun p => (sqK p).bind fun dss => (fb ρ).bind fun i => (intO i).bind fun o => match o with
    | some i => (L2.atI dss i).map .list
    | none => none := by
  unfold dpIx dpD
  cases h : ρ[j]? with
  | none => rfl
  | some s =>
    cases s with
    | dp p =>
      obtain ⟨k, dss⟩ := p
      cases k with
      | d ks => rfl
      | _ =>
        show (fb ρ).bind _ = (fb ρ).bind _
        congr 1
        funext v
        cases v <;> rfl
    | _ => rfl
@[simp] theorem bDpApp_e {j : Nat} {fb f : Rho → Option D} {ρ : Rho} : bDpApp j fb f ρ = (dpD ρ[j]?).bind fun p => (sqK p).bind fun dss => (fb ρ).bind fun i => (intO i).bind fun o => match o with
    | some i => (L2.ixN dss.length i).bind fun k => (dss[k]?).bind fun ds => (f ρ).bind fun d => if ds.length < sizeLine then some (.nx (ρ.set j (.dp (p.1, dss.set k (ds ++ [d]))))) else none
    | none => none := by
  unfold bDpApp dpD
  cases h : ρ[j]? with
  | none => rfl
  | some s =>
    cases s with
    | dp p =>
      obtain ⟨k, dss⟩ := p
      cases k with
      | d ks => rfl
      | _ =>
        show (fb ρ).bind _ = (fb ρ).bind _
        congr 1
        funext v
        cases v <;> rfl
    | _ => rfl
@[simp] theorem vDp_e {i : Nat} {ρ : Rho} {dss : List (List D)} (h : ρ[i]? = some (.dp (.l, dss))) : vDp i ρ = some (.list (dss.map .list)) := by
  unfold vDp
  rw [h]
@[simp] theorem rNil_e {ρ : Rho} : rNil ρ = some [] := rfl
@[simp] theorem rCons_e {f : Rho → Option D} {fs : Rho → Option (List (List D))} {ρ : Rho} : rCons f fs ρ = (f ρ).bind fun d => (unL d).bind fun ds => (fs ρ).map (ds :: ·) := rfl
@[simp] theorem unL_l {ds : List D} : unL (.list ds) = some ds := rfl
@[simp] theorem nLst_e {fs : Rho → Option (List (List D))} {ρ : Rho} : nLst fs ρ = (fs ρ).map fun dss => (.l, dss) := rfl
@[simp] theorem nTup_e {fs : Rho → Option (List (List D))} {ρ : Rho} : nTup fs ρ = (fs ρ).map fun dss => (.t, dss) := rfl
end Q
end

/-! part: Q43 -/
section
set_option Elab.async false
set_option linter.all false
set_option maxRecDepth 100000
set_option maxHeartbeats 4000000
set_option autoImplicit false
namespace Q
open PySem PySem.Spec PySem.Calls PyProof.Rows L2
section
variable {X : Cx} {m m1 m2 : Md} {a b e i k : Expr} {te ti tk : TE} {ta : TA} {f fi fk : Rho → Option D} {fs : Rho → Option (List D)} {p p2 pos apos pn pn2 pi pk pt pt2 : Pos} {j kt k2 : Nat} {x : Str}
/-! ### x[i], x[k] = a, b -/
theorem bSet_some {d : D} {ρ : Rho} {o : Out} (h : bSet j fi (fun _ => some d) ρ = some o) : ∃ ds n q, ρ[j]? = some (.ow (.list ds)) ∧ fi ρ = some (.int n) ∧ ixN ds.length n = some q ∧ o = .nx (ρ.set j (.ow (.list (ds.set q d)))) := by
  unfold bSet at h
  rw [Option.bind_some] at h
  split at h
  · rename_i ds e1
    obtain ⟨n, h3, h4⟩ := bind_some h
    cases n with
    | int n =>
      obtain ⟨q, h5, h6⟩ := bind_some h4
      cases h6
      exact ⟨ds, n, q, e1, h3, h5, rfl⟩
    | _ => cases h4
  · cases h
theorem sem_sub1 {K : PySem.W.Frag} (hi : SemE K m1 ti fi) {B : Bs} {F H : Hp} {σ : L2.St} {ρ ρ' : Rho} {v : V} {d : D} {Q : L2.St → Hp → Prop} (r : Rel K B F H σ ρ) (hv : Rep K F v d)
    (hb : bSet j fi (fun _ => some d) ρ = some (.nx ρ')) (q : ∀ F' H', Rel K B F' H' σ ρ' → Same F F' → Q σ H') : gSub (tVar j) ti rSetL v σ H Q := by
  obtain ⟨ds, n, w, e1, h3, h5, e2⟩ := bSet_some hb
  cases e2
  obtain ⟨a, vs, g1, g2, g3, g4, g5⟩ := r.own e1
  refine ⟨_, g1, ?_⟩
  refine hi B F H σ ρ _ _ r h3 fun y F2 H2 x2 r2 => ?_
  have hF2 : F2 a = none := x2.keepNone g2 (by rw [g4]; exact fun z => nomatch z)
  refine ⟨a, vs, n, w, rfl, r2.int, x2.h _ _ g4, by rw [g5.length]; exact h5, ?_⟩
  exact q F2 _ ((r.ext x2).write e1 g1 hF2 g3 ⟨vs.set w v, upd_same, (g5.mono x2.f).set w (Rep.mono x2.f hv)⟩) x2.f
def bSwp (j : Nat) (fi fk : Rho → Option D) (fs : Rho → Option (List D)) : Bd := fun ρ => (fs ρ).bind fun ds => match ds with
  | [d, e] => (bSet j fi (fun _ => some d) ρ).bind fun o => match o with
    | .nx ρ' => bSet j fk (fun _ => some e) ρ'
    | _ => none
  | _ => none
theorem sem_swp {K : PySem.W.Frag} {n : Nat} (h : SemE K .fz te (fTup fs)) (hi : SemE K m1 ti fi) (hk : SemE K m2 tk fk) : SemS K m [] (tAsg te (gTup K 2 (gCons (gSub (tVar j) ti rSetL) (gCons (gSub (tVar j) tk rSetL) gNil)))) (bSwp j fi fk fs) := by
  intro B F H σ ρ o D r hb q
  obtain ⟨ds, h1, h2⟩ := bind_some hb
  match ds, h1, h2 with
  | [d, e], h1, h2 =>
    obtain ⟨o1, h3, h4⟩ := bind_some h2
    obtain ⟨_, _, _, _, _, _, rfl⟩ := bSet_some h3
    refine h B F H σ ρ (.tuple [d, e]) _ r (by unfold fTup; rw [h1]; rfl) fun v F1 H1 x1 r1 => ?_
    have r1' : Rep K F1 v (.tuple [d, e]) := r1
    cases r1' with
    | tup t1 t2 =>
      cases t2 with
      | cons v1 t3 =>
        cases t3 with
        | cons v2 t4 =>
          cases t4
          have rr := r.ext x1
          refine ⟨_, _, rfl, (t1.mono rr.fh).sq, rfl, _, _, rfl, ?_⟩
          refine sem_sub1 hi rr v1 h3 fun F2 H2 r2 s2 => ⟨_, _, rfl, ?_⟩
          obtain ⟨_, _, _, _, _, _, rfl⟩ := bSet_some h4
          exact sem_sub1 hk r2 (Rep.mono s2 v2) h4 fun F3 H3 r3 s3 => ⟨rfl, q σ F3 H3 r3 fun _ _ => rfl⟩
theorem ds_swp (K' : PySem.W.Frag) (he : DE X .fz (.Tuple [a, b] k2 pt2) te (fTup fs)) (hi : DE X m1 i ti fi) (hk : DE X m2 k tk fk) (hN : X.N[j]? = some x := by rfl) (hv : Vis X.env.scope x := by first | exact Or.inl rfl | exact Or.inr (Or.inl rfl) | exact Or.inr (Or.inr rfl)) (hd : (x == ("__debug__" : Str)) = false := by decide) (hcd : (x == ("__classdict__" : Str)) = false := by decide)
    (ha1 : ∀ v, assign (.Subscript (.Name x pn) i pi) X.env v = (do
      let ov ← holding [v] (eval (.Name x pn) X.env)
      let iv ← holding [v, ov] (eval i X.env)
      standAt pi
      holding [v, ov, iv] (setItem ov iv v)
      release [v, ov, iv] []) := by intro _; rfl)
    (ha2 : ∀ v, assign (.Subscript (.Name x pn2) k pk) X.env v = (do
      let ov ← holding [v] (eval (.Name x pn2) X.env)
      let iv ← holding [v, ov] (eval k X.env)
      standAt pk
      holding [v, ov, iv] (setItem ov iv v)
      release [v, ov, iv] []) := by intro _; rfl)
    (hs1 : (assignEach [.Subscript (.Name x pn) i pi, .Subscript (.Name x pn2) k pk] X.env).map (·.2) = assign (.Subscript (.Name x pn) i pi) X.env :: (assignEach [.Subscript (.Name x pn2) k pk] X.env).map (·.2) := by rfl)
    (hs2 : (assignEach [.Subscript (.Name x pn2) k pk] X.env).map (·.2) = assign (.Subscript (.Name x pn2) k pk) X.env :: (assignEach [] X.env).map (·.2) := by rfl)
    (hn : (assignEach [.Subscript (.Name x pn) i pi, .Subscript (.Name x pn2) k pk] X.env).length = 2 := by rfl) (hst : (assignEach [.Subscript (.Name x pn) i pi, .Subscript (.Name x pn2) k pk] X.env).findIdx? (·.1) = none := by rfl)
    (hs : swapsWithSole [.Tuple [.Subscript (.Name x pn) i pi, .Subscript (.Name x pn2) k pk] kt pt] (.Tuple [a, b] k2 pt2) pos.line X.env = pure false := by rfl) (hw : swappedStores [.Tuple [.Subscript (.Name x pn) i pi, .Subscript (.Name x pn2) k pk] kt pt] (.Tuple [a, b] k2 pt2) X.env = pure none := by rfl)
    (h1 : (assignEach [.Tuple [.Subscript (.Name x pn) i pi, .Subscript (.Name x pn2) k pk] kt pt] X.env).map (·.2) = [assign (.Tuple [.Subscript (.Name x pn) i pi, .Subscript (.Name x pn2) k pk] kt pt) X.env] := by rfl) (hc : X.calm = true := by rfl) (hK : X.K = K' := by rfl) :
    DS X m [] (.Assign [.Tuple [.Subscript (.Name x pn) i pi, .Subscript (.Name x pn2) k pk] kt pt] (.Tuple [a, b] k2 pt2) pos) (tAsg te (gTup K' 2 (gCons (gSub (tVar j) ti rSetL) (gCons (gSub (tVar j) tk rSetL) gNil)))) (bSwp j fi fk fs) := by
  subst hK
  exact ⟨ps_asg he.p (pg_tup hc (pgs_cons (pg_sub (pe_var hN hv hd hcd) hi.p set_list ha1) (pgs_cons (pg_sub (pe_var hN hv hd hcd) hk.p set_list ha2) pgs_nil hs2) hs1) hn hst) hs hw h1, sem_swp (n := 0) he.s hi.s hk.s⟩
/-! ### x.remove(k), x a list of ints that has k -/
def bRem (j : Nat) (f : Rho → Option D) : Bd := fun ρ => match ρ[j]? with
  | some (.ow (.list ds)) => (intsOf ds).bind fun ns => (f ρ).bind fun d => match d with
    | .int n => if n ∈ ns then some (.nx (ρ.set j (.ow (.list ((ns.erase n).map .int))))) else none
    | _ => none
  | _ => none
theorem first_pl : ∀ {ns : List Int} {k : Int}, k ∈ ns → ∃ j, ns[j]? = some k ∧ (∀ i, i < j → ns[i]? ≠ some k) ∧ ns.eraseIdx j = ns.erase k
  | [], k, h => absurd h (by simp)
  | a :: r, k, h => by
    by_cases e : a = k
    · refine ⟨0, by rw [e]; rfl, fun i hi => absurd hi (Nat.not_lt_zero _), ?_⟩
      rw [e, List.erase_cons_head]
      rfl
    · have hr : k ∈ r := by
        rcases List.mem_cons.mp h with z | z
        · exact absurd z.symm e
        · exact z
      obtain ⟨j, h2, h3, h4⟩ := first_pl hr
      refine ⟨j + 1, h2, fun i hi => ?_, ?_⟩
      · cases i with
        | zero =>
          intro z
          exact e (Option.some.inj z)
        | succ i => exact h3 i (Nat.lt_of_succ_lt_succ hi)
      · rw [List.erase_cons_tail (by rw [beq_iff_eq]; exact e), ← h4]
        rfl
theorem rem_some {ρ : Rho} {o : Out} (h : bRem j f ρ = some o) : ∃ (ns : List Int) (n : Int), ρ[j]? = some (.ow (.list (ns.map .int))) ∧ f ρ = some (.int n) ∧ n ∈ ns ∧ o = .nx (ρ.set j (.ow (.list ((ns.erase n).map .int)))) := by
  unfold bRem at h
  split at h
  · rename_i ds e1
    obtain ⟨ns, h1, h2⟩ := bind_some h
    obtain ⟨d, h3, h4⟩ := bind_some h2
    cases d with
    | int n =>
      obtain ⟨h5, rfl⟩ := if_some h4
      rw [intsOf_map h1] at e1
      exact ⟨ns, n, e1, h3, h5, rfl⟩
    | _ => cases h4
  · cases h
theorem RepA.ofInts {K : PySem.W.Frag} {F : Hp} : ∀ ns : List Int, RepA K F (ns.map V.int) (ns.map PyData.int)
  | [] => .nil
  | n :: ns => .cons (.int n) (RepA.ofInts ns)
theorem sem_rem {K : PySem.W.Frag} (h : SemE K .fz te f) : SemS K m [] (tDrop (tBM K "list" rRemI (tVar j) (tCons te tNil))) (bRem j f) := by
  intro B F H σ ρ o D r hb q
  obtain ⟨ns, n, e1, e2, hl, rfl⟩ := rem_some hb
  obtain ⟨a, vs, h1, h2, h3, h4, h5⟩ := r.own e1
  have hvs := RepA.ints h5
  subst hvs
  refine ⟨_, h1, tyL h4, ?_⟩
  refine h B F H σ ρ _ _ r e2 fun v F1 H1 x1 r1 => ?_
  have h6 := x1.h _ _ h4
  obtain ⟨l, g1, g2, g3⟩ := first_pl hl
  have hF1 : F1 a = none := x1.keepNone h2 (by rw [h4]; exact fun z => nomatch z)
  have hv : v = .int n := r1.int
  refine ⟨a, ns, n, l, rfl, by rw [hv], h6, g1, g2, ?_⟩
  rw [g3]
  exact q σ F1 _ ((r.ext x1).write e1 h1 hF1 h3 ⟨(ns.erase n).map V.int, upd_same, RepA.ofInts _⟩) fun _ _ => rfl
theorem ds_rem {e : Expr} (he : DE X .fz e te f) (hN : X.N[j]? = some x := by rfl) (hv : Vis X.env.scope x := by first | exact Or.inl rfl | exact Or.inr (Or.inl rfl) | exact Or.inr (Or.inr rfl)) (hd : (x == ("__debug__" : Str)) = false := by decide) (hcd : (x == ("__classdict__" : Str)) = false := by decide)
    (hbase : attributeBase (.Name x pn) "remove" X.env (eval (.Name x pn) X.env) = eval (.Name x pn) X.env := by rfl)
    (hfew : ((backTo p (starEach [e] X.env)).all (fun x => !x.1) && (backToKw p (keywordEach [] X.env)).all (fun x => x.1.isSome)
      && decide ([e].length + ([] : List Keyword).length + (if ([] : List Keyword).isEmpty then 0 else 1) < 30)) = true := by rfl)
    (hline : (apos.endLine == p.line) = true := by rfl) (hs : starEach [e] X.env = (false, eval e X.env) :: starEach [] X.env := by rfl) (hsw : swapsWith (.Call (.Attribute (.Name x pn) "remove" apos) [e] [] p) none pos.line X.env = pure false := by rfl) :
    DS X m [] (.Expr (.Call (.Attribute (.Name x pn) "remove" apos) [e] [] p) pos) (tDrop (tBM X.K "list" rRemI (tVar j) (tCons te tNil))) (bRem j f) :=
  ⟨ps_expr (pe_bm PySem.F.plainAttrs_list PySem.F.slot_list_remove PySem.F.type_list_remove mt_remove (pe_var hN hv hd hcd) (pa_cons he.p pa_nil hs) hbase hfew hline hs rfl) hsw, sem_rem he.s⟩
@[simp] theorem bRem_l {ρ : Rho} {ns : List Int} : bRem j f ρ = (match ρ[j]? with
  | some (.ow (.list ds)) => (intsOf ds).bind fun ns => (f ρ).bind fun d => match d with
    | .int n => if n ∈ ns then some (.nx (ρ.set j (.ow (.list ((ns.erase n).map .int))))) else none
    | _ => none
  | _ => none) := rfl
@[simp] theorem bSwp_e {ρ : Rho} : bSwp j fi fk fs ρ = (fs ρ).bind fun ds => match ds with
  | [d, e] => (bSet j fi (fun _ => some d) ρ).bind fun o => match o with
    | .nx ρ' => bSet j fk (fun _ => some e) ρ'
    | _ => none
  | _ => none := rfl
end
end Q
end

/-! part: HeadK23 -/
section
set_option Elab.async false
set_option linter.all false
set_option maxRecDepth 100000
set_option maxHeartbeats 0
namespace Hd
open PySem PySem.Spec PyProof.Rows L2
def top (i : Nat) : Stmt := PySem.Challenge.pw_playground_k23_teams_even_and_picked.main.body.getD i (.Pass ⟨0, 0, 0, 0⟩)
abbrev s_need : Stmt := top 5
abbrev s_is_int : Stmt := top 6
abbrev s_is_seq : Stmt := top 7
abbrev s_is_within : Stmt := top 8
abbrev s_need_within : Stmt := top 9
abbrev s_is_told : Stmt := top 10
abbrev s_to_row : Stmt := top 11
abbrev s_to_pair : Stmt := top 12
abbrev s_to_ints : Stmt := top 13
abbrev s_to_skills : Stmt := top 15
abbrev s_canon : Stmt := top 16
abbrev s_to_numbers : Stmt := top 17
abbrev s_to_split : Stmt := top 18
abbrev s_to_split_for : Stmt := top 19
abbrev s_teams_in : Stmt := top 20
abbrev s_to_liking : Stmt := top 21
abbrev s_to_likings : Stmt := top 22
abbrev s_is_split : Stmt := top 24
abbrev s_sums_of : Stmt := top 25
abbrev s_strengths : Stmt := top 26
abbrev s_splits_into : Stmt := top 27
abbrev s_gap_of : Stmt := top 28
abbrev s_best_split : Stmt := top 29
abbrev s_sizes_alike : Stmt := top 30
abbrev s_even : Stmt := top 31
abbrev s_alike : Stmt := top 32
abbrev s_many_even : Stmt := top 33
abbrev s_chart : Stmt := top 34
abbrev s_chart_holds : Stmt := top 35
abbrev s_best_left : Stmt := top 36
abbrev s_picks_by : Stmt := top 37
abbrev s_honest : Stmt := top 38
abbrev s_picked : Stmt := top 39
abbrev s_behind : Stmt := top 40
abbrev s_worth : Stmt := top 41
abbrev s_reply_from : Stmt := top 42
abbrev s_best_reply : Stmt := top 43
abbrev s_renamed : Stmt := top 44
abbrev s_joined : Stmt := top 45
abbrev s_swapped : Stmt := top 46
abbrev s_even_sizes : Stmt := top 47
abbrev s__law_cell : Stmt := top 49
abbrev s__law_numbers : Stmt := top 50
abbrev s__law_listed : Stmt := top 51
abbrev s__law_same : Stmt := top 52
abbrev s__law_orders : Stmt := top 53
abbrev s__law_splits : Stmt := top 54
abbrev s__law_sums : Stmt := top 55
abbrev s__law_gap : Stmt := top 56
abbrev s__law_sizes : Stmt := top 57
abbrev s__law_named : Stmt := top 58
abbrev s__law_chart : Stmt := top 59
abbrev s__law_honest : Stmt := top 60
abbrev s__law_worth : Stmt := top 61
abbrev s__law_replies : Stmt := top 62
abbrev s__law_cycled : Stmt := top 63
abbrev s_law : Stmt := top 64
def d_need : He.DefD := ⟨("need", none), "need", "need", defArgs s_need, defBody s_need, defScope s_need, [], []⟩
def d_is_int : He.DefD := ⟨("is_int", none), "is_int", "is_int", defArgs s_is_int, defBody s_is_int, defScope s_is_int, [], []⟩
def d_is_seq : He.DefD := ⟨("is_seq", none), "is_seq", "is_seq", defArgs s_is_seq, defBody s_is_seq, defScope s_is_seq, [], []⟩
def d_is_within : He.DefD := ⟨("is_within", none), "is_within", "is_within", defArgs s_is_within, defBody s_is_within, defScope s_is_within, [], []⟩
def d_need_within : He.DefD := ⟨("need_within", none), "need_within", "need_within", defArgs s_need_within, defBody s_need_within, defScope s_need_within, [], []⟩
def d_is_told : He.DefD := ⟨("is_told", none), "is_told", "is_told", defArgs s_is_told, defBody s_is_told, defScope s_is_told, [], []⟩
def d_to_row : He.DefD := ⟨("to_row", none), "to_row", "to_row", defArgs s_to_row, defBody s_to_row, defScope s_to_row, [], []⟩
def d_to_pair : He.DefD := ⟨("to_pair", none), "to_pair", "to_pair", defArgs s_to_pair, defBody s_to_pair, defScope s_to_pair, [], []⟩
def d_to_ints : He.DefD := ⟨("to_ints", none), "to_ints", "to_ints", defArgs s_to_ints, defBody s_to_ints, defScope s_to_ints, [], []⟩
def d_to_skills : He.DefD := ⟨("to_skills", none), "to_skills", "to_skills", defArgs s_to_skills, defBody s_to_skills, defScope s_to_skills, [], []⟩
def d_canon : He.DefD := ⟨("canon", none), "canon", "canon", defArgs s_canon, defBody s_canon, defScope s_canon, [], []⟩
def d_to_numbers : He.DefD := ⟨("to_numbers", none), "to_numbers", "to_numbers", defArgs s_to_numbers, defBody s_to_numbers, defScope s_to_numbers, [], []⟩
def d_to_split : He.DefD := ⟨("to_split", none), "to_split", "to_split", defArgs s_to_split, defBody s_to_split, defScope s_to_split, [], []⟩
def d_to_split_for : He.DefD := ⟨("to_split_for", none), "to_split_for", "to_split_for", defArgs s_to_split_for, defBody s_to_split_for, defScope s_to_split_for, [], []⟩
def d_teams_in : He.DefD := ⟨("teams_in", none), "teams_in", "teams_in", defArgs s_teams_in, defBody s_teams_in, defScope s_teams_in, [], []⟩
def d_to_liking : He.DefD := ⟨("to_liking", none), "to_liking", "to_liking", defArgs s_to_liking, defBody s_to_liking, defScope s_to_liking, [], []⟩
def d_to_likings : He.DefD := ⟨("to_likings", none), "to_likings", "to_likings", defArgs s_to_likings, defBody s_to_likings, defScope s_to_likings, [], []⟩
def d_is_split : He.DefD := ⟨("is_split", none), "is_split", "is_split", defArgs s_is_split, defBody s_is_split, defScope s_is_split, [], []⟩
def d_sums_of : He.DefD := ⟨("sums_of", none), "sums_of", "sums_of", defArgs s_sums_of, defBody s_sums_of, defScope s_sums_of, [], []⟩
def d_strengths : He.DefD := ⟨("strengths", none), "strengths", "strengths", defArgs s_strengths, defBody s_strengths, defScope s_strengths, [], []⟩
def d_splits_into : He.DefD := ⟨("splits_into", none), "splits_into", "splits_into", defArgs s_splits_into, defBody s_splits_into, defScope s_splits_into, [], []⟩
def d_gap_of : He.DefD := ⟨("gap_of", none), "gap_of", "gap_of", defArgs s_gap_of, defBody s_gap_of, defScope s_gap_of, [], []⟩
def d_best_split : He.DefD := ⟨("best_split", none), "best_split", "best_split", defArgs s_best_split, defBody s_best_split, defScope s_best_split, [], []⟩
def d_sizes_alike : He.DefD := ⟨("sizes_alike", none), "sizes_alike", "sizes_alike", defArgs s_sizes_alike, defBody s_sizes_alike, defScope s_sizes_alike, [], []⟩
def d_even : He.DefD := ⟨("even", none), "even", "even", defArgs s_even, defBody s_even, defScope s_even, [], []⟩
def d_alike : He.DefD := ⟨("alike", none), "alike", "alike", defArgs s_alike, defBody s_alike, defScope s_alike, [], []⟩
def d_many_even : He.DefD := ⟨("many_even", none), "many_even", "many_even", defArgs s_many_even, defBody s_many_even, defScope s_many_even, [], []⟩
def d_chart : He.DefD := ⟨("chart", none), "chart", "chart", defArgs s_chart, defBody s_chart, defScope s_chart, [], []⟩
def d_chart_holds : He.DefD := ⟨("chart_holds", none), "chart_holds", "chart_holds", defArgs s_chart_holds, defBody s_chart_holds, defScope s_chart_holds, [], []⟩
def d_best_left : He.DefD := ⟨("best_left", none), "best_left", "best_left", defArgs s_best_left, defBody s_best_left, defScope s_best_left, [], []⟩
def d_picks_by : He.DefD := ⟨("picks_by", none), "picks_by", "picks_by", defArgs s_picks_by, defBody s_picks_by, defScope s_picks_by, [], []⟩
def d_honest : He.DefD := ⟨("honest", none), "honest", "honest", defArgs s_honest, defBody s_honest, defScope s_honest, [], []⟩
def d_picked : He.DefD := ⟨("picked", none), "picked", "picked", defArgs s_picked, defBody s_picked, defScope s_picked, [], []⟩
def d_behind : He.DefD := ⟨("behind", none), "behind", "behind", defArgs s_behind, defBody s_behind, defScope s_behind, [], []⟩
def d_worth : He.DefD := ⟨("worth", none), "worth", "worth", defArgs s_worth, defBody s_worth, defScope s_worth, [], []⟩
def d_reply_from : He.DefD := ⟨("reply_from", none), "reply_from", "reply_from", defArgs s_reply_from, defBody s_reply_from, defScope s_reply_from, [], []⟩
def d_best_reply : He.DefD := ⟨("best_reply", none), "best_reply", "best_reply", defArgs s_best_reply, defBody s_best_reply, defScope s_best_reply, [], []⟩
def d_renamed : He.DefD := ⟨("renamed", none), "renamed", "renamed", defArgs s_renamed, defBody s_renamed, defScope s_renamed, [], []⟩
def d_joined : He.DefD := ⟨("joined", none), "joined", "joined", defArgs s_joined, defBody s_joined, defScope s_joined, [], []⟩
def d_swapped : He.DefD := ⟨("swapped", none), "swapped", "swapped", defArgs s_swapped, defBody s_swapped, defScope s_swapped, [], []⟩
def d_even_sizes : He.DefD := ⟨("even_sizes", none), "even_sizes", "even_sizes", defArgs s_even_sizes, defBody s_even_sizes, defScope s_even_sizes, [], []⟩
def d__law_cell : He.DefD := ⟨("_law_cell", none), "_law_cell", "_law_cell", defArgs s__law_cell, defBody s__law_cell, defScope s__law_cell, [], []⟩
def d__law_numbers : He.DefD := ⟨("_law_numbers", none), "_law_numbers", "_law_numbers", defArgs s__law_numbers, defBody s__law_numbers, defScope s__law_numbers, [], []⟩
def d__law_listed : He.DefD := ⟨("_law_listed", none), "_law_listed", "_law_listed", defArgs s__law_listed, defBody s__law_listed, defScope s__law_listed, [], []⟩
def d__law_same : He.DefD := ⟨("_law_same", none), "_law_same", "_law_same", defArgs s__law_same, defBody s__law_same, defScope s__law_same, [], []⟩
def d__law_orders : He.DefD := ⟨("_law_orders", none), "_law_orders", "_law_orders", defArgs s__law_orders, defBody s__law_orders, defScope s__law_orders, [], []⟩
def d__law_splits : He.DefD := ⟨("_law_splits", none), "_law_splits", "_law_splits", defArgs s__law_splits, defBody s__law_splits, defScope s__law_splits, [], []⟩
def d__law_sums : He.DefD := ⟨("_law_sums", none), "_law_sums", "_law_sums", defArgs s__law_sums, defBody s__law_sums, defScope s__law_sums, [], []⟩
def d__law_gap : He.DefD := ⟨("_law_gap", none), "_law_gap", "_law_gap", defArgs s__law_gap, defBody s__law_gap, defScope s__law_gap, [], []⟩
def d__law_sizes : He.DefD := ⟨("_law_sizes", none), "_law_sizes", "_law_sizes", defArgs s__law_sizes, defBody s__law_sizes, defScope s__law_sizes, [], []⟩
def d__law_named : He.DefD := ⟨("_law_named", none), "_law_named", "_law_named", defArgs s__law_named, defBody s__law_named, defScope s__law_named, [], []⟩
def d__law_chart : He.DefD := ⟨("_law_chart", none), "_law_chart", "_law_chart", defArgs s__law_chart, defBody s__law_chart, defScope s__law_chart, [], []⟩
def d__law_honest : He.DefD := ⟨("_law_honest", none), "_law_honest", "_law_honest", defArgs s__law_honest, defBody s__law_honest, defScope s__law_honest, [], []⟩
def d__law_worth : He.DefD := ⟨("_law_worth", none), "_law_worth", "_law_worth", defArgs s__law_worth, defBody s__law_worth, defScope s__law_worth, [], []⟩
def d__law_replies : He.DefD := ⟨("_law_replies", none), "_law_replies", "_law_replies", defArgs s__law_replies, defBody s__law_replies, defScope s__law_replies, [], []⟩
def d__law_cycled : He.DefD := ⟨("_law_cycled", none), "_law_cycled", "_law_cycled", defArgs s__law_cycled, defBody s__law_cycled, defScope s__law_cycled, [], []⟩
def d_law : He.DefD := ⟨("law", none), "law", "law", defArgs s_law, defBody s_law, defScope s_law, [], []⟩
def fn_0 : List He.DefD := [d_need, d_is_int, d_is_seq, d_is_within, d_need_within, d_is_told, d_to_row, d_to_pair, d_to_ints, d_to_skills, d_canon, d_to_numbers, d_to_split, d_to_split_for, d_teams_in, d_to_liking, d_to_likings, d_is_split, d_sums_of, d_strengths]
def fn_1 : List He.DefD := [d_splits_into, d_gap_of, d_best_split, d_sizes_alike, d_even, d_alike, d_many_even, d_chart, d_chart_holds, d_best_left, d_picks_by, d_honest, d_picked, d_behind, d_worth, d_reply_from, d_best_reply, d_renamed, d_joined, d_swapped]
def fn_2 : List He.DefD := [d_even_sizes, d__law_cell, d__law_numbers, d__law_listed, d__law_same, d__law_orders, d__law_splits, d__law_sums, d__law_gap, d__law_sizes, d__law_named, d__law_chart, d__law_honest, d__law_worth, d__law_replies, d__law_cycled, d_law]
def fn : List He.DefD := fn_0 ++ fn_1 ++ fn_2
def fa_0 : List He.Fa := [.glo "need", .glo "is_int", .glo "is_seq", .glo "is_within", .glo "need_within", .glo "is_told", .glo "to_row", .glo "to_pair", .glo "to_ints", .glo "to_skills", .glo "canon", .glo "to_numbers", .glo "to_split", .glo "to_split_for", .glo "teams_in", .glo "to_liking", .glo "to_likings", .glo "is_split", .glo "sums_of", .glo "strengths"]
def fa_1 : List He.Fa := [.glo "splits_into", .glo "gap_of", .glo "best_split", .glo "sizes_alike", .glo "even", .glo "alike", .glo "many_even", .glo "chart", .glo "chart_holds", .glo "best_left", .glo "picks_by", .glo "honest", .glo "picked", .glo "behind", .glo "worth", .glo "reply_from", .glo "best_reply", .glo "renamed", .glo "joined", .glo "swapped"]
def fa_2 : List He.Fa := [.glo "even_sizes", .glo "_law_cell", .glo "_law_numbers", .glo "_law_listed", .glo "_law_same", .glo "_law_orders", .glo "_law_splits", .glo "_law_sums", .glo "_law_gap", .glo "_law_sizes", .glo "_law_named", .glo "_law_chart", .glo "_law_honest", .glo "_law_worth", .glo "_law_replies", .glo "_law_cycled", .glo "law", .free "Exception", .free "isinstance", .free "bool"]
def fa_3 : List He.Fa := [.free "int", .free "str", .free "enumerate", .free "tuple", .free "range", .free "list", .free "any", .free "sum", .free "sorted", .free "max", .free "min", .free "len", .free "all", .free "set"]
def fa : List He.Fa := fa_0 ++ fa_1 ++ fa_2 ++ fa_3
abbrev R : PySem.W.OpenRow := PySem.W.OpenLaw.row PySem.Challenge.rw_playground_k23_teams_even_and_picked
def ck : List Q.Ck := []
abbrev hk : PySem.W.Hook := Q.hookQ 7 fa fn ck
def ob (s : PySem.W.SharedT) : He.AlD × Bool := Q.obsQ 7 fa fn ck (HandSHeadRun.getT s)
theorem ob_eq (s : PySem.W.SharedT) : ob s = hk.obs s.abs := Q.obsQ_eq (HandSHeadRun.getT_eq s)
def loose_0 : List PySem.Str := ["PlayError", "BadValue", "TooMany", "need", "is_int", "is_seq", "is_within", "need_within", "is_told", "to_row", "to_pair", "to_ints", "to_skills", "canon", "to_numbers", "to_split", "to_split_for", "teams_in", "to_liking", "to_likings"]
def loose_1 : List PySem.Str := ["is_split", "sums_of", "strengths", "splits_into", "gap_of", "best_split", "sizes_alike", "even", "alike", "many_even", "chart", "chart_holds", "best_left", "picks_by", "honest", "picked", "behind", "worth", "reply_from", "best_reply"]
def loose_2 : List PySem.Str := ["renamed", "joined", "swapped", "even_sizes", "_law_cell", "_law_numbers", "_law_listed", "_law_same", "_law_orders", "_law_splits", "_law_sums", "_law_gap", "_law_sizes", "_law_named", "_law_chart", "_law_honest", "_law_worth", "_law_replies", "_law_cycled"]
def loose : List PySem.Str := loose_0 ++ loose_1 ++ loose_2
theorem run (w : World) : HandSHeadRun.RunEq R (PySem.W.view R.prog [64]) hk ob 4000 loose w := by
  intro os
  kernel_rfl
end Hd
end

/-! part: DenK23 -/
section
set_option Elab.async false
set_option linter.all false
set_option maxRecDepth 100000
set_option maxHeartbeats 0
namespace Hd
open PySem PySem.Spec PySem.Calls PyProof.Rows L2 Q
/-- what the head tells -/
structure Fx (K : PySem.W.Frag) (mg : Str → Option Value) : Prop where
  f__law_splits : ∃ fd, FunD K "_law_splits" "_law_splits" (defArgs s__law_splits) (defBody s__law_splits) (defScope s__law_splits) [] [] (He.ga K "_law_splits") fd
  f__law_chart : ∃ fd, FunD K "_law_chart" "_law_chart" (defArgs s__law_chart) (defBody s__law_chart) (defScope s__law_chart) [] [] (He.ga K "_law_chart") fd
  f__law_listed : ∃ fd, FunD K "_law_listed" "_law_listed" (defArgs s__law_listed) (defBody s__law_listed) (defScope s__law_listed) [] [] (He.ga K "_law_listed") fd
  f__law_honest : ∃ fd, FunD K "_law_honest" "_law_honest" (defArgs s__law_honest) (defBody s__law_honest) (defScope s__law_honest) [] [] (He.ga K "_law_honest") fd
  f__law_same : ∃ fd, FunD K "_law_same" "_law_same" (defArgs s__law_same) (defBody s__law_same) (defScope s__law_same) [] [] (He.ga K "_law_same") fd
  f__law_cell : ∃ fd, FunD K "_law_cell" "_law_cell" (defArgs s__law_cell) (defBody s__law_cell) (defScope s__law_cell) [] [] (He.ga K "_law_cell") fd
  f__law_orders : ∃ fd, FunD K "_law_orders" "_law_orders" (defArgs s__law_orders) (defBody s__law_orders) (defScope s__law_orders) [] [] (He.ga K "_law_orders") fd
  f__law_cycled : ∃ fd, FunD K "_law_cycled" "_law_cycled" (defArgs s__law_cycled) (defBody s__law_cycled) (defScope s__law_cycled) [] [] (He.ga K "_law_cycled") fd
  f__law_sizes : ∃ fd, FunD K "_law_sizes" "_law_sizes" (defArgs s__law_sizes) (defBody s__law_sizes) (defScope s__law_sizes) [] [] (He.ga K "_law_sizes") fd
  f_need : ∃ fd, FunD K "need" "need" (defArgs s_need) (defBody s_need) (defScope s_need) [] [] (He.ga K "need") fd
  f_is_int : ∃ fd, FunD K "is_int" "is_int" (defArgs s_is_int) (defBody s_is_int) (defScope s_is_int) [] [] (He.ga K "is_int") fd
  f_is_within : ∃ fd, FunD K "is_within" "is_within" (defArgs s_is_within) (defBody s_is_within) (defScope s_is_within) [] [] (He.ga K "is_within") fd
  f_need_within : ∃ fd, FunD K "need_within" "need_within" (defArgs s_need_within) (defBody s_need_within) (defScope s_need_within) [] [] (He.ga K "need_within") fd
  f_is_seq : ∃ fd, FunD K "is_seq" "is_seq" (defArgs s_is_seq) (defBody s_is_seq) (defScope s_is_seq) [] [] (He.ga K "is_seq") fd
  f_to_row : ∃ fd, FunD K "to_row" "to_row" (defArgs s_to_row) (defBody s_to_row) (defScope s_to_row) [] [] (He.ga K "to_row") fd
  f_to_ints : ∃ fd, FunD K "to_ints" "to_ints" (defArgs s_to_ints) (defBody s_to_ints) (defScope s_to_ints) [] [] (He.ga K "to_ints") fd
  f_to_skills : ∃ fd, FunD K "to_skills" "to_skills" (defArgs s_to_skills) (defBody s_to_skills) (defScope s_to_skills) [] [] (He.ga K "to_skills") fd
  f_teams_in : ∃ fd, FunD K "teams_in" "teams_in" (defArgs s_teams_in) (defBody s_teams_in) (defScope s_teams_in) [] [] (He.ga K "teams_in") fd
  f_sums_of : ∃ fd, FunD K "sums_of" "sums_of" (defArgs s_sums_of) (defBody s_sums_of) (defScope s_sums_of) [] [] (He.ga K "sums_of") fd
  f_gap_of : ∃ fd, FunD K "gap_of" "gap_of" (defArgs s_gap_of) (defBody s_gap_of) (defScope s_gap_of) [] [] (He.ga K "gap_of") fd
  f_splits_into : ∃ fd, FunD K "splits_into" "splits_into" (defArgs s_splits_into) (defBody s_splits_into) (defScope s_splits_into) [] [] (He.ga K "splits_into") fd
  f_many_even : ∃ fd, FunD K "many_even" "many_even" (defArgs s_many_even) (defBody s_many_even) (defScope s_many_even) [] [] (He.ga K "many_even") fd
  f_is_told : ∃ fd, FunD K "is_told" "is_told" (defArgs s_is_told) (defBody s_is_told) (defScope s_is_told) [] [] (He.ga K "is_told") fd
  f_chart : ∃ fd, FunD K "chart" "chart" (defArgs s_chart) (defBody s_chart) (defScope s_chart) [] [] (He.ga K "chart") fd
  f_chart_holds : ∃ fd, FunD K "chart_holds" "chart_holds" (defArgs s_chart_holds) (defBody s_chart_holds) (defScope s_chart_holds) [] [] (He.ga K "chart_holds") fd
  f_best_left : ∃ fd, FunD K "best_left" "best_left" (defArgs s_best_left) (defBody s_best_left) (defScope s_best_left) [] [] (He.ga K "best_left") fd
  f_picks_by : ∃ fd, FunD K "picks_by" "picks_by" (defArgs s_picks_by) (defBody s_picks_by) (defScope s_picks_by) [] [] (He.ga K "picks_by") fd
  f_to_pair : ∃ fd, FunD K "to_pair" "to_pair" (defArgs s_to_pair) (defBody s_to_pair) (defScope s_to_pair) [] [] (He.ga K "to_pair") fd
  f_to_liking : ∃ fd, FunD K "to_liking" "to_liking" (defArgs s_to_liking) (defBody s_to_liking) (defScope s_to_liking) [] [] (He.ga K "to_liking") fd
  f_to_likings : ∃ fd, FunD K "to_likings" "to_likings" (defArgs s_to_likings) (defBody s_to_likings) (defScope s_to_likings) [] [] (He.ga K "to_likings") fd
  f_picked : ∃ fd, FunD K "picked" "picked" (defArgs s_picked) (defBody s_picked) (defScope s_picked) [] [] (He.ga K "picked") fd
  f__law_worth : ∃ fd, FunD K "_law_worth" "_law_worth" (defArgs s__law_worth) (defBody s__law_worth) (defScope s__law_worth) [] [] (He.ga K "_law_worth") fd
  f__law_replies : ∃ fd, FunD K "_law_replies" "_law_replies" (defArgs s__law_replies) (defBody s__law_replies) (defScope s__law_replies) [] [] (He.ga K "_law_replies") fd
  f__law_numbers : ∃ fd, FunD K "_law_numbers" "_law_numbers" (defArgs s__law_numbers) (defBody s__law_numbers) (defScope s__law_numbers) [] [] (He.ga K "_law_numbers") fd
  f__law_sums : ∃ fd, FunD K "_law_sums" "_law_sums" (defArgs s__law_sums) (defBody s__law_sums) (defScope s__law_sums) [] [] (He.ga K "_law_sums") fd
  f__law_gap : ∃ fd, FunD K "_law_gap" "_law_gap" (defArgs s__law_gap) (defBody s__law_gap) (defScope s__law_gap) [] [] (He.ga K "_law_gap") fd
  f_best_split : ∃ fd, FunD K "best_split" "best_split" (defArgs s_best_split) (defBody s_best_split) (defScope s_best_split) [] [] (He.ga K "best_split") fd
  f_even : ∃ fd, FunD K "even" "even" (defArgs s_even) (defBody s_even) (defScope s_even) [] [] (He.ga K "even") fd
  f_sizes_alike : ∃ fd, FunD K "sizes_alike" "sizes_alike" (defArgs s_sizes_alike) (defBody s_sizes_alike) (defScope s_sizes_alike) [] [] (He.ga K "sizes_alike") fd
  f_alike : ∃ fd, FunD K "alike" "alike" (defArgs s_alike) (defBody s_alike) (defScope s_alike) [] [] (He.ga K "alike") fd
  f_to_numbers : ∃ fd, FunD K "to_numbers" "to_numbers" (defArgs s_to_numbers) (defBody s_to_numbers) (defScope s_to_numbers) [] [] (He.ga K "to_numbers") fd
  f_canon : ∃ fd, FunD K "canon" "canon" (defArgs s_canon) (defBody s_canon) (defScope s_canon) [] [] (He.ga K "canon") fd
  f_to_split : ∃ fd, FunD K "to_split" "to_split" (defArgs s_to_split) (defBody s_to_split) (defScope s_to_split) [] [] (He.ga K "to_split") fd
  f_to_split_for : ∃ fd, FunD K "to_split_for" "to_split_for" (defArgs s_to_split_for) (defBody s_to_split_for) (defScope s_to_split_for) [] [] (He.ga K "to_split_for") fd
  f_is_split : ∃ fd, FunD K "is_split" "is_split" (defArgs s_is_split) (defBody s_is_split) (defScope s_is_split) [] [] (He.ga K "is_split") fd
  f_honest : ∃ fd, FunD K "honest" "honest" (defArgs s_honest) (defBody s_honest) (defScope s_honest) [] [] (He.ga K "honest") fd
  f_behind : ∃ fd, FunD K "behind" "behind" (defArgs s_behind) (defBody s_behind) (defScope s_behind) [] [] (He.ga K "behind") fd
  f_worth : ∃ fd, FunD K "worth" "worth" (defArgs s_worth) (defBody s_worth) (defScope s_worth) [] [] (He.ga K "worth") fd
  f_strengths : ∃ fd, FunD K "strengths" "strengths" (defArgs s_strengths) (defBody s_strengths) (defScope s_strengths) [] [] (He.ga K "strengths") fd
  f_even_sizes : ∃ fd, FunD K "even_sizes" "even_sizes" (defArgs s_even_sizes) (defBody s_even_sizes) (defScope s_even_sizes) [] [] (He.ga K "even_sizes") fd
  f_renamed : ∃ fd, FunD K "renamed" "renamed" (defArgs s_renamed) (defBody s_renamed) (defScope s_renamed) [] [] (He.ga K "renamed") fd
  f__law_named : ∃ fd, FunD K "_law_named" "_law_named" (defArgs s__law_named) (defBody s__law_named) (defScope s__law_named) [] [] (He.ga K "_law_named") fd
  f_swapped : ∃ fd, FunD K "swapped" "swapped" (defArgs s_swapped) (defBody s_swapped) (defScope s_swapped) [] [] (He.ga K "swapped") fd
  f_joined : ∃ fd, FunD K "joined" "joined" (defArgs s_joined) (defBody s_joined) (defScope s_joined) [] [] (He.ga K "joined") fd
  f_reply_from : ∃ fd, FunD K "reply_from" "reply_from" (defArgs s_reply_from) (defBody s_reply_from) (defScope s_reply_from) [] [] (He.ga K "reply_from") fd
  f_best_reply : ∃ fd, FunD K "best_reply" "best_reply" (defArgs s_best_reply) (defBody s_best_reply) (defScope s_best_reply) [] [] (He.ga K "best_reply") fd
  f_law : ∃ fd, FunD K "law" "law" (defArgs s_law) (defBody s_law) (defScope s_law) [] [] (He.ga K "law") fd
  g__law_splits : mg "_law_splits" = some (.ref (He.ga K "_law_splits"))
  g__law_chart : mg "_law_chart" = some (.ref (He.ga K "_law_chart"))
  g__law_listed : mg "_law_listed" = some (.ref (He.ga K "_law_listed"))
  g__law_honest : mg "_law_honest" = some (.ref (He.ga K "_law_honest"))
  g__law_same : mg "_law_same" = some (.ref (He.ga K "_law_same"))
  g__law_cell : mg "_law_cell" = some (.ref (He.ga K "_law_cell"))
  g__law_orders : mg "_law_orders" = some (.ref (He.ga K "_law_orders"))
  g__law_cycled : mg "_law_cycled" = some (.ref (He.ga K "_law_cycled"))
  g__law_sizes : mg "_law_sizes" = some (.ref (He.ga K "_law_sizes"))
  g_need : mg "need" = some (.ref (He.ga K "need"))
  g_is_int : mg "is_int" = some (.ref (He.ga K "is_int"))
  g_is_within : mg "is_within" = some (.ref (He.ga K "is_within"))
  g_need_within : mg "need_within" = some (.ref (He.ga K "need_within"))
  g_is_seq : mg "is_seq" = some (.ref (He.ga K "is_seq"))
  g_to_row : mg "to_row" = some (.ref (He.ga K "to_row"))
  g_to_ints : mg "to_ints" = some (.ref (He.ga K "to_ints"))
  g_to_skills : mg "to_skills" = some (.ref (He.ga K "to_skills"))
  g_teams_in : mg "teams_in" = some (.ref (He.ga K "teams_in"))
  g_sums_of : mg "sums_of" = some (.ref (He.ga K "sums_of"))
  g_gap_of : mg "gap_of" = some (.ref (He.ga K "gap_of"))
  g_splits_into : mg "splits_into" = some (.ref (He.ga K "splits_into"))
  g_many_even : mg "many_even" = some (.ref (He.ga K "many_even"))
  g_is_told : mg "is_told" = some (.ref (He.ga K "is_told"))
  g_chart : mg "chart" = some (.ref (He.ga K "chart"))
  g_chart_holds : mg "chart_holds" = some (.ref (He.ga K "chart_holds"))
  g_best_left : mg "best_left" = some (.ref (He.ga K "best_left"))
  g_picks_by : mg "picks_by" = some (.ref (He.ga K "picks_by"))
  g_to_pair : mg "to_pair" = some (.ref (He.ga K "to_pair"))
  g_to_liking : mg "to_liking" = some (.ref (He.ga K "to_liking"))
  g_to_likings : mg "to_likings" = some (.ref (He.ga K "to_likings"))
  g_picked : mg "picked" = some (.ref (He.ga K "picked"))
  g__law_worth : mg "_law_worth" = some (.ref (He.ga K "_law_worth"))
  g__law_replies : mg "_law_replies" = some (.ref (He.ga K "_law_replies"))
  g__law_numbers : mg "_law_numbers" = some (.ref (He.ga K "_law_numbers"))
  g__law_sums : mg "_law_sums" = some (.ref (He.ga K "_law_sums"))
  g__law_gap : mg "_law_gap" = some (.ref (He.ga K "_law_gap"))
  g_best_split : mg "best_split" = some (.ref (He.ga K "best_split"))
  g_even : mg "even" = some (.ref (He.ga K "even"))
  g_sizes_alike : mg "sizes_alike" = some (.ref (He.ga K "sizes_alike"))
  g_alike : mg "alike" = some (.ref (He.ga K "alike"))
  g_to_numbers : mg "to_numbers" = some (.ref (He.ga K "to_numbers"))
  g_canon : mg "canon" = some (.ref (He.ga K "canon"))
  g_to_split : mg "to_split" = some (.ref (He.ga K "to_split"))
  g_to_split_for : mg "to_split_for" = some (.ref (He.ga K "to_split_for"))
  g_is_split : mg "is_split" = some (.ref (He.ga K "is_split"))
  g_honest : mg "honest" = some (.ref (He.ga K "honest"))
  g_behind : mg "behind" = some (.ref (He.ga K "behind"))
  g_worth : mg "worth" = some (.ref (He.ga K "worth"))
  g_strengths : mg "strengths" = some (.ref (He.ga K "strengths"))
  g_even_sizes : mg "even_sizes" = some (.ref (He.ga K "even_sizes"))
  g_renamed : mg "renamed" = some (.ref (He.ga K "renamed"))
  g__law_named : mg "_law_named" = some (.ref (He.ga K "_law_named"))
  g_swapped : mg "swapped" = some (.ref (He.ga K "swapped"))
  g_joined : mg "joined" = some (.ref (He.ga K "joined"))
  g_reply_from : mg "reply_from" = some (.ref (He.ga K "reply_from"))
  g_best_reply : mg "best_reply" = some (.ref (He.ga K "best_reply"))
  g_law : mg "law" = some (.ref (He.ga K "law"))
  n_Exception : mg "Exception" = none
  n_isinstance : mg "isinstance" = none
  n_bool : mg "bool" = none
  n_int : mg "int" = none
  n_str : mg "str" = none
  n_enumerate : mg "enumerate" = none
  n_tuple : mg "tuple" = none
  n_range : mg "range" = none
  n_list : mg "list" = none
  n_any : mg "any" = none
  n_sum : mg "sum" = none
  n_sorted : mg "sorted" = none
  n_max : mg "max" = none
  n_min : mg "min" = none
  n_len : mg "len" = none
  n_all : mg "all" = none
  n_set : mg "set" = none
theorem fx_ok {K : PySem.W.Frag} {h : Heap} {mg : Str → Option Value} (X : K.In h) (G : h.Ns mainGlobals mg) (c : He.SaysD fa fn K) (c2 : (ck.all fun c => c.ok K) = true) : Fx K mg where
  f__law_splits := c.def_ 46 (d := d__law_splits) rfl
  f__law_chart := c.def_ 51 (d := d__law_chart) rfl
  f__law_listed := c.def_ 43 (d := d__law_listed) rfl
  f__law_honest := c.def_ 52 (d := d__law_honest) rfl
  f__law_same := c.def_ 44 (d := d__law_same) rfl
  f__law_cell := c.def_ 41 (d := d__law_cell) rfl
  f__law_orders := c.def_ 45 (d := d__law_orders) rfl
  f__law_cycled := c.def_ 55 (d := d__law_cycled) rfl
  f__law_sizes := c.def_ 49 (d := d__law_sizes) rfl
  f_need := c.def_ 0 (d := d_need) rfl
  f_is_int := c.def_ 1 (d := d_is_int) rfl
  f_is_within := c.def_ 3 (d := d_is_within) rfl
  f_need_within := c.def_ 4 (d := d_need_within) rfl
  f_is_seq := c.def_ 2 (d := d_is_seq) rfl
  f_to_row := c.def_ 6 (d := d_to_row) rfl
  f_to_ints := c.def_ 8 (d := d_to_ints) rfl
  f_to_skills := c.def_ 9 (d := d_to_skills) rfl
  f_teams_in := c.def_ 14 (d := d_teams_in) rfl
  f_sums_of := c.def_ 18 (d := d_sums_of) rfl
  f_gap_of := c.def_ 21 (d := d_gap_of) rfl
  f_splits_into := c.def_ 20 (d := d_splits_into) rfl
  f_many_even := c.def_ 26 (d := d_many_even) rfl
  f_is_told := c.def_ 5 (d := d_is_told) rfl
  f_chart := c.def_ 27 (d := d_chart) rfl
  f_chart_holds := c.def_ 28 (d := d_chart_holds) rfl
  f_best_left := c.def_ 29 (d := d_best_left) rfl
  f_picks_by := c.def_ 30 (d := d_picks_by) rfl
  f_to_pair := c.def_ 7 (d := d_to_pair) rfl
  f_to_liking := c.def_ 15 (d := d_to_liking) rfl
  f_to_likings := c.def_ 16 (d := d_to_likings) rfl
  f_picked := c.def_ 32 (d := d_picked) rfl
  f__law_worth := c.def_ 53 (d := d__law_worth) rfl
  f__law_replies := c.def_ 54 (d := d__law_replies) rfl
  f__law_numbers := c.def_ 42 (d := d__law_numbers) rfl
  f__law_sums := c.def_ 47 (d := d__law_sums) rfl
  f__law_gap := c.def_ 48 (d := d__law_gap) rfl
  f_best_split := c.def_ 22 (d := d_best_split) rfl
  f_even := c.def_ 24 (d := d_even) rfl
  f_sizes_alike := c.def_ 23 (d := d_sizes_alike) rfl
  f_alike := c.def_ 25 (d := d_alike) rfl
  f_to_numbers := c.def_ 11 (d := d_to_numbers) rfl
  f_canon := c.def_ 10 (d := d_canon) rfl
  f_to_split := c.def_ 12 (d := d_to_split) rfl
  f_to_split_for := c.def_ 13 (d := d_to_split_for) rfl
  f_is_split := c.def_ 17 (d := d_is_split) rfl
  f_honest := c.def_ 31 (d := d_honest) rfl
  f_behind := c.def_ 33 (d := d_behind) rfl
  f_worth := c.def_ 34 (d := d_worth) rfl
  f_strengths := c.def_ 19 (d := d_strengths) rfl
  f_even_sizes := c.def_ 40 (d := d_even_sizes) rfl
  f_renamed := c.def_ 37 (d := d_renamed) rfl
  f__law_named := c.def_ 50 (d := d__law_named) rfl
  f_swapped := c.def_ 39 (d := d_swapped) rfl
  f_joined := c.def_ 38 (d := d_joined) rfl
  f_reply_from := c.def_ 35 (d := d_reply_from) rfl
  f_best_reply := c.def_ 36 (d := d_best_reply) rfl
  f_law := c.def_ 56 (d := d_law) rfl
  g__law_splits := He.glo_ok X G (c.fact 46 (f := .glo "_law_splits") rfl)
  g__law_chart := He.glo_ok X G (c.fact 51 (f := .glo "_law_chart") rfl)
  g__law_listed := He.glo_ok X G (c.fact 43 (f := .glo "_law_listed") rfl)
  g__law_honest := He.glo_ok X G (c.fact 52 (f := .glo "_law_honest") rfl)
  g__law_same := He.glo_ok X G (c.fact 44 (f := .glo "_law_same") rfl)
  g__law_cell := He.glo_ok X G (c.fact 41 (f := .glo "_law_cell") rfl)
  g__law_orders := He.glo_ok X G (c.fact 45 (f := .glo "_law_orders") rfl)
  g__law_cycled := He.glo_ok X G (c.fact 55 (f := .glo "_law_cycled") rfl)
  g__law_sizes := He.glo_ok X G (c.fact 49 (f := .glo "_law_sizes") rfl)
  g_need := He.glo_ok X G (c.fact 0 (f := .glo "need") rfl)
  g_is_int := He.glo_ok X G (c.fact 1 (f := .glo "is_int") rfl)
  g_is_within := He.glo_ok X G (c.fact 3 (f := .glo "is_within") rfl)
  g_need_within := He.glo_ok X G (c.fact 4 (f := .glo "need_within") rfl)
  g_is_seq := He.glo_ok X G (c.fact 2 (f := .glo "is_seq") rfl)
  g_to_row := He.glo_ok X G (c.fact 6 (f := .glo "to_row") rfl)
  g_to_ints := He.glo_ok X G (c.fact 8 (f := .glo "to_ints") rfl)
  g_to_skills := He.glo_ok X G (c.fact 9 (f := .glo "to_skills") rfl)
  g_teams_in := He.glo_ok X G (c.fact 14 (f := .glo "teams_in") rfl)
  g_sums_of := He.glo_ok X G (c.fact 18 (f := .glo "sums_of") rfl)
  g_gap_of := He.glo_ok X G (c.fact 21 (f := .glo "gap_of") rfl)
  g_splits_into := He.glo_ok X G (c.fact 20 (f := .glo "splits_into") rfl)
  g_many_even := He.glo_ok X G (c.fact 26 (f := .glo "many_even") rfl)
  g_is_told := He.glo_ok X G (c.fact 5 (f := .glo "is_told") rfl)
  g_chart := He.glo_ok X G (c.fact 27 (f := .glo "chart") rfl)
  g_chart_holds := He.glo_ok X G (c.fact 28 (f := .glo "chart_holds") rfl)
  g_best_left := He.glo_ok X G (c.fact 29 (f := .glo "best_left") rfl)
  g_picks_by := He.glo_ok X G (c.fact 30 (f := .glo "picks_by") rfl)
  g_to_pair := He.glo_ok X G (c.fact 7 (f := .glo "to_pair") rfl)
  g_to_liking := He.glo_ok X G (c.fact 15 (f := .glo "to_liking") rfl)
  g_to_likings := He.glo_ok X G (c.fact 16 (f := .glo "to_likings") rfl)
  g_picked := He.glo_ok X G (c.fact 32 (f := .glo "picked") rfl)
  g__law_worth := He.glo_ok X G (c.fact 53 (f := .glo "_law_worth") rfl)
  g__law_replies := He.glo_ok X G (c.fact 54 (f := .glo "_law_replies") rfl)
  g__law_numbers := He.glo_ok X G (c.fact 42 (f := .glo "_law_numbers") rfl)
  g__law_sums := He.glo_ok X G (c.fact 47 (f := .glo "_law_sums") rfl)
  g__law_gap := He.glo_ok X G (c.fact 48 (f := .glo "_law_gap") rfl)
  g_best_split := He.glo_ok X G (c.fact 22 (f := .glo "best_split") rfl)
  g_even := He.glo_ok X G (c.fact 24 (f := .glo "even") rfl)
  g_sizes_alike := He.glo_ok X G (c.fact 23 (f := .glo "sizes_alike") rfl)
  g_alike := He.glo_ok X G (c.fact 25 (f := .glo "alike") rfl)
  g_to_numbers := He.glo_ok X G (c.fact 11 (f := .glo "to_numbers") rfl)
  g_canon := He.glo_ok X G (c.fact 10 (f := .glo "canon") rfl)
  g_to_split := He.glo_ok X G (c.fact 12 (f := .glo "to_split") rfl)
  g_to_split_for := He.glo_ok X G (c.fact 13 (f := .glo "to_split_for") rfl)
  g_is_split := He.glo_ok X G (c.fact 17 (f := .glo "is_split") rfl)
  g_honest := He.glo_ok X G (c.fact 31 (f := .glo "honest") rfl)
  g_behind := He.glo_ok X G (c.fact 33 (f := .glo "behind") rfl)
  g_worth := He.glo_ok X G (c.fact 34 (f := .glo "worth") rfl)
  g_strengths := He.glo_ok X G (c.fact 19 (f := .glo "strengths") rfl)
  g_even_sizes := He.glo_ok X G (c.fact 40 (f := .glo "even_sizes") rfl)
  g_renamed := He.glo_ok X G (c.fact 37 (f := .glo "renamed") rfl)
  g__law_named := He.glo_ok X G (c.fact 50 (f := .glo "_law_named") rfl)
  g_swapped := He.glo_ok X G (c.fact 39 (f := .glo "swapped") rfl)
  g_joined := He.glo_ok X G (c.fact 38 (f := .glo "joined") rfl)
  g_reply_from := He.glo_ok X G (c.fact 35 (f := .glo "reply_from") rfl)
  g_best_reply := He.glo_ok X G (c.fact 36 (f := .glo "best_reply") rfl)
  g_law := He.glo_ok X G (c.fact 56 (f := .glo "law") rfl)
  n_Exception := He.free_ok X G (c.fact 57 (f := .free "Exception") rfl)
  n_isinstance := He.free_ok X G (c.fact 58 (f := .free "isinstance") rfl)
  n_bool := He.free_ok X G (c.fact 59 (f := .free "bool") rfl)
  n_int := He.free_ok X G (c.fact 60 (f := .free "int") rfl)
  n_str := He.free_ok X G (c.fact 61 (f := .free "str") rfl)
  n_enumerate := He.free_ok X G (c.fact 62 (f := .free "enumerate") rfl)
  n_tuple := He.free_ok X G (c.fact 63 (f := .free "tuple") rfl)
  n_range := He.free_ok X G (c.fact 64 (f := .free "range") rfl)
  n_list := He.free_ok X G (c.fact 65 (f := .free "list") rfl)
  n_any := He.free_ok X G (c.fact 66 (f := .free "any") rfl)
  n_sum := He.free_ok X G (c.fact 67 (f := .free "sum") rfl)
  n_sorted := He.free_ok X G (c.fact 68 (f := .free "sorted") rfl)
  n_max := He.free_ok X G (c.fact 69 (f := .free "max") rfl)
  n_min := He.free_ok X G (c.fact 70 (f := .free "min") rfl)
  n_len := He.free_ok X G (c.fact 71 (f := .free "len") rfl)
  n_all := He.free_ok X G (c.fact 72 (f := .free "all") rfl)
  n_set := He.free_ok X G (c.fact 73 (f := .free "set") rfl)
section
variable {P : Program} {w : World} {K : PySem.W.Frag} {mg : Str → Option Value} {base : Heap}
abbrev N__law_splits : List Str := ["size", "teams", "rows", "k", "longer", "row", "team"]
theorem sc__law_splits : FnScope N__law_splits ["size", "teams"] (defScope s__law_splits) := ⟨rfl, rfl, rfl, by decide +kernel, rfl, by decide +kernel, by decide +kernel⟩
def L__law_splits_1 : Bd := bAsg 4 (f2 addD (vF 4) (fLc (fIs rg1D (aCons (fB min2D (aCons (vF 1) (aCons (f2 addD (fB maxA (aCons (vF 5) (aNil))) (cD (.int 2))) (aNil)))) (aNil))) (sN 6) (fYes) (f2 addD (vF 5) (fTup (aCons (vF 6) (aNil)))) [6]))
def L__law_splits_2 : Bd := bSeq (bAsg 4 (fLst (aNil))) (bSeq (bFor (fI (vF 2)) (sN 5) (L__law_splits_1)) (bAsg 2 (vF 4)))
theorem bi__law_splits : ∀ (kV doc pm : Value) (an : Option Addr) (cdv ct : Value) (us : List Value), us.length = (["size", "teams"] : List Str).length → bindArgs (PySem.W.fnOf "_law_splits" "_law_splits" (defArgs s__law_splits) (defBody s__law_splits) (defScope s__law_splits) .none kV doc pm an cdv ct) ⟨us, []⟩ = pure ((["size", "teams"] : List Str).zip us) :=
  fun _ _ _ _ _ _ us hl => match us, hl with | [_, _], _ => rfl
def b__law_splits : Bd := bSeq (bAsg 2 (fLst (aCons (fTup (aCons (cD (.int 0)) (aNil))) (aNil)))) (bSeq (bFor (fIs rg2D (aCons (cD (.int 1)) (aCons (vF 0) (aNil)))) (sN 3) (L__law_splits_2)) (bRet (fLc (fI (vF 2)) (sN 5) (fT (f2 eqD (fB maxA (aCons (vF 5) (aNil))) (f2 subD (vF 1) (cD (.int 1))))) (vF 5) [5])))
def Ph__law_splits : List D → Option D := fnR (N__law_splits).length (["size", "teams"] : List Str).length b__law_splits
theorem dd__law_splits (Z : Fx K mg) (cdv : Value) (A : Around) (outer : List Env) (s : Shared) (H : Hp) (E : XK) (hr : Room (0) (A.deeper (envOfC "_law_splits" (defScope s__law_splits) s.heap.objs.size (He.ga K "_law_splits") cdv))) :
    ∃ W t, DSs (cxOf CX0 P w K mg base N__law_splits "_law_splits" (defScope s__law_splits) (He.ga K "_law_splits") cdv A outer s H E).nox .fr W (defBody s__law_splits) t (b__law_splits) := ⟨_, _,
  dss_cons (ds_asg (i := 2) (DE.frz (de_lst (da_cons (de_tup (da_cons (de_int) (da_nil))) (da_nil)))) sc__law_splits.nd) (dss_cons (ds_for (di_rg2 rfl Z.n_range (da_cons (de_int) (da_cons (de_v 0) (da_nil)))) (dg_n sc__law_splits.nd (i := 3)) (dss_cons (ds_asg (i := 4) (DE.frz (de_lst (da_nil))) sc__law_splits.nd) (dss_cons (ds_for (di_anyK K (de_v 2)) (dg_n sc__law_splits.nd (i := 5)) (dss_one (ds_asg (i := 4) (de_op (op_addAK K) ops_addA (de_v 4) (de_lc [("team", 6)] sc__law_splits.nd (di_rg1 rfl Z.n_range (da_cons (de_cb (call_min2 rfl) cs_min2 rfl Z.n_min bt_min (da_cons (de_v 1) (da_cons (de_op (op_addAK K) ops_addA (de_cb (cr_maxAK K rfl hr.u70) cs_maxA rfl Z.n_max bt_max (da_cons (de_v 5) (da_nil))) (de_int)) (da_nil)))) (da_nil))) (blk_of (N := N__law_splits) (sc := defScope s__law_splits) (by decide +kernel)) (fun _ _ _ _ _ => dg_n sc__law_splits.nd (i := 6)) (fun _ _ _ _ _ => dts_nil) (fun _ _ _ _ _ => de_op (op_addAK K) ops_addA (de_v 5) (de_tup (da_cons (de_v 6) (da_nil)))) (by decide))) sc__law_splits.nd))) (dss_one (ds_asg (i := 2) (de_v 4) sc__law_splits.nd))))) (dss_one (ds_ret (de_lc [("row", 5)] sc__law_splits.nd (di_anyK K (de_v 2)) (blk_of (N := N__law_splits) (sc := defScope s__law_splits) (by decide +kernel)) (fun _ _ _ _ _ => dg_n sc__law_splits.nd (i := 5)) (fun _ _ _ _ _ => dts_one (dt_cmp (op_eqDK K hr.u64) ops_eq rfl (de_cb (cr_maxAK K rfl hr.u70) cs_maxA rfl Z.n_max bt_max (da_cons (de_v 5) (da_nil))) (de_op op_sub ops_sub (de_v 1) (de_int)))) (fun _ _ _ _ _ => de_v 5) (by decide)))))⟩
theorem ok__law_splits (Z : Fx K mg) : Ok P w K mg base 1 "_law_splits" ["size", "teams"] .fr Ph__law_splits := by
  obtain ⟨fd, F⟩ := Z.f__law_splits
  exact ok_fr (P := P) (w := w) (mg := mg) (base := base) (b := b__law_splits) (k := 0) (N := N__law_splits) F sc__law_splits bi__law_splits Z.g__law_splits (dd__law_splits Z)
abbrev N__law_chart : List Str := ["skills", "rows", "skill", "more", "row", "one"]
theorem sc__law_chart : FnScope N__law_chart ["skills"] (defScope s__law_chart) := ⟨rfl, rfl, rfl, by decide +kernel, rfl, by decide +kernel, by decide +kernel⟩
def L__law_chart_1 : Bd := bSeq (bAsg 3 (fB lstD (aCons (f2 ixD (vP 1) (f1 negD (cD (.int 1)))) (aNil)))) (bSeq (bAsg 3 (f2 addD (vF 3) (fLc (fI (f2 ixD (vP 1) (f1 negD (cD (.int 1))))) (sN 5) (fT (f2 notInD (f2 addD (vF 5) (vF 2)) (f2 ixD (vP 1) (f1 negD (cD (.int 1)))))) (f2 addD (vF 5) (vF 2)) [5]))) (bApp 1 (fB sortedD (aCons (vF 3) (aNil)))))
theorem bi__law_chart : ∀ (kV doc pm : Value) (an : Option Addr) (cdv ct : Value) (us : List Value), us.length = (["skills"] : List Str).length → bindArgs (PySem.W.fnOf "_law_chart" "_law_chart" (defArgs s__law_chart) (defBody s__law_chart) (defScope s__law_chart) .none kV doc pm an cdv ct) ⟨us, []⟩ = pure ((["skills"] : List Str).zip us) :=
  fun _ _ _ _ _ _ us hl => match us, hl with | [_], _ => rfl
def b__law_chart : Bd := bSeq (bOwn 1 (fLst (aCons (fLst (aCons (f2 ixD (vF 0) (cD (.int 0))) (aNil))) (aNil)))) (bSeq (bFor (fI (fSl (vF 0) (oIs (cD (.int 1))) (oNo))) (sN 2) (L__law_chart_1)) (bRet (fB tupD (aCons (fLc (fI (vP 1)) (sN 4) (fYes) (fB tupD (aCons (vF 4) (aNil))) [4]) (aNil)))))
def Ph__law_chart : List D → Option D := fnB (N__law_chart).length (["skills"] : List Str).length b__law_chart
theorem dd__law_chart (Z : Fx K mg) (cdv : Value) (A : Around) (outer : List Env) (s : Shared) (H : Hp) (E : XK) (hr : Room (0) (A.deeper (envOfC "_law_chart" (defScope s__law_chart) s.heap.objs.size (He.ga K "_law_chart") cdv))) :
    ∃ W t, DSs (cxOf CX0 P w K mg base N__law_chart "_law_chart" (defScope s__law_chart) (He.ga K "_law_chart") cdv A outer s H E).nox .fz W (defBody s__law_chart) t (b__law_chart) := ⟨_, _,
  dss_cons (ds_own (i := 1) (de_lst (da_cons (DE.frz (de_lst (da_cons (de_ixK K (de_v 0) (de_int)) (da_nil)))) (da_nil))) sc__law_chart.nd) (dss_cons (ds_for (di_anyK K (de_slK K (de_v 0) (do_is (de_int)) (do_no))) (dg_n sc__law_chart.nd (i := 2)) (dss_cons (ds_asg (i := 3) (DE.frz (de_ct (call_list_ofK K) cs_lst rfl Z.n_list bt_list (da_cons (de_ixK K (de_p 1) (de_neg (de_int))) (da_nil)))) sc__law_chart.nd) (dss_cons (ds_asg (i := 3) (de_op (op_addAK K) ops_addA (de_v 3) (de_lc [("one", 5)] sc__law_chart.nd (di_anyK K (de_ixK K (de_p 1) (de_neg (de_int)))) (blk_of (N := N__law_chart) (sc := defScope s__law_chart) (by decide +kernel)) (fun _ _ _ _ _ => dg_n sc__law_chart.nd (i := 5)) (fun _ _ _ _ _ => dts_one (dt_cmp (op_notIn_K K hr.u65) ops_notIn rfl (de_op (op_addAK K) ops_addA (de_v 5) (de_v 2)) (de_ixK K (de_p 1) (de_neg (de_int))))) (fun _ _ _ _ _ => de_op (op_addAK K) ops_addA (de_v 5) (de_v 2)) (by decide))) sc__law_chart.nd) (dss_one (ds_app (j := 1) (DE.frz (de_cb (cr_srtK K hr.u70) cs_srt rfl Z.n_sorted bt_sorted (da_cons (de_v 3) (da_nil))))))))) (dss_one (ds_ret (de_ct (cr_tupK K) cs_tup rfl Z.n_tuple bt_tuple (da_cons (de_lc [("row", 4)] sc__law_chart.nd (di_anyPK K (de_p 1)) (blk_of (N := N__law_chart) (sc := defScope s__law_chart) (by decide +kernel)) (fun _ _ _ _ _ => dg_n sc__law_chart.nd (i := 4)) (fun _ _ _ _ _ => dts_nil) (fun _ _ _ _ _ => de_ct (cr_tupK K) cs_tup rfl Z.n_tuple bt_tuple (da_cons (de_v 4) (da_nil))) (by decide)) (da_nil))))))⟩
theorem ok__law_chart (Z : Fx K mg) : Ok P w K mg base 1 "_law_chart" ["skills"] .fz Ph__law_chart := by
  obtain ⟨fd, F⟩ := Z.f__law_chart
  exact ok_fz (P := P) (w := w) (mg := mg) (base := base) (b := b__law_chart) (k := 0) (N := N__law_chart) F sc__law_chart bi__law_chart Z.g__law_chart (dd__law_chart Z)
abbrev N__law_listed : List Str := ["value", "one"]
theorem sc__law_listed : FnScope N__law_listed ["value"] (defScope s__law_listed) := ⟨rfl, rfl, rfl, by decide +kernel, rfl, by decide +kernel, by decide +kernel⟩
theorem bi__law_listed : ∀ (kV doc pm : Value) (an : Option Addr) (cdv ct : Value) (us : List Value), us.length = (["value"] : List Str).length → bindArgs (PySem.W.fnOf "_law_listed" "_law_listed" (defArgs s__law_listed) (defBody s__law_listed) (defScope s__law_listed) .none kV doc pm an cdv ct) ⟨us, []⟩ = pure ((["value"] : List Str).zip us) :=
  fun _ _ _ _ _ _ us hl => match us, hl with | [_], _ => rfl
def b__law_listed (φ : List D → Option D) : Bd := bSeq (bIf (fTr (fIsi "tuple" (vF 0))) (bRet (fLc (fI (vF 0)) (sN 1) (fYes) (fB φ (aCons (vF 1) (aNil))) [1])) (bNext)) (bRet (vF 0))
def Ph__law_listed : Nat → List D → Option D
  | 0 => fun _ => none
  | n + 1 => fnB (N__law_listed).length (["value"] : List Str).length (b__law_listed (Ph__law_listed n))
theorem dd__law_listed (Z : Fx K mg) {φ : List D → Option D} (n : Nat) (ih : Ok P w K mg base (n + 0) "_law_listed" ["value"] .fz φ) (cdv : Value) (A : Around) (outer : List Env) (s : Shared) (H : Hp) (E : XK) (hr : Room (n + 0) (A.deeper (envOfC "_law_listed" (defScope s__law_listed) s.heap.objs.size (He.ga K "_law_listed") cdv))) :
    ∃ W t, DSs (cxOf CX0 P w K mg base N__law_listed "_law_listed" (defScope s__law_listed) (He.ga K "_law_listed") cdv A outer s H E).nox .fz W (defBody s__law_listed) t (b__law_listed φ) := ⟨_, _,
  dss_cons (ds_if (dt_truK K (de_isiK K rfl rfl Z.n_isinstance bt_isinstance rfl Z.n_tuple bt_tuple (de_v 0))) (dss_one (ds_ret (DE.frz (de_lc [("one", 1)] sc__law_listed.nd (di_anyK K (de_v 0)) (blk_of (N := N__law_listed) (sc := defScope s__law_listed) (by decide +kernel)) (fun _ _ _ _ _ => dg_n sc__law_listed.nd (i := 1)) (fun _ _ _ _ _ => dts_nil) (fun _ _ _ _ _ => de_fnK K ih hr (by omega) rfl (da_cons (de_v 1) (da_nil))) (by decide))))) (dss_nil)) (dss_one (ds_ret (de_v 0)))⟩
theorem ok__law_listed (Z : Fx K mg) : ∀ n : Nat, Ok P w K mg base (n + 0) "_law_listed" ["value"] .fz (Ph__law_listed n)
  | 0 => by obtain ⟨fd, F⟩ := Z.f__law_listed; exact ok_zero F bi__law_listed Z.g__law_listed
  | n + 1 => by
    obtain ⟨fd, F⟩ := Z.f__law_listed
    have e : n + 1 + 0 = n + 0 + 1 := by omega
    rw [e]
    exact ok_fz (P := P) (w := w) (mg := mg) (base := base) (b := b__law_listed (Ph__law_listed n)) (k := n + 0) (N := N__law_listed) F sc__law_listed bi__law_listed Z.g__law_listed (dd__law_listed Z n (ok__law_listed Z n))
abbrev N__law_honest : List Str := ["likings", "turns", "left", "got", "captain", "best", "child"]
theorem sc__law_honest : FnScope N__law_honest ["likings", "turns"] (defScope s__law_honest) := ⟨rfl, rfl, rfl, by decide +kernel, rfl, by decide +kernel, by decide +kernel⟩
def L__law_honest_1 : Bd := bSeq (bAsg 5 (f2 ixD (fLc (fI (f2 ixD (vF 0) (vF 4))) (sN 6) (fT (f2 inD (vF 6) (vF 2))) (vF 6) [6]) (cD (.int 0)))) (bSeq (bDpApp 3 (vF 4) (vF 5)) (bAsg 2 (fLc (fI (vF 2)) (sN 6) (fT (f2 neD (vF 6) (vF 5))) (vF 6) [6])))
theorem bi__law_honest : ∀ (kV doc pm : Value) (an : Option Addr) (cdv ct : Value) (us : List Value), us.length = (["likings", "turns"] : List Str).length → bindArgs (PySem.W.fnOf "_law_honest" "_law_honest" (defArgs s__law_honest) (defBody s__law_honest) (defScope s__law_honest) .none kV doc pm an cdv ct) ⟨us, []⟩ = pure ((["likings", "turns"] : List Str).zip us) :=
  fun _ _ _ _ _ _ us hl => match us, hl with | [_, _], _ => rfl
def b__law_honest : Bd := bSeq (bAsg 2 (fB sortedD (aCons (f2 ixD (vF 0) (cD (.int 0))) (aNil)))) (bSeq (bDp 3 (nLst (rCons (fLst (aNil)) (rCons (fLst (aNil)) (rNil))))) (bSeq (bFor (fI (vF 1)) (sN 4) (L__law_honest_1)) (bRet (fTup (aCons (fB tupD (aCons (dpIx 3 (cD (.int 0))) (aNil))) (aCons (fB tupD (aCons (dpIx 3 (cD (.int 1))) (aNil))) (aNil)))))))
def Ph__law_honest : List D → Option D := fnB (N__law_honest).length (["likings", "turns"] : List Str).length b__law_honest
theorem dd__law_honest (Z : Fx K mg) (cdv : Value) (A : Around) (outer : List Env) (s : Shared) (H : Hp) (E : XK) (hr : Room (0) (A.deeper (envOfC "_law_honest" (defScope s__law_honest) s.heap.objs.size (He.ga K "_law_honest") cdv))) :
    ∃ W t, DSs (cxOf CX0 P w K mg base N__law_honest "_law_honest" (defScope s__law_honest) (He.ga K "_law_honest") cdv A outer s H E).nox .fz W (defBody s__law_honest) t (b__law_honest) := ⟨_, _,
  dss_cons (ds_asg (i := 2) (DE.frz (de_cb (cr_srtK K hr.u70) cs_srt rfl Z.n_sorted bt_sorted (da_cons (de_ixK K (de_v 0) (de_int)) (da_nil)))) sc__law_honest.nd) (dss_cons (ds_dp (i := 3) (dn_lst (dr_cons (de_lst (da_nil)) (dr_cons (de_lst (da_nil)) (dr_nil)))) sc__law_honest.nd) (dss_cons (ds_for (di_anyK K (de_v 1)) (dg_n sc__law_honest.nd (i := 4)) (dss_cons (ds_asg (i := 5) (de_ixK K (de_lc [("child", 6)] sc__law_honest.nd (di_anyK K (de_ixK K (de_v 0) (de_v 4))) (blk_of (N := N__law_honest) (sc := defScope s__law_honest) (by decide +kernel)) (fun _ _ _ _ _ => dg_n sc__law_honest.nd (i := 6)) (fun _ _ _ _ _ => dts_one (dt_cmp (op_in_K K hr.u65) ops_in rfl (de_v 6) (de_v 2))) (fun _ _ _ _ _ => de_v 6) (by decide)) (de_int)) sc__law_honest.nd) (dss_cons (ds_dpApp (j := 3) (de_v 4) (de_v 5)) (dss_one (ds_asg (i := 2) (DE.frz (de_lc [("child", 6)] sc__law_honest.nd (di_anyK K (de_v 2)) (blk_of (N := N__law_honest) (sc := defScope s__law_honest) (by decide +kernel)) (fun _ _ _ _ _ => dg_n sc__law_honest.nd (i := 6)) (fun _ _ _ _ _ => dts_one (dt_cmp (op_neDK K hr.u64) ops_ne rfl (de_v 6) (de_v 5))) (fun _ _ _ _ _ => de_v 6) (by decide))) sc__law_honest.nd))))) (dss_one (ds_ret (de_tup (da_cons (de_ct (cr_tupK K) cs_tup rfl Z.n_tuple bt_tuple (da_cons (de_dpIx (j := 3) (de_int)) (da_nil))) (da_cons (de_ct (cr_tupK K) cs_tup rfl Z.n_tuple bt_tuple (da_cons (de_dpIx (j := 3) (de_int)) (da_nil))) (da_nil))))))))⟩
theorem ok__law_honest (Z : Fx K mg) : Ok P w K mg base 1 "_law_honest" ["likings", "turns"] .fz Ph__law_honest := by
  obtain ⟨fd, F⟩ := Z.f__law_honest
  exact ok_fz (P := P) (w := w) (mg := mg) (base := base) (b := b__law_honest) (k := 0) (N := N__law_honest) F sc__law_honest bi__law_honest Z.g__law_honest (dd__law_honest Z)
abbrev N__law_same : List Str := ["one", "other", "k"]
theorem sc__law_same : FnScope N__law_same ["one", "other"] (defScope s__law_same) := ⟨rfl, rfl, rfl, by decide +kernel, rfl, by decide +kernel, by decide +kernel⟩
theorem bi__law_same : ∀ (kV doc pm : Value) (an : Option Addr) (cdv ct : Value) (us : List Value), us.length = (["one", "other"] : List Str).length → bindArgs (PySem.W.fnOf "_law_same" "_law_same" (defArgs s__law_same) (defBody s__law_same) (defScope s__law_same) .none kV doc pm an cdv ct) ⟨us, []⟩ = pure ((["one", "other"] : List Str).zip us) :=
  fun _ _ _ _ _ _ us hl => match us, hl with | [_, _], _ => rfl
def b__law_same (φ : List D → Option D) : Bd := bSeq (bIf (fAndT (fTr (fIsi "tuple" (vF 0))) (fTr (fIsi "tuple" (vF 1)))) (bRet (fAnd (f2 eqD (fB lenD (aCons (vF 0) (aNil))) (fB lenD (aCons (vF 1) (aNil)))) (f2 eqD (fLc (fIs rg1D (aCons (fB lenD (aCons (vF 0) (aNil))) (aNil))) (sN 2) (fNotT (fTr (fB φ (aCons (f2 ixD (vF 0) (vF 2)) (aCons (f2 ixD (vF 1) (vF 2)) (aNil)))))) (vF 2) [2]) (fLst (aNil))))) (bNext)) (bSeq (bIf (fOrT (fT (f2 isND (vF 0) (cD .none))) (fT (f2 isND (vF 1) (cD .none)))) (bRet (fAnd (f2 isND (vF 0) (cD .none)) (f2 isND (vF 1) (cD .none)))) (bNext)) (bSeq (bIf (fOrT (fTr (fIsi "bool" (vF 0))) (fTr (fIsi "bool" (vF 1)))) (bRet (fAnd (fIsi "bool" (vF 0)) (fAnd (fIsi "bool" (vF 1)) (f2 eqD (vF 0) (vF 1))))) (bNext)) (bRet (fAnd (fIsi2 "int" "str" (vF 0)) (fAnd (f2 eqD (fIsi "int" (vF 0)) (fIsi "int" (vF 1))) (f2 eqD (vF 0) (vF 1)))))))
def Ph__law_same : Nat → List D → Option D
  | 0 => fun _ => none
  | n + 1 => fnB (N__law_same).length (["one", "other"] : List Str).length (b__law_same (Ph__law_same n))
theorem dd__law_same (Z : Fx K mg) {φ : List D → Option D} (n : Nat) (ih : Ok P w K mg base (n + 0) "_law_same" ["one", "other"] .fz φ) (cdv : Value) (A : Around) (outer : List Env) (s : Shared) (H : Hp) (E : XK) (hr : Room (n + 0) (A.deeper (envOfC "_law_same" (defScope s__law_same) s.heap.objs.size (He.ga K "_law_same") cdv))) :
    ∃ W t, DSs (cxOf CX0 P w K mg base N__law_same "_law_same" (defScope s__law_same) (He.ga K "_law_same") cdv A outer s H E).nox .fz W (defBody s__law_same) t (b__law_same φ) := ⟨_, _,
  dss_cons (ds_if (dt_w (dw_and (dt_truK K (de_isiK K rfl rfl Z.n_isinstance bt_isinstance rfl Z.n_tuple bt_tuple (de_v 0))) (dw_and1 (dt_truK K (de_isiK K rfl rfl Z.n_isinstance bt_isinstance rfl Z.n_tuple bt_tuple (de_v 1)))))) (dss_one (ds_ret (de_andK K (de_cmp (op_eqDK K hr.u64) ops_eq rfl (de_cb (call_lenK K) cs_len rfl Z.n_len bt_len (da_cons (de_v 0) (da_nil))) (de_cb (call_lenK K) cs_len rfl Z.n_len bt_len (da_cons (de_v 1) (da_nil)))) (de_one (de_cmp (op_eqDK K hr.u64) ops_eq rfl (de_lc [("k", 2)] sc__law_same.nd (di_rg1 rfl Z.n_range (da_cons (de_cb (call_lenK K) cs_len rfl Z.n_len bt_len (da_cons (de_v 0) (da_nil))) (da_nil))) (blk_of (N := N__law_same) (sc := defScope s__law_same) (by decide +kernel)) (fun _ _ _ _ _ => dg_n sc__law_same.nd (i := 2)) (fun _ _ _ _ _ => dts_one (dt_not (dt_truK K (de_fnK K ih hr (by omega) rfl (da_cons (de_ixK K (de_v 0) (de_v 2)) (da_cons (de_ixK K (de_v 1) (de_v 2)) (da_nil))))))) (fun _ _ _ _ _ => de_v 2) (by decide)) (de_lst (da_nil))))))) (dss_nil)) (dss_cons (ds_if (dt_w (dw_or (dt_cmp L2.op_isN ops_isN rfl (de_v 0) (de_non)) (dw_or1 (dt_cmp L2.op_isN ops_isN rfl (de_v 1) (de_non))))) (dss_one (ds_ret (de_andK K (de_cmp L2.op_isN ops_isN rfl (de_v 0) (de_non)) (de_one (de_cmp L2.op_isN ops_isN rfl (de_v 1) (de_non)))))) (dss_nil)) (dss_cons (ds_if (dt_w (dw_or (dt_truK K (de_isiK K rfl rfl Z.n_isinstance bt_isinstance rfl Z.n_bool bt_bool (de_v 0))) (dw_or1 (dt_truK K (de_isiK K rfl rfl Z.n_isinstance bt_isinstance rfl Z.n_bool bt_bool (de_v 1)))))) (dss_one (ds_ret (de_andK K (de_isiK K rfl rfl Z.n_isinstance bt_isinstance rfl Z.n_bool bt_bool (de_v 0)) (de_andK K (de_isiK K rfl rfl Z.n_isinstance bt_isinstance rfl Z.n_bool bt_bool (de_v 1)) (de_one (de_cmp (op_eqDK K hr.u64) ops_eq rfl (de_v 0) (de_v 1))))))) (dss_nil)) (dss_one (ds_ret (de_andK K (de_isi2K K rfl rfl Z.n_isinstance bt_isinstance rfl Z.n_int bt_int rfl Z.n_str bt_str (de_v 0)) (de_andK K (de_cmp (op_eqDK K hr.u64) ops_eq rfl (de_isiK K rfl rfl Z.n_isinstance bt_isinstance rfl Z.n_int bt_int (de_v 0)) (de_isiK K rfl rfl Z.n_isinstance bt_isinstance rfl Z.n_int bt_int (de_v 1))) (de_one (de_cmp (op_eqDK K hr.u64) ops_eq rfl (de_v 0) (de_v 1)))))))))⟩
theorem ok__law_same (Z : Fx K mg) : ∀ n : Nat, Ok P w K mg base (n + 0) "_law_same" ["one", "other"] .fz (Ph__law_same n)
  | 0 => by obtain ⟨fd, F⟩ := Z.f__law_same; exact ok_zero F bi__law_same Z.g__law_same
  | n + 1 => by
    obtain ⟨fd, F⟩ := Z.f__law_same
    have e : n + 1 + 0 = n + 0 + 1 := by omega
    rw [e]
    exact ok_fz (P := P) (w := w) (mg := mg) (base := base) (b := b__law_same (Ph__law_same n)) (k := n + 0) (N := N__law_same) F sc__law_same bi__law_same Z.g__law_same (dd__law_same Z n (ok__law_same Z n))
abbrev N__law_cell : List Str := ["script", "spot"]
theorem sc__law_cell : FnScope N__law_cell ["script", "spot"] (defScope s__law_cell) := ⟨rfl, rfl, rfl, by decide +kernel, rfl, by decide +kernel, by decide +kernel⟩
theorem bi__law_cell : ∀ (kV doc pm : Value) (an : Option Addr) (cdv ct : Value) (us : List Value), us.length = (["script", "spot"] : List Str).length → bindArgs (PySem.W.fnOf "_law_cell" "_law_cell" (defArgs s__law_cell) (defBody s__law_cell) (defScope s__law_cell) .none kV doc pm an cdv ct) ⟨us, []⟩ = pure ((["script", "spot"] : List Str).zip us) :=
  fun _ _ _ _ _ _ us hl => match us, hl with | [_, _], _ => rfl
def b__law_cell : Bd := bSeq (bIf (fT (f2 ltD (vF 1) (fB lenD (aCons (vF 0) (aNil))))) (bRet (fB intD (aCons (f2 ixD (vF 0) (vF 1)) (aNil)))) (bNext)) (bRet (cD (.int 0)))
def Ph__law_cell : List D → Option D := fnB (N__law_cell).length (["script", "spot"] : List Str).length b__law_cell
theorem dd__law_cell (Z : Fx K mg) (cdv : Value) (A : Around) (outer : List Env) (s : Shared) (H : Hp) (E : XK) (hr : Room (0) (A.deeper (envOfC "_law_cell" (defScope s__law_cell) s.heap.objs.size (He.ga K "_law_cell") cdv))) :
    ∃ W t, DSs (cxOf CX0 P w K mg base N__law_cell "_law_cell" (defScope s__law_cell) (He.ga K "_law_cell") cdv A outer s H E).nox .fz W (defBody s__law_cell) t (b__law_cell) := ⟨_, _,
  dss_cons (ds_if (dt_cmp (op_lt_K K hr.u64) ops_lt rfl (de_v 1) (de_cb (call_lenK K) cs_len rfl Z.n_len bt_len (da_cons (de_v 0) (da_nil)))) (dss_one (ds_ret (de_ct call_int1 cs_int rfl Z.n_int bt_int (da_cons (de_ixK K (de_v 0) (de_v 1)) (da_nil))))) (dss_nil)) (dss_one (ds_ret (de_int)))⟩
theorem ok__law_cell (Z : Fx K mg) : Ok P w K mg base 1 "_law_cell" ["script", "spot"] .fz Ph__law_cell := by
  obtain ⟨fd, F⟩ := Z.f__law_cell
  exact ok_fz (P := P) (w := w) (mg := mg) (base := base) (b := b__law_cell) (k := 0) (N := N__law_cell) F sc__law_cell bi__law_cell Z.g__law_cell (dd__law_cell Z)
abbrev N__law_orders : List Str := ["some", "rows", "k", "longer", "row", "one"]
theorem sc__law_orders : FnScope N__law_orders ["some"] (defScope s__law_orders) := ⟨rfl, rfl, rfl, by decide +kernel, rfl, by decide +kernel, by decide +kernel⟩
def L__law_orders_1 : Bd := bAsg 3 (f2 addD (vF 3) (fLc (fI (vF 0)) (sN 5) (fT (f2 notInD (vF 5) (vF 4))) (f2 addD (vF 4) (fTup (aCons (vF 5) (aNil)))) [5]))
def L__law_orders_2 : Bd := bSeq (bAsg 3 (fLst (aNil))) (bSeq (bFor (fI (vF 1)) (sN 4) (L__law_orders_1)) (bAsg 1 (vF 3)))
theorem bi__law_orders : ∀ (kV doc pm : Value) (an : Option Addr) (cdv ct : Value) (us : List Value), us.length = (["some"] : List Str).length → bindArgs (PySem.W.fnOf "_law_orders" "_law_orders" (defArgs s__law_orders) (defBody s__law_orders) (defScope s__law_orders) .none kV doc pm an cdv ct) ⟨us, []⟩ = pure ((["some"] : List Str).zip us) :=
  fun _ _ _ _ _ _ us hl => match us, hl with | [_], _ => rfl
def b__law_orders : Bd := bSeq (bAsg 1 (fLst (aCons (fTup (aNil)) (aNil)))) (bSeq (bFor (fIs rg1D (aCons (fB lenD (aCons (vF 0) (aNil))) (aNil))) (sN 2) (L__law_orders_2)) (bRet (vF 1)))
def Ph__law_orders : List D → Option D := fnB (N__law_orders).length (["some"] : List Str).length b__law_orders
theorem dd__law_orders (Z : Fx K mg) (cdv : Value) (A : Around) (outer : List Env) (s : Shared) (H : Hp) (E : XK) (hr : Room (0) (A.deeper (envOfC "_law_orders" (defScope s__law_orders) s.heap.objs.size (He.ga K "_law_orders") cdv))) :
    ∃ W t, DSs (cxOf CX0 P w K mg base N__law_orders "_law_orders" (defScope s__law_orders) (He.ga K "_law_orders") cdv A outer s H E).nox .fz W (defBody s__law_orders) t (b__law_orders) := ⟨_, _,
  dss_cons (ds_asg (i := 1) (DE.frz (de_lst (da_cons (de_tup (da_nil)) (da_nil)))) sc__law_orders.nd) (dss_cons (ds_for (di_rg1 rfl Z.n_range (da_cons (de_cb (call_lenK K) cs_len rfl Z.n_len bt_len (da_cons (de_v 0) (da_nil))) (da_nil))) (dg_n sc__law_orders.nd (i := 2)) (dss_cons (ds_asg (i := 3) (DE.frz (de_lst (da_nil))) sc__law_orders.nd) (dss_cons (ds_for (di_anyK K (de_v 1)) (dg_n sc__law_orders.nd (i := 4)) (dss_one (ds_asg (i := 3) (de_op (op_addAK K) ops_addA (de_v 3) (de_lc [("one", 5)] sc__law_orders.nd (di_anyK K (de_v 0)) (blk_of (N := N__law_orders) (sc := defScope s__law_orders) (by decide +kernel)) (fun _ _ _ _ _ => dg_n sc__law_orders.nd (i := 5)) (fun _ _ _ _ _ => dts_one (dt_cmp (op_notIn_K K hr.u65) ops_notIn rfl (de_v 5) (de_v 4))) (fun _ _ _ _ _ => de_op (op_addAK K) ops_addA (de_v 4) (de_tup (da_cons (de_v 5) (da_nil)))) (by decide))) sc__law_orders.nd))) (dss_one (ds_asg (i := 1) (de_v 3) sc__law_orders.nd))))) (dss_one (ds_ret (de_v 1))))⟩
theorem ok__law_orders (Z : Fx K mg) : Ok P w K mg base 1 "_law_orders" ["some"] .fz Ph__law_orders := by
  obtain ⟨fd, F⟩ := Z.f__law_orders
  exact ok_fz (P := P) (w := w) (mg := mg) (base := base) (b := b__law_orders) (k := 0) (N := N__law_orders) F sc__law_orders bi__law_orders Z.g__law_orders (dd__law_orders Z)
abbrev N__law_cycled : List Str := ["size", "rows", "step", "first", "k"]
theorem sc__law_cycled : FnScope N__law_cycled ["size"] (defScope s__law_cycled) := ⟨rfl, rfl, rfl, by decide +kernel, rfl, by decide +kernel, by decide +kernel⟩
def L__law_cycled_1 : Bd := bApp 1 (fB tupD (aCons (fLc (fIs rg1D (aCons (cD (.int 7)) (aNil))) (sN 4) (fT (f2 ltD (f2 modD (f2 addD (f2 mulD (vF 4) (vF 2)) (vF 3)) (cD (.int 7))) (vF 0))) (f2 modD (f2 addD (f2 mulD (vF 4) (vF 2)) (vF 3)) (cD (.int 7))) [4]) (aNil)))
def L__law_cycled_2 : Bd := bFor (fIs rg1D (aCons (cD (.int 7)) (aNil))) (sN 3) (L__law_cycled_1)
theorem bi__law_cycled : ∀ (kV doc pm : Value) (an : Option Addr) (cdv ct : Value) (us : List Value), us.length = (["size"] : List Str).length → bindArgs (PySem.W.fnOf "_law_cycled" "_law_cycled" (defArgs s__law_cycled) (defBody s__law_cycled) (defScope s__law_cycled) .none kV doc pm an cdv ct) ⟨us, []⟩ = pure ((["size"] : List Str).zip us) :=
  fun _ _ _ _ _ _ us hl => match us, hl with | [_], _ => rfl
def b__law_cycled : Bd := bSeq (bOwn 1 (fLst (aNil))) (bSeq (bFor (fIs rg2D (aCons (cD (.int 1)) (aCons (cD (.int 7)) (aNil)))) (sN 2) (L__law_cycled_2)) (bRet (vO 1)))
def Ph__law_cycled : List D → Option D := fnR (N__law_cycled).length (["size"] : List Str).length b__law_cycled
theorem dd__law_cycled (Z : Fx K mg) (cdv : Value) (A : Around) (outer : List Env) (s : Shared) (H : Hp) (E : XK) (hr : Room (0) (A.deeper (envOfC "_law_cycled" (defScope s__law_cycled) s.heap.objs.size (He.ga K "_law_cycled") cdv))) :
    ∃ W t, DSs (cxOf CX0 P w K mg base N__law_cycled "_law_cycled" (defScope s__law_cycled) (He.ga K "_law_cycled") cdv A outer s H E).nox .fr W (defBody s__law_cycled) t (b__law_cycled) := ⟨_, _,
  dss_cons (ds_own (i := 1) (de_lst (da_nil)) sc__law_cycled.nd) (dss_cons (ds_for (di_rg2 rfl Z.n_range (da_cons (de_int) (da_cons (de_int) (da_nil)))) (dg_n sc__law_cycled.nd (i := 2)) (dss_one (ds_for (di_rg1 rfl Z.n_range (da_cons (de_int) (da_nil))) (dg_n sc__law_cycled.nd (i := 3)) (dss_one (ds_app (j := 1) (de_ct (cr_tupK K) cs_tup rfl Z.n_tuple bt_tuple (da_cons (de_lc [("k", 4)] sc__law_cycled.nd (di_rg1 rfl Z.n_range (da_cons (de_int) (da_nil))) (blk_of (N := N__law_cycled) (sc := defScope s__law_cycled) (by decide +kernel)) (fun _ _ _ _ _ => dg_n sc__law_cycled.nd (i := 4)) (fun _ _ _ _ _ => dts_one (dt_cmp (op_lt_K K hr.u64) ops_lt rfl (de_op op_modN ops_mod (de_op (op_addAK K) ops_addA (de_op op_mul ops_mul (de_v 4) (de_v 2)) (de_v 3)) (de_int)) (de_v 0))) (fun _ _ _ _ _ => de_op op_modN ops_mod (de_op (op_addAK K) ops_addA (de_op op_mul ops_mul (de_v 4) (de_v 2)) (de_v 3)) (de_int)) (by decide)) (da_nil)))))))) (dss_one (ds_retOwn (i := 1))))⟩
theorem ok__law_cycled (Z : Fx K mg) : Ok P w K mg base 1 "_law_cycled" ["size"] .fr Ph__law_cycled := by
  obtain ⟨fd, F⟩ := Z.f__law_cycled
  exact ok_fr (P := P) (w := w) (mg := mg) (base := base) (b := b__law_cycled) (k := 0) (N := N__law_cycled) F sc__law_cycled bi__law_cycled Z.g__law_cycled (dd__law_cycled Z)
abbrev N__law_sizes : List Str := ["split", "counts", "team", "one"]
theorem sc__law_sizes : FnScope N__law_sizes ["split"] (defScope s__law_sizes) := ⟨rfl, rfl, rfl, by decide +kernel, rfl, by decide +kernel, by decide +kernel⟩
theorem bi__law_sizes : ∀ (kV doc pm : Value) (an : Option Addr) (cdv ct : Value) (us : List Value), us.length = (["split"] : List Str).length → bindArgs (PySem.W.fnOf "_law_sizes" "_law_sizes" (defArgs s__law_sizes) (defBody s__law_sizes) (defScope s__law_sizes) .none kV doc pm an cdv ct) ⟨us, []⟩ = pure ((["split"] : List Str).zip us) :=
  fun _ _ _ _ _ _ us hl => match us, hl with | [_], _ => rfl
def b__law_sizes : Bd := bSeq (bAsg 1 (fLc (fIs rg1D (aCons (f2 addD (fB maxA (aCons (vF 0) (aNil))) (cD (.int 1))) (aNil))) (sN 2) (fYes) (fB lenD (aCons (fLc (fI (vF 0)) (sN 3) (fT (f2 eqD (vF 3) (vF 2))) (vF 3) [3]) (aNil))) [2])) (bRet (f2 leD (f2 subD (fB maxA (aCons (vF 1) (aNil))) (fB minA (aCons (vF 1) (aNil)))) (cD (.int 1))))
def Ph__law_sizes : List D → Option D := fnB (N__law_sizes).length (["split"] : List Str).length b__law_sizes
theorem dd__law_sizes (Z : Fx K mg) (cdv : Value) (A : Around) (outer : List Env) (s : Shared) (H : Hp) (E : XK) (hr : Room (0) (A.deeper (envOfC "_law_sizes" (defScope s__law_sizes) s.heap.objs.size (He.ga K "_law_sizes") cdv))) :
    ∃ W t, DSs (cxOf CX0 P w K mg base N__law_sizes "_law_sizes" (defScope s__law_sizes) (He.ga K "_law_sizes") cdv A outer s H E).nox .fz W (defBody s__law_sizes) t (b__law_sizes) := ⟨_, _,
  dss_cons (ds_asgLc (i := 1) [("team", 2)] sc__law_sizes.nd (di_rg1 rfl Z.n_range (da_cons (de_op (op_addAK K) ops_addA (de_cb (cr_maxAK K rfl hr.u70) cs_maxA rfl Z.n_max bt_max (da_cons (de_v 0) (da_nil))) (de_int)) (da_nil))) (blk_of (N := N__law_sizes) (sc := defScope s__law_sizes) (by decide +kernel)) (fun _ _ _ _ _ => dg_n sc__law_sizes.nd (i := 2)) (fun _ _ _ _ _ => dts_nil) (fun _ _ _ _ _ => de_cb (call_lenK K) cs_len rfl Z.n_len bt_len (da_cons (de_lc [("one", 3)] sc__law_sizes.nd (di_anyK K (de_v 0)) (blk_of (by with_unfolding_all rfl)) (fun _ _ _ _ _ => dg_n sc__law_sizes.nd (i := 3)) (fun _ _ _ _ _ => dts_one (dt_cmp (op_eqDK K hr.u64) ops_eq rfl (de_v 3) (de_v 2))) (fun _ _ _ _ _ => de_v 3) (by decide)) (da_nil))) (by decide) (sw_true rfl rfl rfl (by decide +kernel))) (dss_one (ds_ret (de_cmp (op_le_K K hr.u64) ops_le rfl (de_op op_sub ops_sub (de_cb (cr_maxAK K rfl hr.u70) cs_maxA rfl Z.n_max bt_max (da_cons (de_v 1) (da_nil))) (de_cb (cr_minAK K rfl hr.u70) cs_minA rfl Z.n_min bt_min (da_cons (de_v 1) (da_nil)))) (de_int))))⟩
theorem ok__law_sizes (Z : Fx K mg) : Ok P w K mg base 1 "_law_sizes" ["split"] .fz Ph__law_sizes := by
  obtain ⟨fd, F⟩ := Z.f__law_sizes
  exact ok_fz (P := P) (w := w) (mg := mg) (base := base) (b := b__law_sizes) (k := 0) (N := N__law_sizes) F sc__law_sizes bi__law_sizes Z.g__law_sizes (dd__law_sizes Z)
abbrev N_need : List Str := ["at", "value"]
theorem sc_need : FnScope N_need ["at", "value"] (defScope s_need) := ⟨rfl, rfl, rfl, by decide +kernel, rfl, by decide +kernel, by decide +kernel⟩
theorem bi_need : ∀ (kV doc pm : Value) (an : Option Addr) (cdv ct : Value) (us : List Value), us.length = (["at", "value"] : List Str).length → bindArgs (PySem.W.fnOf "need" "need" (defArgs s_need) (defBody s_need) (defScope s_need) .none kV doc pm an cdv ct) ⟨us, []⟩ = pure ((["at", "value"] : List Str).zip us) :=
  fun _ _ _ _ _ _ us hl => match us, hl with | [_, _], _ => rfl
def b_need : Bd := bSeq (bIf (fT (f2 isND (vF 1) (cD .none))) (bNever) (bNext)) (bRet (vF 1))
def Ph_need : List D → Option D := fnB (N_need).length (["at", "value"] : List Str).length b_need
theorem dd_need (Z : Fx K mg) (cdv : Value) (A : Around) (outer : List Env) (s : Shared) (H : Hp) (E : XK) (hr : Room (0) (A.deeper (envOfC "need" (defScope s_need) s.heap.objs.size (He.ga K "need") cdv))) :
    ∃ W t, DSs (cxOf CX0 P w K mg base N_need "need" (defScope s_need) (He.ga K "need") cdv A outer s H E).nox .fz W (defBody s_need) t (b_need) := ⟨_, _,
  dss_cons (ds_if (dt_cmp L2.op_isN ops_isN rfl (de_v 1) (de_non)) (dss_one (ds_never)) (dss_nil)) (dss_one (ds_ret (de_v 1)))⟩
theorem ok_need (Z : Fx K mg) : Ok P w K mg base 1 "need" ["at", "value"] .fz Ph_need := by
  obtain ⟨fd, F⟩ := Z.f_need
  exact ok_fz (P := P) (w := w) (mg := mg) (base := base) (b := b_need) (k := 0) (N := N_need) F sc_need bi_need Z.g_need (dd_need Z)
abbrev N_is_int : List Str := ["value"]
theorem sc_is_int : FnScope N_is_int ["value"] (defScope s_is_int) := ⟨rfl, rfl, rfl, by decide +kernel, rfl, by decide +kernel, by decide +kernel⟩
theorem bi_is_int : ∀ (kV doc pm : Value) (an : Option Addr) (cdv ct : Value) (us : List Value), us.length = (["value"] : List Str).length → bindArgs (PySem.W.fnOf "is_int" "is_int" (defArgs s_is_int) (defBody s_is_int) (defScope s_is_int) .none kV doc pm an cdv ct) ⟨us, []⟩ = pure ((["value"] : List Str).zip us) :=
  fun _ _ _ _ _ _ us hl => match us, hl with | [_], _ => rfl
def b_is_int : Bd := bRet (fAnd (fIsi "int" (vF 0)) (fNot (fIsi "bool" (vF 0))))
def Ph_is_int : List D → Option D := fnB (N_is_int).length (["value"] : List Str).length b_is_int
theorem dd_is_int (Z : Fx K mg) (cdv : Value) (A : Around) (outer : List Env) (s : Shared) (H : Hp) (E : XK) (hr : Room (0) (A.deeper (envOfC "is_int" (defScope s_is_int) s.heap.objs.size (He.ga K "is_int") cdv))) :
    ∃ W t, DSs (cxOf CX0 P w K mg base N_is_int "is_int" (defScope s_is_int) (He.ga K "is_int") cdv A outer s H E).nox .fz W (defBody s_is_int) t (b_is_int) := ⟨_, _,
  dss_one (ds_ret (de_andK K (de_isiK K rfl rfl Z.n_isinstance bt_isinstance rfl Z.n_int bt_int (de_v 0)) (de_one (de_notK K (de_isiK K rfl rfl Z.n_isinstance bt_isinstance rfl Z.n_bool bt_bool (de_v 0))))))⟩
theorem ok_is_int (Z : Fx K mg) : Ok P w K mg base 1 "is_int" ["value"] .fz Ph_is_int := by
  obtain ⟨fd, F⟩ := Z.f_is_int
  exact ok_fz (P := P) (w := w) (mg := mg) (base := base) (b := b_is_int) (k := 0) (N := N_is_int) F sc_is_int bi_is_int Z.g_is_int (dd_is_int Z)
abbrev N_is_within : List Str := ["value", "low", "high"]
theorem sc_is_within : FnScope N_is_within ["value", "low", "high"] (defScope s_is_within) := ⟨rfl, rfl, rfl, by decide +kernel, rfl, by decide +kernel, by decide +kernel⟩
theorem bi_is_within : ∀ (kV doc pm : Value) (an : Option Addr) (cdv ct : Value) (us : List Value), us.length = (["value", "low", "high"] : List Str).length → bindArgs (PySem.W.fnOf "is_within" "is_within" (defArgs s_is_within) (defBody s_is_within) (defScope s_is_within) .none kV doc pm an cdv ct) ⟨us, []⟩ = pure ((["value", "low", "high"] : List Str).zip us) :=
  fun _ _ _ _ _ _ us hl => match us, hl with | [_, _, _], _ => rfl
def b_is_within : Bd := bRet (fAnd (fB (Ph_is_int) (aCons (vF 0) (aNil))) (f3 leD leD (vF 1) (vF 0) (vF 2)))
def Ph_is_within : List D → Option D := fnB (N_is_within).length (["value", "low", "high"] : List Str).length b_is_within
theorem dd_is_within (Z : Fx K mg) (cdv : Value) (A : Around) (outer : List Env) (s : Shared) (H : Hp) (E : XK) (hr : Room (1) (A.deeper (envOfC "is_within" (defScope s_is_within) s.heap.objs.size (He.ga K "is_within") cdv))) :
    ∃ W t, DSs (cxOf CX0 P w K mg base N_is_within "is_within" (defScope s_is_within) (He.ga K "is_within") cdv A outer s H E).nox .fz W (defBody s_is_within) t (b_is_within) := ⟨_, _,
  dss_one (ds_ret (de_andK K (de_fnK K (ok_is_int Z) hr (by omega) rfl (da_cons (de_v 0) (da_nil))) (de_one (de_chain (op_le_K K hr.u64) (op_le_K K hr.u64) ops_le ops_le (de_v 1) (de_v 0) (de_v 2)))))⟩
theorem ok_is_within (Z : Fx K mg) : Ok P w K mg base 2 "is_within" ["value", "low", "high"] .fz Ph_is_within := by
  obtain ⟨fd, F⟩ := Z.f_is_within
  exact ok_fz (P := P) (w := w) (mg := mg) (base := base) (b := b_is_within) (k := 1) (N := N_is_within) F sc_is_within bi_is_within Z.g_is_within (dd_is_within Z)
abbrev N_need_within : List Str := ["at", "value", "low", "high"]
theorem sc_need_within : FnScope N_need_within ["at", "value", "low", "high"] (defScope s_need_within) := ⟨rfl, rfl, rfl, by decide +kernel, rfl, by decide +kernel, by decide +kernel⟩
theorem bi_need_within : ∀ (kV doc pm : Value) (an : Option Addr) (cdv ct : Value) (us : List Value), us.length = (["at", "value", "low", "high"] : List Str).length → bindArgs (PySem.W.fnOf "need_within" "need_within" (defArgs s_need_within) (defBody s_need_within) (defScope s_need_within) .none kV doc pm an cdv ct) ⟨us, []⟩ = pure ((["at", "value", "low", "high"] : List Str).zip us) :=
  fun _ _ _ _ _ _ us hl => match us, hl with | [_, _, _, _], _ => rfl
def b_need_within : Bd := bSeq (bIf (fNotT (fTr (fB (Ph_is_within) (aCons (vF 1) (aCons (vF 2) (aCons (vF 3) (aNil))))))) (bNever) (bNext)) (bRet (vF 1))
def Ph_need_within : List D → Option D := fnB (N_need_within).length (["at", "value", "low", "high"] : List Str).length b_need_within
theorem dd_need_within (Z : Fx K mg) (cdv : Value) (A : Around) (outer : List Env) (s : Shared) (H : Hp) (E : XK) (hr : Room (2) (A.deeper (envOfC "need_within" (defScope s_need_within) s.heap.objs.size (He.ga K "need_within") cdv))) :
    ∃ W t, DSs (cxOf CX0 P w K mg base N_need_within "need_within" (defScope s_need_within) (He.ga K "need_within") cdv A outer s H E).nox .fz W (defBody s_need_within) t (b_need_within) := ⟨_, _,
  dss_cons (ds_if (dt_not (dt_truK K (de_fnK K (ok_is_within Z) hr (by omega) rfl (da_cons (de_v 1) (da_cons (de_v 2) (da_cons (de_v 3) (da_nil))))))) (dss_one (ds_never)) (dss_nil)) (dss_one (ds_ret (de_v 1)))⟩
theorem ok_need_within (Z : Fx K mg) : Ok P w K mg base 3 "need_within" ["at", "value", "low", "high"] .fz Ph_need_within := by
  obtain ⟨fd, F⟩ := Z.f_need_within
  exact ok_fz (P := P) (w := w) (mg := mg) (base := base) (b := b_need_within) (k := 2) (N := N_need_within) F sc_need_within bi_need_within Z.g_need_within (dd_need_within Z)
abbrev N_is_seq : List Str := ["value"]
theorem sc_is_seq : FnScope N_is_seq ["value"] (defScope s_is_seq) := ⟨rfl, rfl, rfl, by decide +kernel, rfl, by decide +kernel, by decide +kernel⟩
theorem bi_is_seq : ∀ (kV doc pm : Value) (an : Option Addr) (cdv ct : Value) (us : List Value), us.length = (["value"] : List Str).length → bindArgs (PySem.W.fnOf "is_seq" "is_seq" (defArgs s_is_seq) (defBody s_is_seq) (defScope s_is_seq) .none kV doc pm an cdv ct) ⟨us, []⟩ = pure ((["value"] : List Str).zip us) :=
  fun _ _ _ _ _ _ us hl => match us, hl with | [_], _ => rfl
def b_is_seq : Bd := bRet (fIsi2 "list" "tuple" (vF 0))
def Ph_is_seq : List D → Option D := fnB (N_is_seq).length (["value"] : List Str).length b_is_seq
theorem dd_is_seq (Z : Fx K mg) (cdv : Value) (A : Around) (outer : List Env) (s : Shared) (H : Hp) (E : XK) (hr : Room (0) (A.deeper (envOfC "is_seq" (defScope s_is_seq) s.heap.objs.size (He.ga K "is_seq") cdv))) :
    ∃ W t, DSs (cxOf CX0 P w K mg base N_is_seq "is_seq" (defScope s_is_seq) (He.ga K "is_seq") cdv A outer s H E).nox .fz W (defBody s_is_seq) t (b_is_seq) := ⟨_, _,
  dss_one (ds_ret (de_isi2K K rfl rfl Z.n_isinstance bt_isinstance rfl Z.n_list bt_list rfl Z.n_tuple bt_tuple (de_v 0)))⟩
theorem ok_is_seq (Z : Fx K mg) : Ok P w K mg base 1 "is_seq" ["value"] .fz Ph_is_seq := by
  obtain ⟨fd, F⟩ := Z.f_is_seq
  exact ok_fz (P := P) (w := w) (mg := mg) (base := base) (b := b_is_seq) (k := 0) (N := N_is_seq) F sc_is_seq bi_is_seq Z.g_is_seq (dd_is_seq Z)
abbrev N_to_row : List Str := ["value", "least", "most"]
theorem sc_to_row : FnScope N_to_row ["value", "least", "most"] (defScope s_to_row) := ⟨rfl, rfl, rfl, by decide +kernel, rfl, by decide +kernel, by decide +kernel⟩
theorem bi_to_row : ∀ (kV doc pm : Value) (an : Option Addr) (cdv ct : Value) (us : List Value), us.length = (["value", "least", "most"] : List Str).length → bindArgs (PySem.W.fnOf "to_row" "to_row" (defArgs s_to_row) (defBody s_to_row) (defScope s_to_row) .none kV doc pm an cdv ct) ⟨us, []⟩ = pure ((["value", "least", "most"] : List Str).zip us) :=
  fun _ _ _ _ _ _ us hl => match us, hl with | [_, _, _], _ => rfl
def b_to_row : Bd := bSeq (bIf (fOrT (fNotT (fTr (fB (Ph_is_seq) (aCons (vF 0) (aNil))))) (fNotT (fT (f3 leD leD (vF 1) (fB lenD (aCons (vF 0) (aNil))) (vF 2))))) (bRet (cD .none)) (bNext)) (bRet (fB tupD (aCons (vF 0) (aNil))))
def Ph_to_row : List D → Option D := fnB (N_to_row).length (["value", "least", "most"] : List Str).length b_to_row
theorem dd_to_row (Z : Fx K mg) (cdv : Value) (A : Around) (outer : List Env) (s : Shared) (H : Hp) (E : XK) (hr : Room (1) (A.deeper (envOfC "to_row" (defScope s_to_row) s.heap.objs.size (He.ga K "to_row") cdv))) :
    ∃ W t, DSs (cxOf CX0 P w K mg base N_to_row "to_row" (defScope s_to_row) (He.ga K "to_row") cdv A outer s H E).nox .fz W (defBody s_to_row) t (b_to_row) := ⟨_, _,
  dss_cons (ds_if (dt_w (dw_or (dt_not (dt_truK K (de_fnK K (ok_is_seq Z) hr (by omega) rfl (da_cons (de_v 0) (da_nil))))) (dw_or1 (dt_not (dt_chain (op_le_K K hr.u64) (op_le_K K hr.u64) ops_le ops_le (de_v 1) (de_cb (call_lenK K) cs_len rfl Z.n_len bt_len (da_cons (de_v 0) (da_nil))) (de_v 2)))))) (dss_one (ds_ret (de_non))) (dss_nil)) (dss_one (ds_ret (de_ct (cr_tupK K) cs_tup rfl Z.n_tuple bt_tuple (da_cons (de_v 0) (da_nil)))))⟩
theorem ok_to_row (Z : Fx K mg) : Ok P w K mg base 2 "to_row" ["value", "least", "most"] .fz Ph_to_row := by
  obtain ⟨fd, F⟩ := Z.f_to_row
  exact ok_fz (P := P) (w := w) (mg := mg) (base := base) (b := b_to_row) (k := 1) (N := N_to_row) F sc_to_row bi_to_row Z.g_to_row (dd_to_row Z)
abbrev N_to_ints : List Str := ["value", "low", "high", "least", "most", "row", "member"]
theorem sc_to_ints : FnScope N_to_ints ["value", "low", "high", "least", "most"] (defScope s_to_ints) := ⟨rfl, rfl, rfl, by decide +kernel, rfl, by decide +kernel, by decide +kernel⟩
theorem bi_to_ints : ∀ (kV doc pm : Value) (an : Option Addr) (cdv ct : Value) (us : List Value), us.length = (["value", "low", "high", "least", "most"] : List Str).length → bindArgs (PySem.W.fnOf "to_ints" "to_ints" (defArgs s_to_ints) (defBody s_to_ints) (defScope s_to_ints) .none kV doc pm an cdv ct) ⟨us, []⟩ = pure ((["value", "low", "high", "least", "most"] : List Str).zip us) :=
  fun _ _ _ _ _ _ us hl => match us, hl with | [_, _, _, _, _], _ => rfl
def b_to_ints : Bd := bSeq (bAsg 5 (fB (Ph_to_row) (aCons (vF 0) (aCons (vF 3) (aCons (vF 4) (aNil)))))) (bSeq (bIf (fOrT (fT (f2 isND (vF 5) (cD .none))) (fNotT (fTr (fB allD (aCons (fLc (fI (vF 5)) (sN 6) (fYes) (fB (Ph_is_within) (aCons (vF 6) (aCons (vF 1) (aCons (vF 2) (aNil))))) [6]) (aNil)))))) (bRet (cD .none)) (bNext)) (bRet (vF 5)))
def Ph_to_ints : List D → Option D := fnB (N_to_ints).length (["value", "low", "high", "least", "most"] : List Str).length b_to_ints
theorem dd_to_ints (Z : Fx K mg) (cdv : Value) (A : Around) (outer : List Env) (s : Shared) (H : Hp) (E : XK) (hr : Room (2) (A.deeper (envOfC "to_ints" (defScope s_to_ints) s.heap.objs.size (He.ga K "to_ints") cdv))) :
    ∃ W t, DSs (cxOf CX0 P w K mg base N_to_ints "to_ints" (defScope s_to_ints) (He.ga K "to_ints") cdv A outer s H E).nox .fz W (defBody s_to_ints) t (b_to_ints) := ⟨_, _,
  dss_cons (ds_asg (i := 5) (de_fnK K (ok_to_row Z) hr (by omega) rfl (da_cons (de_v 0) (da_cons (de_v 3) (da_cons (de_v 4) (da_nil))))) sc_to_ints.nd) (dss_cons (ds_if (dt_w (dw_or (dt_cmp L2.op_isN ops_isN rfl (de_v 5) (de_non)) (dw_or1 (dt_not (dt_truK K (de_cb (cr_allK K rfl) cs_all rfl Z.n_all bt_all (da_cons (de_lc [("member", 6)] sc_to_ints.nd (di_anyK K (de_v 5)) (blk_of (N := N_to_ints) (sc := defScope s_to_ints) (by decide +kernel)) (fun _ _ _ _ _ => dg_n sc_to_ints.nd (i := 6)) (fun _ _ _ _ _ => dts_nil) (fun _ _ _ _ _ => de_fnK K (ok_is_within Z) hr (by omega) rfl (da_cons (de_v 6) (da_cons (de_v 1) (da_cons (de_v 2) (da_nil))))) (by decide)) (da_nil)))))))) (dss_one (ds_ret (de_non))) (dss_nil)) (dss_one (ds_ret (de_v 5))))⟩
theorem ok_to_ints (Z : Fx K mg) : Ok P w K mg base 3 "to_ints" ["value", "low", "high", "least", "most"] .fz Ph_to_ints := by
  obtain ⟨fd, F⟩ := Z.f_to_ints
  exact ok_fz (P := P) (w := w) (mg := mg) (base := base) (b := b_to_ints) (k := 2) (N := N_to_ints) F sc_to_ints bi_to_ints Z.g_to_ints (dd_to_ints Z)
abbrev N_to_skills : List Str := ["value"]
theorem sc_to_skills : FnScope N_to_skills ["value"] (defScope s_to_skills) := ⟨rfl, rfl, rfl, by decide +kernel, rfl, by decide +kernel, by decide +kernel⟩
theorem bi_to_skills : ∀ (kV doc pm : Value) (an : Option Addr) (cdv ct : Value) (us : List Value), us.length = (["value"] : List Str).length → bindArgs (PySem.W.fnOf "to_skills" "to_skills" (defArgs s_to_skills) (defBody s_to_skills) (defScope s_to_skills) .none kV doc pm an cdv ct) ⟨us, []⟩ = pure ((["value"] : List Str).zip us) :=
  fun _ _ _ _ _ _ us hl => match us, hl with | [_], _ => rfl
def b_to_skills : Bd := bRet (fB (Ph_to_ints) (aCons (vF 0) (aCons (cD (.int 0)) (aCons (cD (.int 50)) (aCons (cD (.int 2)) (aCons (cD (.int 10)) (aNil)))))))
def Ph_to_skills : List D → Option D := fnB (N_to_skills).length (["value"] : List Str).length b_to_skills
theorem dd_to_skills (Z : Fx K mg) (cdv : Value) (A : Around) (outer : List Env) (s : Shared) (H : Hp) (E : XK) (hr : Room (3) (A.deeper (envOfC "to_skills" (defScope s_to_skills) s.heap.objs.size (He.ga K "to_skills") cdv))) :
    ∃ W t, DSs (cxOf CX0 P w K mg base N_to_skills "to_skills" (defScope s_to_skills) (He.ga K "to_skills") cdv A outer s H E).nox .fz W (defBody s_to_skills) t (b_to_skills) := ⟨_, _,
  dss_one (ds_ret (de_fnK K (ok_to_ints Z) hr (by omega) rfl (da_cons (de_v 0) (da_cons (de_int) (da_cons (de_int) (da_cons (de_int) (da_cons (de_int) (da_nil))))))))⟩
theorem ok_to_skills (Z : Fx K mg) : Ok P w K mg base 4 "to_skills" ["value"] .fz Ph_to_skills := by
  obtain ⟨fd, F⟩ := Z.f_to_skills
  exact ok_fz (P := P) (w := w) (mg := mg) (base := base) (b := b_to_skills) (k := 3) (N := N_to_skills) F sc_to_skills bi_to_skills Z.g_to_skills (dd_to_skills Z)
abbrev N_teams_in : List Str := ["split"]
theorem sc_teams_in : FnScope N_teams_in ["split"] (defScope s_teams_in) := ⟨rfl, rfl, rfl, by decide +kernel, rfl, by decide +kernel, by decide +kernel⟩
theorem bi_teams_in : ∀ (kV doc pm : Value) (an : Option Addr) (cdv ct : Value) (us : List Value), us.length = (["split"] : List Str).length → bindArgs (PySem.W.fnOf "teams_in" "teams_in" (defArgs s_teams_in) (defBody s_teams_in) (defScope s_teams_in) .none kV doc pm an cdv ct) ⟨us, []⟩ = pure ((["split"] : List Str).zip us) :=
  fun _ _ _ _ _ _ us hl => match us, hl with | [_], _ => rfl
def b_teams_in : Bd := bRet (f2 addD (fB maxA (aCons (vF 0) (aNil))) (cD (.int 1)))
def Ph_teams_in : List D → Option D := fnB (N_teams_in).length (["split"] : List Str).length b_teams_in
theorem dd_teams_in (Z : Fx K mg) (cdv : Value) (A : Around) (outer : List Env) (s : Shared) (H : Hp) (E : XK) (hr : Room (0) (A.deeper (envOfC "teams_in" (defScope s_teams_in) s.heap.objs.size (He.ga K "teams_in") cdv))) :
    ∃ W t, DSs (cxOf CX0 P w K mg base N_teams_in "teams_in" (defScope s_teams_in) (He.ga K "teams_in") cdv A outer s H E).nox .fz W (defBody s_teams_in) t (b_teams_in) := ⟨_, _,
  dss_one (ds_ret (de_op (op_addAK K) ops_addA (de_cb (cr_maxAK K rfl hr.u70) cs_maxA rfl Z.n_max bt_max (da_cons (de_v 0) (da_nil))) (de_int)))⟩
theorem ok_teams_in (Z : Fx K mg) : Ok P w K mg base 1 "teams_in" ["split"] .fz Ph_teams_in := by
  obtain ⟨fd, F⟩ := Z.f_teams_in
  exact ok_fz (P := P) (w := w) (mg := mg) (base := base) (b := b_teams_in) (k := 0) (N := N_teams_in) F sc_teams_in bi_teams_in Z.g_teams_in (dd_teams_in Z)
abbrev N_sums_of : List Str := ["skills", "split", "sums", "at", "team"]
theorem sc_sums_of : FnScope N_sums_of ["skills", "split"] (defScope s_sums_of) := ⟨rfl, rfl, rfl, by decide +kernel, rfl, by decide +kernel, by decide +kernel⟩
def L_sums_of_1 : Bd := bAugSet addS 2 (vF 4) (f2 ixD (vF 0) (vF 3))
theorem bi_sums_of : ∀ (kV doc pm : Value) (an : Option Addr) (cdv ct : Value) (us : List Value), us.length = (["skills", "split"] : List Str).length → bindArgs (PySem.W.fnOf "sums_of" "sums_of" (defArgs s_sums_of) (defBody s_sums_of) (defScope s_sums_of) .none kV doc pm an cdv ct) ⟨us, []⟩ = pure ((["skills", "split"] : List Str).zip us) :=
  fun _ _ _ _ _ _ us hl => match us, hl with | [_, _], _ => rfl
def b_sums_of : Bd := bSeq (bOwn 2 (f2 repLD (fLst (aCons (cD (.int 0)) (aNil))) (fB (Ph_teams_in) (aCons (vF 1) (aNil))))) (bSeq (bFor (fEnum (vF 1)) (sT 2 (sCons (sN 3) (sCons (sN 4) (sNil)))) (L_sums_of_1)) (bRet (vO 2)))
def Ph_sums_of : List D → Option D := fnR (N_sums_of).length (["skills", "split"] : List Str).length b_sums_of
theorem dd_sums_of (Z : Fx K mg) (cdv : Value) (A : Around) (outer : List Env) (s : Shared) (H : Hp) (E : XK) (hr : Room (1) (A.deeper (envOfC "sums_of" (defScope s_sums_of) s.heap.objs.size (He.ga K "sums_of") cdv))) :
    ∃ W t, DSs (cxOf CX0 P w K mg base N_sums_of "sums_of" (defScope s_sums_of) (He.ga K "sums_of") cdv A outer s H E).nox .fr W (defBody s_sums_of) t (b_sums_of) := ⟨_, _,
  dss_cons (ds_own (i := 2) (de_repL2 (de_lst (da_cons (de_int) (da_nil))) (de_fnK K (ok_teams_in Z) hr (by omega) rfl (da_cons (de_v 1) (da_nil)))) sc_sums_of.nd) (dss_cons (ds_for (di_enumK K rfl Z.n_enumerate (de_v 1)) (dg_tK K (n := 2) (dgs_cons (dg_n sc_sums_of.nd (i := 3)) (dgs_cons (dg_n sc_sums_of.nd (i := 4)) (dgs_nil)))) (dss_one (ds_augAddS (j := 2) (de_v 4) (de_ixK K (de_v 0) (de_v 3))))) (dss_one (ds_retOwn (i := 2))))⟩
theorem ok_sums_of (Z : Fx K mg) : Ok P w K mg base 2 "sums_of" ["skills", "split"] .fr Ph_sums_of := by
  obtain ⟨fd, F⟩ := Z.f_sums_of
  exact ok_fr (P := P) (w := w) (mg := mg) (base := base) (b := b_sums_of) (k := 1) (N := N_sums_of) F sc_sums_of bi_sums_of Z.g_sums_of (dd_sums_of Z)
abbrev N_gap_of : List Str := ["skills", "split", "sums"]
theorem sc_gap_of : FnScope N_gap_of ["skills", "split"] (defScope s_gap_of) := ⟨rfl, rfl, rfl, by decide +kernel, rfl, by decide +kernel, by decide +kernel⟩
theorem bi_gap_of : ∀ (kV doc pm : Value) (an : Option Addr) (cdv ct : Value) (us : List Value), us.length = (["skills", "split"] : List Str).length → bindArgs (PySem.W.fnOf "gap_of" "gap_of" (defArgs s_gap_of) (defBody s_gap_of) (defScope s_gap_of) .none kV doc pm an cdv ct) ⟨us, []⟩ = pure ((["skills", "split"] : List Str).zip us) :=
  fun _ _ _ _ _ _ us hl => match us, hl with | [_, _], _ => rfl
def b_gap_of : Bd := bSeq (bAsg 2 (fB (Ph_sums_of) (aCons (vF 0) (aCons (vF 1) (aNil))))) (bRet (f2 subD (fB maxA (aCons (vF 2) (aNil))) (fB minA (aCons (vF 2) (aNil)))))
def Ph_gap_of : List D → Option D := fnB (N_gap_of).length (["skills", "split"] : List Str).length b_gap_of
theorem dd_gap_of (Z : Fx K mg) (cdv : Value) (A : Around) (outer : List Env) (s : Shared) (H : Hp) (E : XK) (hr : Room (2) (A.deeper (envOfC "gap_of" (defScope s_gap_of) s.heap.objs.size (He.ga K "gap_of") cdv))) :
    ∃ W t, DSs (cxOf CX0 P w K mg base N_gap_of "gap_of" (defScope s_gap_of) (He.ga K "gap_of") cdv A outer s H E).nox .fz W (defBody s_gap_of) t (b_gap_of) := ⟨_, _,
  dss_cons (ds_asg (i := 2) (DE.frz (de_fnK K (ok_sums_of Z) hr (by omega) rfl (da_cons (de_v 0) (da_cons (de_v 1) (da_nil))))) sc_gap_of.nd) (dss_one (ds_ret (de_op op_sub ops_sub (de_cb (cr_maxAK K rfl hr.u70) cs_maxA rfl Z.n_max bt_max (da_cons (de_v 2) (da_nil))) (de_cb (cr_minAK K rfl hr.u70) cs_minA rfl Z.n_min bt_min (da_cons (de_v 2) (da_nil))))))⟩
theorem ok_gap_of (Z : Fx K mg) : Ok P w K mg base 3 "gap_of" ["skills", "split"] .fz Ph_gap_of := by
  obtain ⟨fd, F⟩ := Z.f_gap_of
  exact ok_fz (P := P) (w := w) (mg := mg) (base := base) (b := b_gap_of) (k := 2) (N := N_gap_of) F sc_gap_of bi_gap_of Z.g_gap_of (dd_gap_of Z)
abbrev N_splits_into : List Str := ["many", "teams", "rows", "_", "row", "team"]
theorem sc_splits_into : FnScope N_splits_into ["many", "teams"] (defScope s_splits_into) := ⟨rfl, rfl, rfl, by decide +kernel, rfl, by decide +kernel, by decide +kernel⟩
def L_splits_into_1 : Bd := bAsg 2 (fLc2 (fI (vF 2)) (sN 4) (fYes) (fIs rg1D (aCons (fB min2D (aCons (f2 addD (fB maxA (aCons (vF 4) (aNil))) (cD (.int 2))) (aCons (vF 1) (aNil)))) (aNil))) (sN 5) (fYes) (f2 addD (vF 4) (fTup (aCons (vF 5) (aNil)))) [4, 5] [5])
theorem bi_splits_into : ∀ (kV doc pm : Value) (an : Option Addr) (cdv ct : Value) (us : List Value), us.length = (["many", "teams"] : List Str).length → bindArgs (PySem.W.fnOf "splits_into" "splits_into" (defArgs s_splits_into) (defBody s_splits_into) (defScope s_splits_into) .none kV doc pm an cdv ct) ⟨us, []⟩ = pure ((["many", "teams"] : List Str).zip us) :=
  fun _ _ _ _ _ _ us hl => match us, hl with | [_, _], _ => rfl
def b_splits_into : Bd := bSeq (bAsg 2 (fLst (aCons (fTup (aCons (cD (.int 0)) (aNil))) (aNil)))) (bSeq (bFor (fIs rg1D (aCons (f2 subD (vF 0) (cD (.int 1))) (aNil))) (sN 3) (L_splits_into_1)) (bRet (fLc (fI (vF 2)) (sN 4) (fT (f2 eqD (fB (Ph_teams_in) (aCons (vF 4) (aNil))) (vF 1))) (vF 4) [4])))
def Ph_splits_into : List D → Option D := fnR (N_splits_into).length (["many", "teams"] : List Str).length b_splits_into
theorem dd_splits_into (Z : Fx K mg) (cdv : Value) (A : Around) (outer : List Env) (s : Shared) (H : Hp) (E : XK) (hr : Room (1) (A.deeper (envOfC "splits_into" (defScope s_splits_into) s.heap.objs.size (He.ga K "splits_into") cdv))) :
    ∃ W t, DSs (cxOf CX0 P w K mg base N_splits_into "splits_into" (defScope s_splits_into) (He.ga K "splits_into") cdv A outer s H E).nox .fr W (defBody s_splits_into) t (b_splits_into) := ⟨_, _,
  dss_cons (ds_asg (i := 2) (DE.frz (de_lst (da_cons (de_tup (da_cons (de_int) (da_nil))) (da_nil)))) sc_splits_into.nd) (dss_cons (ds_for (di_rg1 rfl Z.n_range (da_cons (de_op op_sub ops_sub (de_v 0) (de_int)) (da_nil))) (dg_n sc_splits_into.nd (i := 3)) (dss_one (ds_asgLc2 (i := 2) [("row", 4), ("team", 5)] [5] sc_splits_into.nd (di_anyK K (de_v 2)) (blk_of (N := N_splits_into) (sc := defScope s_splits_into) (by decide +kernel)) (fun _ _ _ _ _ => dg_n sc_splits_into.nd (i := 4)) (fun _ _ _ _ _ => dts_nil) (fun _ _ _ _ _ => di_rg1 rfl Z.n_range (da_cons (de_cb (call_min2 rfl) cs_min2 rfl Z.n_min bt_min (da_cons (de_op (op_addAK K) ops_addA (de_cb (cr_maxAK K rfl hr.u70) cs_maxA rfl Z.n_max bt_max (da_cons (de_v 4) (da_nil))) (de_int)) (da_cons (de_v 1) (da_nil)))) (da_nil))) (fun _ _ _ _ _ => dg_n sc_splits_into.nd (i := 5)) (fun _ _ _ _ _ => dts_nil) (fun _ _ _ _ _ => de_op (op_addAK K) ops_addA (de_v 4) (de_tup (da_cons (de_v 5) (da_nil)))) (by decide) (by decide) (ow_n 4) (by decide) (sw_true rfl rfl rfl (by decide +kernel))))) (dss_one (ds_ret (de_lc [("row", 4)] sc_splits_into.nd (di_anyK K (de_v 2)) (blk_of (N := N_splits_into) (sc := defScope s_splits_into) (by decide +kernel)) (fun _ _ _ _ _ => dg_n sc_splits_into.nd (i := 4)) (fun _ _ _ _ _ => dts_one (dt_cmp (op_eqDK K hr.u64) ops_eq rfl (de_fnK K (ok_teams_in Z) hr (by omega) rfl (da_cons (de_v 4) (da_nil))) (de_v 1))) (fun _ _ _ _ _ => de_v 4) (by decide)))))⟩
theorem ok_splits_into (Z : Fx K mg) : Ok P w K mg base 2 "splits_into" ["many", "teams"] .fr Ph_splits_into := by
  obtain ⟨fd, F⟩ := Z.f_splits_into
  exact ok_fr (P := P) (w := w) (mg := mg) (base := base) (b := b_splits_into) (k := 1) (N := N_splits_into) F sc_splits_into bi_splits_into Z.g_splits_into (dd_splits_into Z)
abbrev N_many_even : List Str := ["skills", "teams", "gaps", "split"]
theorem sc_many_even : FnScope N_many_even ["skills", "teams"] (defScope s_many_even) := ⟨rfl, rfl, rfl, by decide +kernel, rfl, by decide +kernel, by decide +kernel⟩
theorem bi_many_even : ∀ (kV doc pm : Value) (an : Option Addr) (cdv ct : Value) (us : List Value), us.length = (["skills", "teams"] : List Str).length → bindArgs (PySem.W.fnOf "many_even" "many_even" (defArgs s_many_even) (defBody s_many_even) (defScope s_many_even) .none kV doc pm an cdv ct) ⟨us, []⟩ = pure ((["skills", "teams"] : List Str).zip us) :=
  fun _ _ _ _ _ _ us hl => match us, hl with | [_, _], _ => rfl
def b_many_even : Bd := bSeq (bAsg 0 (fB (Ph_need) (aCons (cD (.int 1)) (aCons (fB (Ph_to_skills) (aCons (vF 0) (aNil))) (aNil))))) (bSeq (bAsg 1 (fB (Ph_need_within) (aCons (cD (.int 2)) (aCons (vF 1) (aCons (cD (.int 2)) (aCons (cD (.int 4)) (aNil))))))) (bSeq (bAsg 2 (fLc (fI (fB (Ph_splits_into) (aCons (fB lenD (aCons (vF 0) (aNil))) (aCons (vF 1) (aNil))))) (sN 3) (fYes) (fB (Ph_gap_of) (aCons (vF 0) (aCons (vF 3) (aNil)))) [3])) (bRet (fIf (fTr (vF 2)) (f2 cntD (vF 2) (fB minA (aCons (vF 2) (aNil)))) (cD (.int 0))))))
def Ph_many_even : List D → Option D := fnB (N_many_even).length (["skills", "teams"] : List Str).length b_many_even
theorem dd_many_even (Z : Fx K mg) (cdv : Value) (A : Around) (outer : List Env) (s : Shared) (H : Hp) (E : XK) (hr : Room (4) (A.deeper (envOfC "many_even" (defScope s_many_even) s.heap.objs.size (He.ga K "many_even") cdv))) :
    ∃ W t, DSs (cxOf CX0 P w K mg base N_many_even "many_even" (defScope s_many_even) (He.ga K "many_even") cdv A outer s H E).nox .fz W (defBody s_many_even) t (b_many_even) := ⟨_, _,
  dss_cons (ds_asg (i := 0) (de_fnK K (ok_need Z) hr (by omega) rfl (da_cons (de_int) (da_cons (de_fnK K (ok_to_skills Z) hr (by omega) rfl (da_cons (de_v 0) (da_nil))) (da_nil)))) sc_many_even.nd) (dss_cons (ds_asg (i := 1) (de_fnK K (ok_need_within Z) hr (by omega) rfl (da_cons (de_int) (da_cons (de_v 1) (da_cons (de_int) (da_cons (de_int) (da_nil)))))) sc_many_even.nd) (dss_cons (ds_asgLc (i := 2) [("split", 3)] sc_many_even.nd (di_anyK K (DE.frz (de_fnK K (ok_splits_into Z) hr (by omega) rfl (da_cons (de_cb (call_lenK K) cs_len rfl Z.n_len bt_len (da_cons (de_v 0) (da_nil))) (da_cons (de_v 1) (da_nil)))))) (blk_of (N := N_many_even) (sc := defScope s_many_even) (by decide +kernel)) (fun _ _ _ _ _ => dg_n sc_many_even.nd (i := 3)) (fun _ _ _ _ _ => dts_nil) (fun _ _ _ _ _ => de_fnK K (ok_gap_of Z) hr (by omega) rfl (da_cons (de_v 0) (da_cons (de_v 3) (da_nil)))) (by decide) (sw_true rfl rfl rfl (by decide +kernel))) (dss_one (ds_ret (de_if (dt_truK K (de_v 2)) (de_count K hr.u65 (de_v 2) (de_cb (cr_minAK K rfl hr.u70) cs_minA rfl Z.n_min bt_min (da_cons (de_v 2) (da_nil)))) (de_int))))))⟩
theorem ok_many_even (Z : Fx K mg) : Ok P w K mg base 5 "many_even" ["skills", "teams"] .fz Ph_many_even := by
  obtain ⟨fd, F⟩ := Z.f_many_even
  exact ok_fz (P := P) (w := w) (mg := mg) (base := base) (b := b_many_even) (k := 4) (N := N_many_even) F sc_many_even bi_many_even Z.g_many_even (dd_many_even Z)
abbrev N_is_told : List Str := ["value", "told", "at", "member"]
theorem sc_is_told : FnScope N_is_told ["value", "told"] (defScope s_is_told) := ⟨rfl, rfl, rfl, by decide +kernel, rfl, by decide +kernel, by decide +kernel⟩
def L_is_told_1 (φ : List D → Option D) : Bd := bIf (fNotT (fTr (fB φ (aCons (f2 ixD (vF 0) (vF 2)) (aCons (vF 3) (aNil)))))) (bRet (cD (.bool false))) (bNext)
theorem bi_is_told : ∀ (kV doc pm : Value) (an : Option Addr) (cdv ct : Value) (us : List Value), us.length = (["value", "told"] : List Str).length → bindArgs (PySem.W.fnOf "is_told" "is_told" (defArgs s_is_told) (defBody s_is_told) (defScope s_is_told) .none kV doc pm an cdv ct) ⟨us, []⟩ = pure ((["value", "told"] : List Str).zip us) :=
  fun _ _ _ _ _ _ us hl => match us, hl with | [_, _], _ => rfl
def b_is_told (φ : List D → Option D) : Bd := bSeq (bIf (fT (f2 isND (vF 1) (cD .none))) (bRet (f2 isND (vF 0) (cD .none))) (bNext)) (bSeq (bIf (fTr (fIsi "bool" (vF 1))) (bRet (fAnd (fIsi "bool" (vF 0)) (f2 eqD (vF 0) (vF 1)))) (bNext)) (bSeq (bIf (fTr (fIsi "int" (vF 1))) (bRet (fAnd (fB (Ph_is_int) (aCons (vF 0) (aNil))) (f2 eqD (vF 0) (vF 1)))) (bNext)) (bSeq (bIf (fTr (fIsi "str" (vF 1))) (bRet (fAnd (fIsi "str" (vF 0)) (f2 eqD (vF 0) (vF 1)))) (bNext)) (bSeq (bIf (fOrT (fNotT (fTr (fB (Ph_is_seq) (aCons (vF 0) (aNil))))) (fT (f2 neD (fB lenD (aCons (vF 0) (aNil))) (fB lenD (aCons (vF 1) (aNil)))))) (bRet (cD (.bool false))) (bNext)) (bSeq (bFor (fEnum (vF 1)) (sT 2 (sCons (sN 2) (sCons (sN 3) (sNil)))) ((L_is_told_1 φ))) (bRet (cD (.bool true))))))))
def Ph_is_told : Nat → List D → Option D
  | 0 => fun _ => none
  | n + 1 => fnB (N_is_told).length (["value", "told"] : List Str).length (b_is_told (Ph_is_told n))
theorem dd_is_told (Z : Fx K mg) {φ : List D → Option D} (n : Nat) (ih : Ok P w K mg base (n + 1) "is_told" ["value", "told"] .fz φ) (cdv : Value) (A : Around) (outer : List Env) (s : Shared) (H : Hp) (E : XK) (hr : Room (n + 1) (A.deeper (envOfC "is_told" (defScope s_is_told) s.heap.objs.size (He.ga K "is_told") cdv))) :
    ∃ W t, DSs (cxOf CX0 P w K mg base N_is_told "is_told" (defScope s_is_told) (He.ga K "is_told") cdv A outer s H E).nox .fz W (defBody s_is_told) t (b_is_told φ) := ⟨_, _,
  dss_cons (ds_if (dt_cmp L2.op_isN ops_isN rfl (de_v 1) (de_non)) (dss_one (ds_ret (de_cmp L2.op_isN ops_isN rfl (de_v 0) (de_non)))) (dss_nil)) (dss_cons (ds_if (dt_truK K (de_isiK K rfl rfl Z.n_isinstance bt_isinstance rfl Z.n_bool bt_bool (de_v 1))) (dss_one (ds_ret (de_andK K (de_isiK K rfl rfl Z.n_isinstance bt_isinstance rfl Z.n_bool bt_bool (de_v 0)) (de_one (de_cmp (op_eqDK K hr.u64) ops_eq rfl (de_v 0) (de_v 1)))))) (dss_nil)) (dss_cons (ds_if (dt_truK K (de_isiK K rfl rfl Z.n_isinstance bt_isinstance rfl Z.n_int bt_int (de_v 1))) (dss_one (ds_ret (de_andK K (de_fnK K (ok_is_int Z) hr (by omega) rfl (da_cons (de_v 0) (da_nil))) (de_one (de_cmp (op_eqDK K hr.u64) ops_eq rfl (de_v 0) (de_v 1)))))) (dss_nil)) (dss_cons (ds_if (dt_truK K (de_isiK K rfl rfl Z.n_isinstance bt_isinstance rfl Z.n_str bt_str (de_v 1))) (dss_one (ds_ret (de_andK K (de_isiK K rfl rfl Z.n_isinstance bt_isinstance rfl Z.n_str bt_str (de_v 0)) (de_one (de_cmp (op_eqDK K hr.u64) ops_eq rfl (de_v 0) (de_v 1)))))) (dss_nil)) (dss_cons (ds_if (dt_w (dw_or (dt_not (dt_truK K (de_fnK K (ok_is_seq Z) hr (by omega) rfl (da_cons (de_v 0) (da_nil))))) (dw_or1 (dt_cmp (op_neDK K hr.u64) ops_ne rfl (de_cb (call_lenK K) cs_len rfl Z.n_len bt_len (da_cons (de_v 0) (da_nil))) (de_cb (call_lenK K) cs_len rfl Z.n_len bt_len (da_cons (de_v 1) (da_nil))))))) (dss_one (ds_ret (de_bl))) (dss_nil)) (dss_cons (ds_for (di_enumK K rfl Z.n_enumerate (de_v 1)) (dg_tK K (n := 2) (dgs_cons (dg_n sc_is_told.nd (i := 2)) (dgs_cons (dg_n sc_is_told.nd (i := 3)) (dgs_nil)))) (dss_one (ds_if (dt_not (dt_truK K (de_fnK K ih hr (by omega) rfl (da_cons (de_ixK K (de_v 0) (de_v 2)) (da_cons (de_v 3) (da_nil)))))) (dss_one (ds_ret (de_bl))) (dss_nil)))) (dss_one (ds_ret (de_bl))))))))⟩
theorem ok_is_told (Z : Fx K mg) : ∀ n : Nat, Ok P w K mg base (n + 1) "is_told" ["value", "told"] .fz (Ph_is_told n)
  | 0 => by obtain ⟨fd, F⟩ := Z.f_is_told; exact ok_zero F bi_is_told Z.g_is_told
  | n + 1 => by
    obtain ⟨fd, F⟩ := Z.f_is_told
    have e : n + 1 + 1 = n + 1 + 1 := by omega
    rw [e]
    exact ok_fz (P := P) (w := w) (mg := mg) (base := base) (b := b_is_told (Ph_is_told n)) (k := n + 1) (N := N_is_told) F sc_is_told bi_is_told Z.g_is_told (dd_is_told Z n (ok_is_told Z n))
abbrev N_chart : List Str := ["skills", "sums", "members", "skill", "total"]
theorem sc_chart : FnScope N_chart ["skills"] (defScope s_chart) := ⟨rfl, rfl, rfl, by decide +kernel, rfl, by decide +kernel, by decide +kernel⟩
def L_chart_1 : Bd := bSeq (bAsg 1 (f1 srtSetID (f2 addD (vF 1) (fLc (fI (vF 1)) (sN 4) (fYes) (f2 addD (vF 4) (vF 3)) [4])))) (bApp 2 (fB tupD (aCons (vF 1) (aNil))))
theorem bi_chart : ∀ (kV doc pm : Value) (an : Option Addr) (cdv ct : Value) (us : List Value), us.length = (["skills"] : List Str).length → bindArgs (PySem.W.fnOf "chart" "chart" (defArgs s_chart) (defBody s_chart) (defScope s_chart) .none kV doc pm an cdv ct) ⟨us, []⟩ = pure ((["skills"] : List Str).zip us) :=
  fun _ _ _ _ _ _ us hl => match us, hl with | [_], _ => rfl
def b_chart : Bd := bSeq (bAsg 0 (fB (Ph_need) (aCons (cD (.int 1)) (aCons (fB (Ph_to_skills) (aCons (vF 0) (aNil))) (aNil))))) (bSeq (bAsg 1 (fLst (aCons (f2 ixD (vF 0) (cD (.int 0))) (aNil)))) (bSeq (bOwn 2 (fLst (aCons (fB tupD (aCons (vF 1) (aNil))) (aNil)))) (bSeq (bFor (fI (fSl (vF 0) (oIs (cD (.int 1))) (oNo))) (sN 3) (L_chart_1)) (bRet (fB tupD (aCons (vP 2) (aNil)))))))
def Ph_chart : List D → Option D := fnB (N_chart).length (["skills"] : List Str).length b_chart
theorem dd_chart (Z : Fx K mg) (cdv : Value) (A : Around) (outer : List Env) (s : Shared) (H : Hp) (E : XK) (hr : Room (4) (A.deeper (envOfC "chart" (defScope s_chart) s.heap.objs.size (He.ga K "chart") cdv))) :
    ∃ W t, DSs (cxOf CX0 P w K mg base N_chart "chart" (defScope s_chart) (He.ga K "chart") cdv A outer s H E).nox .fz W (defBody s_chart) t (b_chart) := ⟨_, _,
  dss_cons (ds_asg (i := 0) (de_fnK K (ok_need Z) hr (by omega) rfl (da_cons (de_int) (da_cons (de_fnK K (ok_to_skills Z) hr (by omega) rfl (da_cons (de_v 0) (da_nil))) (da_nil)))) sc_chart.nd) (dss_cons (ds_asg (i := 1) (DE.frz (de_lst (da_cons (de_ixK K (de_v 0) (de_int)) (da_nil)))) sc_chart.nd) (dss_cons (ds_own (i := 2) (de_lst (da_cons (de_ct (cr_tupK K) cs_tup rfl Z.n_tuple bt_tuple (da_cons (de_v 1) (da_nil))) (da_nil))) sc_chart.nd) (dss_cons (ds_for (di_anyK K (de_slK K (de_v 0) (do_is (de_int)) (do_no))) (dg_n sc_chart.nd (i := 3)) (dss_cons (ds_asg (i := 1) (DE.frz (de_srtSetI rfl Z.n_sorted rfl Z.n_set (de_op (op_addAK K) ops_addA (de_v 1) (de_lc [("total", 4)] sc_chart.nd (di_anyK K (de_v 1)) (blk_of (N := N_chart) (sc := defScope s_chart) (by decide +kernel)) (fun _ _ _ _ _ => dg_n sc_chart.nd (i := 4)) (fun _ _ _ _ _ => dts_nil) (fun _ _ _ _ _ => de_op (op_addAK K) ops_addA (de_v 4) (de_v 3)) (by decide))))) sc_chart.nd) (dss_one (ds_app (j := 2) (de_ct (cr_tupK K) cs_tup rfl Z.n_tuple bt_tuple (da_cons (de_v 1) (da_nil))))))) (dss_one (ds_ret (de_ct (cr_tupK K) cs_tup rfl Z.n_tuple bt_tuple (da_cons (de_p 2) (da_nil))))))))⟩
theorem ok_chart (Z : Fx K mg) : Ok P w K mg base 5 "chart" ["skills"] .fz Ph_chart := by
  obtain ⟨fd, F⟩ := Z.f_chart
  exact ok_fz (P := P) (w := w) (mg := mg) (base := base) (b := b_chart) (k := 4) (N := N_chart) F sc_chart bi_chart Z.g_chart (dd_chart Z)
abbrev N_chart_holds : List Str := ["skills", "value"]
theorem sc_chart_holds : FnScope N_chart_holds ["skills", "value"] (defScope s_chart_holds) := ⟨rfl, rfl, rfl, by decide +kernel, rfl, by decide +kernel, by decide +kernel⟩
theorem bi_chart_holds : ∀ (kV doc pm : Value) (an : Option Addr) (cdv ct : Value) (us : List Value), us.length = (["skills", "value"] : List Str).length → bindArgs (PySem.W.fnOf "chart_holds" "chart_holds" (defArgs s_chart_holds) (defBody s_chart_holds) (defScope s_chart_holds) .none kV doc pm an cdv ct) ⟨us, []⟩ = pure ((["skills", "value"] : List Str).zip us) :=
  fun _ _ _ _ _ _ us hl => match us, hl with | [_, _], _ => rfl
def b_chart_holds : Bd := bRet (fB (Ph_is_told 4) (aCons (vF 1) (aCons (fB (Ph_chart) (aCons (vF 0) (aNil))) (aNil))))
def Ph_chart_holds : List D → Option D := fnB (N_chart_holds).length (["skills", "value"] : List Str).length b_chart_holds
theorem dd_chart_holds (Z : Fx K mg) (cdv : Value) (A : Around) (outer : List Env) (s : Shared) (H : Hp) (E : XK) (hr : Room (5) (A.deeper (envOfC "chart_holds" (defScope s_chart_holds) s.heap.objs.size (He.ga K "chart_holds") cdv))) :
    ∃ W t, DSs (cxOf CX0 P w K mg base N_chart_holds "chart_holds" (defScope s_chart_holds) (He.ga K "chart_holds") cdv A outer s H E).nox .fz W (defBody s_chart_holds) t (b_chart_holds) := ⟨_, _,
  dss_one (ds_ret (de_fnK K (ok_is_told Z 4) hr (by omega) rfl (da_cons (de_v 1) (da_cons (de_fnK K (ok_chart Z) hr (by omega) rfl (da_cons (de_v 0) (da_nil))) (da_nil)))))⟩
theorem ok_chart_holds (Z : Fx K mg) : Ok P w K mg base 6 "chart_holds" ["skills", "value"] .fz Ph_chart_holds := by
  obtain ⟨fd, F⟩ := Z.f_chart_holds
  exact ok_fz (P := P) (w := w) (mg := mg) (base := base) (b := b_chart_holds) (k := 5) (N := N_chart_holds) F sc_chart_holds bi_chart_holds Z.g_chart_holds (dd_chart_holds Z)
abbrev N_best_left : List Str := ["liking", "left", "child"]
theorem sc_best_left : FnScope N_best_left ["liking", "left"] (defScope s_best_left) := ⟨rfl, rfl, rfl, by decide +kernel, rfl, by decide +kernel, by decide +kernel⟩
theorem bi_best_left : ∀ (kV doc pm : Value) (an : Option Addr) (cdv ct : Value) (us : List Value), us.length = (["liking", "left"] : List Str).length → bindArgs (PySem.W.fnOf "best_left" "best_left" (defArgs s_best_left) (defBody s_best_left) (defScope s_best_left) .none kV doc pm an cdv ct) ⟨us, []⟩ = pure ((["liking", "left"] : List Str).zip us) :=
  fun _ _ _ _ _ _ us hl => match us, hl with | [_, _], _ => rfl
def b_best_left : Bd := bRet (f2 ixD (fLc (fI (vF 0)) (sN 2) (fT (f2 inD (vF 2) (vF 1))) (vF 2) [2]) (cD (.int 0)))
def Ph_best_left : List D → Option D := fnB (N_best_left).length (["liking", "left"] : List Str).length b_best_left
theorem dd_best_left (Z : Fx K mg) (cdv : Value) (A : Around) (outer : List Env) (s : Shared) (H : Hp) (E : XK) (hr : Room (0) (A.deeper (envOfC "best_left" (defScope s_best_left) s.heap.objs.size (He.ga K "best_left") cdv))) :
    ∃ W t, DSs (cxOf CX0 P w K mg base N_best_left "best_left" (defScope s_best_left) (He.ga K "best_left") cdv A outer s H E).nox .fz W (defBody s_best_left) t (b_best_left) := ⟨_, _,
  dss_one (ds_ret (de_ixK K (de_lc [("child", 2)] sc_best_left.nd (di_anyK K (de_v 0)) (blk_of (N := N_best_left) (sc := defScope s_best_left) (by decide +kernel)) (fun _ _ _ _ _ => dg_n sc_best_left.nd (i := 2)) (fun _ _ _ _ _ => dts_one (dt_cmp (op_in_K K hr.u65) ops_in rfl (de_v 2) (de_v 1))) (fun _ _ _ _ _ => de_v 2) (by decide)) (de_int)))⟩
theorem ok_best_left (Z : Fx K mg) : Ok P w K mg base 1 "best_left" ["liking", "left"] .fz Ph_best_left := by
  obtain ⟨fd, F⟩ := Z.f_best_left
  exact ok_fz (P := P) (w := w) (mg := mg) (base := base) (b := b_best_left) (k := 0) (N := N_best_left) F sc_best_left bi_best_left Z.g_best_left (dd_best_left Z)
abbrev N_picks_by : List Str := ["likings", "turns", "got", "left", "captain", "child"]
theorem sc_picks_by : FnScope N_picks_by ["likings", "turns"] (defScope s_picks_by) := ⟨rfl, rfl, rfl, by decide +kernel, rfl, by decide +kernel, by decide +kernel⟩
def L_picks_by_1 : Bd := bSeq (bAsg 5 (fBP .fz (Ph_best_left) (aCons (f2 ixD (vF 0) (vF 4)) (aCons (vP 3) (aNil))))) (bSeq (bDpApp 2 (vF 4) (vF 5)) (bRem 3 (vF 5)))
theorem bi_picks_by : ∀ (kV doc pm : Value) (an : Option Addr) (cdv ct : Value) (us : List Value), us.length = (["likings", "turns"] : List Str).length → bindArgs (PySem.W.fnOf "picks_by" "picks_by" (defArgs s_picks_by) (defBody s_picks_by) (defScope s_picks_by) .none kV doc pm an cdv ct) ⟨us, []⟩ = pure ((["likings", "turns"] : List Str).zip us) :=
  fun _ _ _ _ _ _ us hl => match us, hl with | [_, _], _ => rfl
def b_picks_by : Bd := bSeq (bDp 2 (nTup (rCons (fLst (aNil)) (rCons (fLst (aNil)) (rNil))))) (bSeq (bOwn 3 (fB lstD (aCons (f2 ixD (vF 0) (cD (.int 0))) (aNil)))) (bSeq (bFor (fI (vF 1)) (sN 4) (L_picks_by_1)) (bRet (fTup (aCons (fB tupD (aCons (dpIx 2 (cD (.int 0))) (aNil))) (aCons (fB tupD (aCons (dpIx 2 (cD (.int 1))) (aNil))) (aNil)))))))
def Ph_picks_by : List D → Option D := fnB (N_picks_by).length (["likings", "turns"] : List Str).length b_picks_by
theorem dd_picks_by (Z : Fx K mg) (cdv : Value) (A : Around) (outer : List Env) (s : Shared) (H : Hp) (E : XK) (hr : Room (1) (A.deeper (envOfC "picks_by" (defScope s_picks_by) s.heap.objs.size (He.ga K "picks_by") cdv))) :
    ∃ W t, DSs (cxOf CX0 P w K mg base N_picks_by "picks_by" (defScope s_picks_by) (He.ga K "picks_by") cdv A outer s H E).nox .fz W (defBody s_picks_by) t (b_picks_by) := ⟨_, _,
  dss_cons (ds_dp (i := 2) (dn_tup (dr_cons (de_lst (da_nil)) (dr_cons (de_lst (da_nil)) (dr_nil)))) sc_picks_by.nd) (dss_cons (ds_own (i := 3) (de_ct (call_list_ofK K) cs_lst rfl Z.n_list bt_list (da_cons (de_ixK K (de_v 0) (de_int)) (da_nil))) sc_picks_by.nd) (dss_cons (ds_for (di_anyK K (de_v 1)) (dg_n sc_picks_by.nd (i := 4)) (dss_cons (ds_asg (i := 5) (de_fnPK K (.inl rfl) (ok_best_left Z) hr (by omega) rfl (da_cons (DE.pk (de_ixK K (de_v 0) (de_v 4))) (da_cons (de_p 3) (da_nil)))) sc_picks_by.nd) (dss_cons (ds_dpApp (j := 2) (de_v 4) (de_v 5)) (dss_one (ds_rem (j := 3) (de_v 5)))))) (dss_one (ds_ret (de_tup (da_cons (de_ct (cr_tupK K) cs_tup rfl Z.n_tuple bt_tuple (da_cons (de_dpIx (j := 2) (de_int)) (da_nil))) (da_cons (de_ct (cr_tupK K) cs_tup rfl Z.n_tuple bt_tuple (da_cons (de_dpIx (j := 2) (de_int)) (da_nil))) (da_nil))))))))⟩
theorem ok_picks_by (Z : Fx K mg) : Ok P w K mg base 2 "picks_by" ["likings", "turns"] .fz Ph_picks_by := by
  obtain ⟨fd, F⟩ := Z.f_picks_by
  exact ok_fz (P := P) (w := w) (mg := mg) (base := base) (b := b_picks_by) (k := 1) (N := N_picks_by) F sc_picks_by bi_picks_by Z.g_picks_by (dd_picks_by Z)
abbrev N_to_pair : List Str := ["value"]
theorem sc_to_pair : FnScope N_to_pair ["value"] (defScope s_to_pair) := ⟨rfl, rfl, rfl, by decide +kernel, rfl, by decide +kernel, by decide +kernel⟩
theorem bi_to_pair : ∀ (kV doc pm : Value) (an : Option Addr) (cdv ct : Value) (us : List Value), us.length = (["value"] : List Str).length → bindArgs (PySem.W.fnOf "to_pair" "to_pair" (defArgs s_to_pair) (defBody s_to_pair) (defScope s_to_pair) .none kV doc pm an cdv ct) ⟨us, []⟩ = pure ((["value"] : List Str).zip us) :=
  fun _ _ _ _ _ _ us hl => match us, hl with | [_], _ => rfl
def b_to_pair : Bd := bRet (fB (Ph_to_row) (aCons (vF 0) (aCons (cD (.int 2)) (aCons (cD (.int 2)) (aNil)))))
def Ph_to_pair : List D → Option D := fnB (N_to_pair).length (["value"] : List Str).length b_to_pair
theorem dd_to_pair (Z : Fx K mg) (cdv : Value) (A : Around) (outer : List Env) (s : Shared) (H : Hp) (E : XK) (hr : Room (2) (A.deeper (envOfC "to_pair" (defScope s_to_pair) s.heap.objs.size (He.ga K "to_pair") cdv))) :
    ∃ W t, DSs (cxOf CX0 P w K mg base N_to_pair "to_pair" (defScope s_to_pair) (He.ga K "to_pair") cdv A outer s H E).nox .fz W (defBody s_to_pair) t (b_to_pair) := ⟨_, _,
  dss_one (ds_ret (de_fnK K (ok_to_row Z) hr (by omega) rfl (da_cons (de_v 0) (da_cons (de_int) (da_cons (de_int) (da_nil))))))⟩
theorem ok_to_pair (Z : Fx K mg) : Ok P w K mg base 3 "to_pair" ["value"] .fz Ph_to_pair := by
  obtain ⟨fd, F⟩ := Z.f_to_pair
  exact ok_fz (P := P) (w := w) (mg := mg) (base := base) (b := b_to_pair) (k := 2) (N := N_to_pair) F sc_to_pair bi_to_pair Z.g_to_pair (dd_to_pair Z)
abbrev N_to_liking : List Str := ["value", "liking"]
theorem sc_to_liking : FnScope N_to_liking ["value"] (defScope s_to_liking) := ⟨rfl, rfl, rfl, by decide +kernel, rfl, by decide +kernel, by decide +kernel⟩
theorem bi_to_liking : ∀ (kV doc pm : Value) (an : Option Addr) (cdv ct : Value) (us : List Value), us.length = (["value"] : List Str).length → bindArgs (PySem.W.fnOf "to_liking" "to_liking" (defArgs s_to_liking) (defBody s_to_liking) (defScope s_to_liking) .none kV doc pm an cdv ct) ⟨us, []⟩ = pure ((["value"] : List Str).zip us) :=
  fun _ _ _ _ _ _ us hl => match us, hl with | [_], _ => rfl
def b_to_liking : Bd := bSeq (bAsg 1 (fB (Ph_to_ints) (aCons (vF 0) (aCons (cD (.int 0)) (aCons (cD (.int 9)) (aCons (cD (.int 2)) (aCons (cD (.int 10)) (aNil)))))))) (bSeq (bIf (fOrT (fT (f2 isND (vF 1) (cD .none))) (fOrT (fT (f2 neD (f2 modD (fB lenD (aCons (vF 1) (aNil))) (cD (.int 2))) (cD (.int 0)))) (fT (f2 neD (fB sortedD (aCons (vF 1) (aNil))) (fLr1 (fB lenD (aCons (vF 1) (aNil)))))))) (bRet (cD .none)) (bNext)) (bRet (vF 1)))
def Ph_to_liking : List D → Option D := fnB (N_to_liking).length (["value"] : List Str).length b_to_liking
theorem dd_to_liking (Z : Fx K mg) (cdv : Value) (A : Around) (outer : List Env) (s : Shared) (H : Hp) (E : XK) (hr : Room (3) (A.deeper (envOfC "to_liking" (defScope s_to_liking) s.heap.objs.size (He.ga K "to_liking") cdv))) :
    ∃ W t, DSs (cxOf CX0 P w K mg base N_to_liking "to_liking" (defScope s_to_liking) (He.ga K "to_liking") cdv A outer s H E).nox .fz W (defBody s_to_liking) t (b_to_liking) := ⟨_, _,
  dss_cons (ds_asg (i := 1) (de_fnK K (ok_to_ints Z) hr (by omega) rfl (da_cons (de_v 0) (da_cons (de_int) (da_cons (de_int) (da_cons (de_int) (da_cons (de_int) (da_nil))))))) sc_to_liking.nd) (dss_cons (ds_if (dt_w (dw_or (dt_cmp L2.op_isN ops_isN rfl (de_v 1) (de_non)) (dw_or (dt_cmp (op_neDK K hr.u64) ops_ne rfl (de_op op_modN ops_mod (de_cb (call_lenK K) cs_len rfl Z.n_len bt_len (da_cons (de_v 1) (da_nil))) (de_int)) (de_int)) (dw_or1 (dt_cmp (op_neDK K hr.u64) ops_ne rfl (de_cb (cr_srtK K hr.u70) cs_srt rfl Z.n_sorted bt_sorted (da_cons (de_v 1) (da_nil))) (de_lr1 rfl Z.n_list rfl Z.n_range (de_cb (call_lenK K) cs_len rfl Z.n_len bt_len (da_cons (de_v 1) (da_nil))))))))) (dss_one (ds_ret (de_non))) (dss_nil)) (dss_one (ds_ret (de_v 1))))⟩
theorem ok_to_liking (Z : Fx K mg) : Ok P w K mg base 4 "to_liking" ["value"] .fz Ph_to_liking := by
  obtain ⟨fd, F⟩ := Z.f_to_liking
  exact ok_fz (P := P) (w := w) (mg := mg) (base := base) (b := b_to_liking) (k := 3) (N := N_to_liking) F sc_to_liking bi_to_liking Z.g_to_liking (dd_to_liking Z)
abbrev N_to_likings : List Str := ["value", "pair", "one", "other"]
theorem sc_to_likings : FnScope N_to_likings ["value"] (defScope s_to_likings) := ⟨rfl, rfl, rfl, by decide +kernel, rfl, by decide +kernel, by decide +kernel⟩
theorem bi_to_likings : ∀ (kV doc pm : Value) (an : Option Addr) (cdv ct : Value) (us : List Value), us.length = (["value"] : List Str).length → bindArgs (PySem.W.fnOf "to_likings" "to_likings" (defArgs s_to_likings) (defBody s_to_likings) (defScope s_to_likings) .none kV doc pm an cdv ct) ⟨us, []⟩ = pure ((["value"] : List Str).zip us) :=
  fun _ _ _ _ _ _ us hl => match us, hl with | [_], _ => rfl
def b_to_likings : Bd := bSeq (bAsg 1 (fB (Ph_to_pair) (aCons (vF 0) (aNil)))) (bSeq (bIf (fT (f2 isND (vF 1) (cD .none))) (bRet (cD .none)) (bNext)) (bSeq (bAsg 2 (fB (Ph_to_liking) (aCons (f2 ixD (vF 1) (cD (.int 0))) (aNil)))) (bSeq (bAsg 3 (fB (Ph_to_liking) (aCons (f2 ixD (vF 1) (cD (.int 1))) (aNil)))) (bSeq (bIf (fOrT (fT (f2 isND (vF 2) (cD .none))) (fOrT (fT (f2 isND (vF 3) (cD .none))) (fT (f2 neD (fB lenD (aCons (vF 2) (aNil))) (fB lenD (aCons (vF 3) (aNil))))))) (bRet (cD .none)) (bNext)) (bRet (fTup (aCons (vF 2) (aCons (vF 3) (aNil)))))))))
def Ph_to_likings : List D → Option D := fnB (N_to_likings).length (["value"] : List Str).length b_to_likings
theorem dd_to_likings (Z : Fx K mg) (cdv : Value) (A : Around) (outer : List Env) (s : Shared) (H : Hp) (E : XK) (hr : Room (4) (A.deeper (envOfC "to_likings" (defScope s_to_likings) s.heap.objs.size (He.ga K "to_likings") cdv))) :
    ∃ W t, DSs (cxOf CX0 P w K mg base N_to_likings "to_likings" (defScope s_to_likings) (He.ga K "to_likings") cdv A outer s H E).nox .fz W (defBody s_to_likings) t (b_to_likings) := ⟨_, _,
  dss_cons (ds_asg (i := 1) (de_fnK K (ok_to_pair Z) hr (by omega) rfl (da_cons (de_v 0) (da_nil))) sc_to_likings.nd) (dss_cons (ds_if (dt_cmp L2.op_isN ops_isN rfl (de_v 1) (de_non)) (dss_one (ds_ret (de_non))) (dss_nil)) (dss_cons (ds_asg (i := 2) (de_fnK K (ok_to_liking Z) hr (by omega) rfl (da_cons (de_ixK K (de_v 1) (de_int)) (da_nil))) sc_to_likings.nd) (dss_cons (ds_asg (i := 3) (de_fnK K (ok_to_liking Z) hr (by omega) rfl (da_cons (de_ixK K (de_v 1) (de_int)) (da_nil))) sc_to_likings.nd) (dss_cons (ds_if (dt_w (dw_or (dt_cmp L2.op_isN ops_isN rfl (de_v 2) (de_non)) (dw_or (dt_cmp L2.op_isN ops_isN rfl (de_v 3) (de_non)) (dw_or1 (dt_cmp (op_neDK K hr.u64) ops_ne rfl (de_cb (call_lenK K) cs_len rfl Z.n_len bt_len (da_cons (de_v 2) (da_nil))) (de_cb (call_lenK K) cs_len rfl Z.n_len bt_len (da_cons (de_v 3) (da_nil)))))))) (dss_one (ds_ret (de_non))) (dss_nil)) (dss_one (ds_ret (de_tup (da_cons (de_v 2) (da_cons (de_v 3) (da_nil))))))))))⟩
theorem ok_to_likings (Z : Fx K mg) : Ok P w K mg base 5 "to_likings" ["value"] .fz Ph_to_likings := by
  obtain ⟨fd, F⟩ := Z.f_to_likings
  exact ok_fz (P := P) (w := w) (mg := mg) (base := base) (b := b_to_likings) (k := 4) (N := N_to_likings) F sc_to_likings bi_to_likings Z.g_to_likings (dd_to_likings Z)
abbrev N_picked : List Str := ["likings", "turns"]
theorem sc_picked : FnScope N_picked ["likings", "turns"] (defScope s_picked) := ⟨rfl, rfl, rfl, by decide +kernel, rfl, by decide +kernel, by decide +kernel⟩
theorem bi_picked : ∀ (kV doc pm : Value) (an : Option Addr) (cdv ct : Value) (us : List Value), us.length = (["likings", "turns"] : List Str).length → bindArgs (PySem.W.fnOf "picked" "picked" (defArgs s_picked) (defBody s_picked) (defScope s_picked) .none kV doc pm an cdv ct) ⟨us, []⟩ = pure ((["likings", "turns"] : List Str).zip us) :=
  fun _ _ _ _ _ _ us hl => match us, hl with | [_, _], _ => rfl
def b_picked : Bd := bSeq (bAsg 0 (fB (Ph_need) (aCons (cD (.int 1)) (aCons (fB (Ph_to_likings) (aCons (vF 0) (aNil))) (aNil))))) (bSeq (bAsg 1 (fB (Ph_need) (aCons (cD (.int 2)) (aCons (fB (Ph_to_ints) (aCons (vF 1) (aCons (cD (.int 0)) (aCons (cD (.int 1)) (aCons (fB lenD (aCons (f2 ixD (vF 0) (cD (.int 0))) (aNil))) (aCons (fB lenD (aCons (f2 ixD (vF 0) (cD (.int 0))) (aNil))) (aNil))))))) (aNil))))) (bRet (fB (Ph_picks_by) (aCons (vF 0) (aCons (vF 1) (aNil))))))
def Ph_picked : List D → Option D := fnB (N_picked).length (["likings", "turns"] : List Str).length b_picked
theorem dd_picked (Z : Fx K mg) (cdv : Value) (A : Around) (outer : List Env) (s : Shared) (H : Hp) (E : XK) (hr : Room (5) (A.deeper (envOfC "picked" (defScope s_picked) s.heap.objs.size (He.ga K "picked") cdv))) :
    ∃ W t, DSs (cxOf CX0 P w K mg base N_picked "picked" (defScope s_picked) (He.ga K "picked") cdv A outer s H E).nox .fz W (defBody s_picked) t (b_picked) := ⟨_, _,
  dss_cons (ds_asg (i := 0) (de_fnK K (ok_need Z) hr (by omega) rfl (da_cons (de_int) (da_cons (de_fnK K (ok_to_likings Z) hr (by omega) rfl (da_cons (de_v 0) (da_nil))) (da_nil)))) sc_picked.nd) (dss_cons (ds_asg (i := 1) (de_fnK K (ok_need Z) hr (by omega) rfl (da_cons (de_int) (da_cons (de_fnK K (ok_to_ints Z) hr (by omega) rfl (da_cons (de_v 1) (da_cons (de_int) (da_cons (de_int) (da_cons (de_cb (call_lenK K) cs_len rfl Z.n_len bt_len (da_cons (de_ixK K (de_v 0) (de_int)) (da_nil))) (da_cons (de_cb (call_lenK K) cs_len rfl Z.n_len bt_len (da_cons (de_ixK K (de_v 0) (de_int)) (da_nil))) (da_nil))))))) (da_nil)))) sc_picked.nd) (dss_one (ds_ret (de_fnK K (ok_picks_by Z) hr (by omega) rfl (da_cons (de_v 0) (da_cons (de_v 1) (da_nil)))))))⟩
theorem ok_picked (Z : Fx K mg) : Ok P w K mg base 6 "picked" ["likings", "turns"] .fz Ph_picked := by
  obtain ⟨fd, F⟩ := Z.f_picked
  exact ok_fz (P := P) (w := w) (mg := mg) (base := base) (b := b_picked) (k := 5) (N := N_picked) F sc_picked bi_picked Z.g_picked (dd_picked Z)
abbrev N__law_worth : List Str := ["liking", "got", "child"]
theorem sc__law_worth : FnScope N__law_worth ["liking", "got"] (defScope s__law_worth) := ⟨rfl, rfl, rfl, by decide +kernel, rfl, by decide +kernel, by decide +kernel⟩
theorem bi__law_worth : ∀ (kV doc pm : Value) (an : Option Addr) (cdv ct : Value) (us : List Value), us.length = (["liking", "got"] : List Str).length → bindArgs (PySem.W.fnOf "_law_worth" "_law_worth" (defArgs s__law_worth) (defBody s__law_worth) (defScope s__law_worth) .none kV doc pm an cdv ct) ⟨us, []⟩ = pure ((["liking", "got"] : List Str).zip us) :=
  fun _ _ _ _ _ _ us hl => match us, hl with | [_, _], _ => rfl
def b__law_worth : Bd := bRet (fB sumD (aCons (fLc (fI (vF 1)) (sN 2) (fYes) (f2 subD (f2 subD (fB lenD (aCons (vF 0) (aNil))) (cD (.int 1))) (f2 idxD (vF 0) (vF 2))) [2]) (aNil)))
def Ph__law_worth : List D → Option D := fnB (N__law_worth).length (["liking", "got"] : List Str).length b__law_worth
theorem dd__law_worth (Z : Fx K mg) (cdv : Value) (A : Around) (outer : List Env) (s : Shared) (H : Hp) (E : XK) (hr : Room (0) (A.deeper (envOfC "_law_worth" (defScope s__law_worth) s.heap.objs.size (He.ga K "_law_worth") cdv))) :
    ∃ W t, DSs (cxOf CX0 P w K mg base N__law_worth "_law_worth" (defScope s__law_worth) (He.ga K "_law_worth") cdv A outer s H E).nox .fz W (defBody s__law_worth) t (b__law_worth) := ⟨_, _,
  dss_one (ds_ret (de_cb (cr_sumAK K rfl) cs_sum rfl Z.n_sum bt_sum (da_cons (de_lc [("child", 2)] sc__law_worth.nd (di_anyK K (de_v 1)) (blk_of (N := N__law_worth) (sc := defScope s__law_worth) (by decide +kernel)) (fun _ _ _ _ _ => dg_n sc__law_worth.nd (i := 2)) (fun _ _ _ _ _ => dts_nil) (fun _ _ _ _ _ => de_op op_sub ops_sub (de_op op_sub ops_sub (de_cb (call_lenK K) cs_len rfl Z.n_len bt_len (da_cons (de_v 0) (da_nil))) (de_int)) (de_index K hr.u65 (de_v 0) (de_v 2))) (by decide)) (da_nil))))⟩
theorem ok__law_worth (Z : Fx K mg) : Ok P w K mg base 1 "_law_worth" ["liking", "got"] .fz Ph__law_worth := by
  obtain ⟨fd, F⟩ := Z.f__law_worth
  exact ok_fz (P := P) (w := w) (mg := mg) (base := base) (b := b__law_worth) (k := 0) (N := N__law_worth) F sc__law_worth bi__law_worth Z.g__law_worth (dd__law_worth Z)
abbrev N__law_replies : List Str := ["likings", "turns", "captain", "rows", "who", "longer", "got", "left", "best", "child", "one"]
theorem sc__law_replies : FnScope N__law_replies ["likings", "turns", "captain"] (defScope s__law_replies) := ⟨rfl, rfl, rfl, by decide +kernel, rfl, by decide +kernel, by decide +kernel⟩
def L__law_replies_1 : Bd := bIf (fT (f2 eqD (vF 4) (vF 2))) (bOwn 5 (f2 catLD (vP 5) (fLc (fI (vF 7)) (sN 9) (fYes) (fTup (aCons (f2 addD (vF 6) (fTup (aCons (vF 9) (aNil)))) (aCons (fB tupD (aCons (fLc (fI (vF 7)) (sN 10) (fT (f2 neD (vF 10) (vF 9))) (vF 10) [10]) (aNil))) (aNil)))) [9]))) (bSeq (bAsg 8 (f2 ixD (fLc (fI (f2 ixD (vF 0) (vF 4))) (sN 9) (fT (f2 inD (vF 9) (vF 7))) (vF 9) [9]) (cD (.int 0)))) (bApp 5 (fTup (aCons (vF 6) (aCons (fB tupD (aCons (fLc (fI (vF 7)) (sN 10) (fT (f2 neD (vF 10) (vF 8))) (vF 10) [10]) (aNil))) (aNil))))))
def L__law_replies_2 : Bd := bSeq (bOwn 5 (fLst (aNil))) (bSeq (bFor (fI (vF 3)) (sT 2 (sCons (sN 6) (sCons (sN 7) (sNil)))) (L__law_replies_1)) (bMove 3 5))
theorem bi__law_replies : ∀ (kV doc pm : Value) (an : Option Addr) (cdv ct : Value) (us : List Value), us.length = (["likings", "turns", "captain"] : List Str).length → bindArgs (PySem.W.fnOf "_law_replies" "_law_replies" (defArgs s__law_replies) (defBody s__law_replies) (defScope s__law_replies) .none kV doc pm an cdv ct) ⟨us, []⟩ = pure ((["likings", "turns", "captain"] : List Str).zip us) :=
  fun _ _ _ _ _ _ us hl => match us, hl with | [_, _, _], _ => rfl
def b__law_replies : Bd := bSeq (bAsg 3 (fLst (aCons (fTup (aCons (fTup (aNil)) (aCons (fB tupD (aCons (fB sortedD (aCons (f2 ixD (vF 0) (cD (.int 0))) (aNil))) (aNil))) (aNil)))) (aNil)))) (bSeq (bFor (fI (vF 1)) (sN 4) (L__law_replies_2)) (bRet (fB sortedD (aCons (fLc (fI (vF 3)) (sT 2 (sCons (sN 6) (sCons (sN 7) (sNil)))) (fYes) (fTup (aCons (f2 subD (cD (.int 0)) (fB (Ph__law_worth) (aCons (f2 ixD (vF 0) (vF 2)) (aCons (vF 6) (aNil))))) (aCons (vF 6) (aNil)))) [6, 7]) (aNil)))))
def Ph__law_replies : List D → Option D := fnR (N__law_replies).length (["likings", "turns", "captain"] : List Str).length b__law_replies
theorem dd__law_replies (Z : Fx K mg) (cdv : Value) (A : Around) (outer : List Env) (s : Shared) (H : Hp) (E : XK) (hr : Room (1) (A.deeper (envOfC "_law_replies" (defScope s__law_replies) s.heap.objs.size (He.ga K "_law_replies") cdv))) :
    ∃ W t, DSs (cxOf CX0 P w K mg base N__law_replies "_law_replies" (defScope s__law_replies) (He.ga K "_law_replies") cdv A outer s H E).nox .fr W (defBody s__law_replies) t (b__law_replies) := ⟨_, _,
  dss_cons (ds_asg (i := 3) (DE.frz (de_lst (da_cons (de_tup (da_cons (de_tup (da_nil)) (da_cons (de_ct (cr_tupK K) cs_tup rfl Z.n_tuple bt_tuple (da_cons (de_cb (cr_srtK K hr.u70) cs_srt rfl Z.n_sorted bt_sorted (da_cons (de_ixK K (de_v 0) (de_int)) (da_nil))) (da_nil))) (da_nil)))) (da_nil)))) sc__law_replies.nd) (dss_cons (ds_for (di_anyK K (de_v 1)) (dg_n sc__law_replies.nd (i := 4)) (dss_cons (ds_own (i := 5) (de_lst (da_nil)) sc__law_replies.nd) (dss_cons (ds_for (di_anyK K (de_v 3)) (dg_tK K (n := 2) (dgs_cons (dg_n sc__law_replies.nd (i := 6)) (dgs_cons (dg_n sc__law_replies.nd (i := 7)) (dgs_nil)))) (dss_one (ds_if (dt_cmp (op_eqDK K hr.u64) ops_eq rfl (de_v 4) (de_v 2)) (dss_one (ds_own (i := 5) (de_op (op_catLLK K) ops_catL (de_p 5) (de_lc [("child", 9)] sc__law_replies.nd (di_anyK K (de_v 7)) (blk_of (N := N__law_replies) (sc := defScope s__law_replies) (by decide +kernel)) (fun _ _ _ _ _ => dg_n sc__law_replies.nd (i := 9)) (fun _ _ _ _ _ => dts_nil) (fun _ _ _ _ _ => de_tup (da_cons (de_op (op_addAK K) ops_addA (de_v 6) (de_tup (da_cons (de_v 9) (da_nil)))) (da_cons (de_ct (cr_tupK K) cs_tup rfl Z.n_tuple bt_tuple (da_cons (de_lc [("one", 10)] sc__law_replies.nd (di_anyK K (de_v 7)) (blk_of (by with_unfolding_all rfl)) (fun _ _ _ _ _ => dg_n sc__law_replies.nd (i := 10)) (fun _ _ _ _ _ => dts_one (dt_cmp (op_neDK K hr.u64) ops_ne rfl (de_v 10) (de_v 9))) (fun _ _ _ _ _ => de_v 10) (by decide)) (da_nil))) (da_nil)))) (by decide))) sc__law_replies.nd)) (dss_cons (ds_asg (i := 8) (de_ixK K (de_lc [("child", 9)] sc__law_replies.nd (di_anyK K (de_ixK K (de_v 0) (de_v 4))) (blk_of (N := N__law_replies) (sc := defScope s__law_replies) (by decide +kernel)) (fun _ _ _ _ _ => dg_n sc__law_replies.nd (i := 9)) (fun _ _ _ _ _ => dts_one (dt_cmp (op_in_K K hr.u65) ops_in rfl (de_v 9) (de_v 7))) (fun _ _ _ _ _ => de_v 9) (by decide)) (de_int)) sc__law_replies.nd) (dss_one (ds_app (j := 5) (de_tup (da_cons (de_v 6) (da_cons (de_ct (cr_tupK K) cs_tup rfl Z.n_tuple bt_tuple (da_cons (de_lc [("one", 10)] sc__law_replies.nd (di_anyK K (de_v 7)) (blk_of (N := N__law_replies) (sc := defScope s__law_replies) (by decide +kernel)) (fun _ _ _ _ _ => dg_n sc__law_replies.nd (i := 10)) (fun _ _ _ _ _ => dts_one (dt_cmp (op_neDK K hr.u64) ops_ne rfl (de_v 10) (de_v 8))) (fun _ _ _ _ _ => de_v 10) (by decide)) (da_nil))) (da_nil)))))))))) (dss_one (ds_move sc__law_replies.nd (i := 3) (j := 5)))))) (dss_one (ds_ret (de_cb (cr_srtK K hr.u70) cs_srt rfl Z.n_sorted bt_sorted (da_cons (de_lc [("got", 6), ("left", 7)] sc__law_replies.nd (di_anyK K (de_v 3)) (blk_of (N := N__law_replies) (sc := defScope s__law_replies) (by decide +kernel)) (fun _ _ _ _ _ => dg_tK K (n := 2) (dgs_cons (dg_n sc__law_replies.nd (i := 6)) (dgs_cons (dg_n sc__law_replies.nd (i := 7)) (dgs_nil)))) (fun _ _ _ _ _ => dts_nil) (fun _ _ _ _ _ => de_tup (da_cons (de_op op_sub ops_sub (de_int) (de_fnK K (ok__law_worth Z) hr (by omega) rfl (da_cons (de_ixK K (de_v 0) (de_v 2)) (da_cons (de_v 6) (da_nil))))) (da_cons (de_v 6) (da_nil)))) (by decide)) (da_nil))))))⟩
theorem ok__law_replies (Z : Fx K mg) : Ok P w K mg base 2 "_law_replies" ["likings", "turns", "captain"] .fr Ph__law_replies := by
  obtain ⟨fd, F⟩ := Z.f__law_replies
  exact ok_fr (P := P) (w := w) (mg := mg) (base := base) (b := b__law_replies) (k := 1) (N := N__law_replies) F sc__law_replies bi__law_replies Z.g__law_replies (dd__law_replies Z)
abbrev N__law_numbers : List Str := ["script", "spot", "size", "cell", "numbers", "remains", "k", "spun"]
theorem sc__law_numbers : FnScope N__law_numbers ["script", "spot", "size"] (defScope s__law_numbers) := ⟨rfl, rfl, rfl, by decide +kernel, rfl, by decide +kernel, by decide +kernel⟩
def L__law_numbers_1 : Bd := bIf (fT (f2 geD (vF 3) (f2 powD (cD (.int 10)) (cD (.int 18))))) (bSeq (bApp 4 (f2 modD (fB intD (aCons (vF 5) (aNil))) (f2 powD (cD (.int 10)) (cD (.int 9))))) (bAsg 5 (f2 fdivD (vF 5) (f2 powD (cD (.int 10)) (cD (.int 9)))))) (bSeq (bAsg 7 (f2 modD (fB intD (aCons (f2 addD (f2 addD (f2 mulD (vF 3) (cD (.int 48271))) (f2 mulD (f2 addD (vF 6) (cD (.int 1))) (cD (.int 69621)))) (vF 1)) (aNil))) (cD (.int 2147483647)))) (bApp 4 (f2 modD (f2 modD (fB intD (aCons (f2 addD (f2 mulD (vF 7) (cD (.int 16807))) (f2 mulD (f2 addD (vF 6) (cD (.int 3))) (cD (.int 40692)))) (aNil))) (cD (.int 2147483399))) (f2 powD (cD (.int 10)) (cD (.int 9))))))
theorem bi__law_numbers : ∀ (kV doc pm : Value) (an : Option Addr) (cdv ct : Value) (us : List Value), us.length = (["script", "spot", "size"] : List Str).length → bindArgs (PySem.W.fnOf "_law_numbers" "_law_numbers" (defArgs s__law_numbers) (defBody s__law_numbers) (defScope s__law_numbers) .none kV doc pm an cdv ct) ⟨us, []⟩ = pure ((["script", "spot", "size"] : List Str).zip us) :=
  fun _ _ _ _ _ _ us hl => match us, hl with | [_, _, _], _ => rfl
def b__law_numbers : Bd := bSeq (bAsg 3 (fB (Ph__law_cell) (aCons (vF 0) (aCons (vF 1) (aNil))))) (bSeq (bOwn 4 (fLst (aNil))) (bSeq (bAsg 5 (vF 3)) (bSeq (bFor (fIs rg1D (aCons (vF 2) (aNil))) (sN 6) (L__law_numbers_1)) (bRet (vO 4)))))
def Ph__law_numbers : List D → Option D := fnR (N__law_numbers).length (["script", "spot", "size"] : List Str).length b__law_numbers
theorem dd__law_numbers (Z : Fx K mg) (cdv : Value) (A : Around) (outer : List Env) (s : Shared) (H : Hp) (E : XK) (hr : Room (1) (A.deeper (envOfC "_law_numbers" (defScope s__law_numbers) s.heap.objs.size (He.ga K "_law_numbers") cdv))) :
    ∃ W t, DSs (cxOf CX0 P w K mg base N__law_numbers "_law_numbers" (defScope s__law_numbers) (He.ga K "_law_numbers") cdv A outer s H E).nox .fr W (defBody s__law_numbers) t (b__law_numbers) := ⟨_, _,
  dss_cons (ds_asg (i := 3) (de_fnK K (ok__law_cell Z) hr (by omega) rfl (da_cons (de_v 0) (da_cons (de_v 1) (da_nil)))) sc__law_numbers.nd) (dss_cons (ds_own (i := 4) (de_lst (da_nil)) sc__law_numbers.nd) (dss_cons (ds_asg (i := 5) (de_v 3) sc__law_numbers.nd) (dss_cons (ds_for (di_rg1 rfl Z.n_range (da_cons (de_v 2) (da_nil))) (dg_n sc__law_numbers.nd (i := 6)) (dss_one (ds_if (dt_cmp (op_ge_K K hr.u64) ops_ge rfl (de_v 3) (de_op op_pow ops_pow (de_int) (de_int))) (dss_cons (ds_app (j := 4) (de_op op_modN ops_mod (de_ct call_int1 cs_int rfl Z.n_int bt_int (da_cons (de_v 5) (da_nil))) (de_op op_pow ops_pow (de_int) (de_int)))) (dss_one (ds_asg (i := 5) (de_op op_fdivN ops_fdiv (de_v 5) (de_op op_pow ops_pow (de_int) (de_int))) sc__law_numbers.nd))) (dss_cons (ds_asg (i := 7) (de_op op_modN ops_mod (de_ct call_int1 cs_int rfl Z.n_int bt_int (da_cons (de_op (op_addAK K) ops_addA (de_op (op_addAK K) ops_addA (de_op op_mul ops_mul (de_v 3) (de_int)) (de_op op_mul ops_mul (de_op (op_addAK K) ops_addA (de_v 6) (de_int)) (de_int))) (de_v 1)) (da_nil))) (de_int)) sc__law_numbers.nd) (dss_one (ds_app (j := 4) (de_op op_modN ops_mod (de_op op_modN ops_mod (de_ct call_int1 cs_int rfl Z.n_int bt_int (da_cons (de_op (op_addAK K) ops_addA (de_op op_mul ops_mul (de_v 7) (de_int)) (de_op op_mul ops_mul (de_op (op_addAK K) ops_addA (de_v 6) (de_int)) (de_int))) (da_nil))) (de_int)) (de_op op_pow ops_pow (de_int) (de_int))))))))) (dss_one (ds_retOwn (i := 4))))))⟩
theorem ok__law_numbers (Z : Fx K mg) : Ok P w K mg base 2 "_law_numbers" ["script", "spot", "size"] .fr Ph__law_numbers := by
  obtain ⟨fd, F⟩ := Z.f__law_numbers
  exact ok_fr (P := P) (w := w) (mg := mg) (base := base) (b := b__law_numbers) (k := 1) (N := N__law_numbers) F sc__law_numbers bi__law_numbers Z.g__law_numbers (dd__law_numbers Z)
abbrev N__law_sums : List Str := ["skills", "split", "teams", "team", "k"]
theorem sc__law_sums : FnScope N__law_sums ["skills", "split", "teams"] (defScope s__law_sums) := ⟨rfl, rfl, rfl, by decide +kernel, rfl, by decide +kernel, by decide +kernel⟩
theorem bi__law_sums : ∀ (kV doc pm : Value) (an : Option Addr) (cdv ct : Value) (us : List Value), us.length = (["skills", "split", "teams"] : List Str).length → bindArgs (PySem.W.fnOf "_law_sums" "_law_sums" (defArgs s__law_sums) (defBody s__law_sums) (defScope s__law_sums) .none kV doc pm an cdv ct) ⟨us, []⟩ = pure ((["skills", "split", "teams"] : List Str).zip us) :=
  fun _ _ _ _ _ _ us hl => match us, hl with | [_, _, _], _ => rfl
def b__law_sums : Bd := bRet (fB tupD (aCons (fLc (fIs rg1D (aCons (vF 2) (aNil))) (sN 3) (fYes) (fB sumD (aCons (fLc (fIs rg1D (aCons (fB lenD (aCons (vF 0) (aNil))) (aNil))) (sN 4) (fT (f2 eqD (f2 ixD (vF 1) (vF 4)) (vF 3))) (f2 ixD (vF 0) (vF 4)) [4]) (aNil))) [3]) (aNil)))
def Ph__law_sums : List D → Option D := fnB (N__law_sums).length (["skills", "split", "teams"] : List Str).length b__law_sums
theorem dd__law_sums (Z : Fx K mg) (cdv : Value) (A : Around) (outer : List Env) (s : Shared) (H : Hp) (E : XK) (hr : Room (0) (A.deeper (envOfC "_law_sums" (defScope s__law_sums) s.heap.objs.size (He.ga K "_law_sums") cdv))) :
    ∃ W t, DSs (cxOf CX0 P w K mg base N__law_sums "_law_sums" (defScope s__law_sums) (He.ga K "_law_sums") cdv A outer s H E).nox .fz W (defBody s__law_sums) t (b__law_sums) := ⟨_, _,
  dss_one (ds_ret (de_ct (cr_tupK K) cs_tup rfl Z.n_tuple bt_tuple (da_cons (de_lc [("team", 3)] sc__law_sums.nd (di_rg1 rfl Z.n_range (da_cons (de_v 2) (da_nil))) (blk_of (N := N__law_sums) (sc := defScope s__law_sums) (by decide +kernel)) (fun _ _ _ _ _ => dg_n sc__law_sums.nd (i := 3)) (fun _ _ _ _ _ => dts_nil) (fun _ _ _ _ _ => de_cb (cr_sumAK K rfl) cs_sum rfl Z.n_sum bt_sum (da_cons (de_lc [("k", 4)] sc__law_sums.nd (di_rg1 rfl Z.n_range (da_cons (de_cb (call_lenK K) cs_len rfl Z.n_len bt_len (da_cons (de_v 0) (da_nil))) (da_nil))) (blk_of (by with_unfolding_all rfl)) (fun _ _ _ _ _ => dg_n sc__law_sums.nd (i := 4)) (fun _ _ _ _ _ => dts_one (dt_cmp (op_eqDK K hr.u64) ops_eq rfl (de_ixK K (de_v 1) (de_v 4)) (de_v 3))) (fun _ _ _ _ _ => de_ixK K (de_v 0) (de_v 4)) (by decide)) (da_nil))) (by decide)) (da_nil))))⟩
theorem ok__law_sums (Z : Fx K mg) : Ok P w K mg base 1 "_law_sums" ["skills", "split", "teams"] .fz Ph__law_sums := by
  obtain ⟨fd, F⟩ := Z.f__law_sums
  exact ok_fz (P := P) (w := w) (mg := mg) (base := base) (b := b__law_sums) (k := 0) (N := N__law_sums) F sc__law_sums bi__law_sums Z.g__law_sums (dd__law_sums Z)
abbrev N__law_gap : List Str := ["skills", "split", "teams", "sums"]
theorem sc__law_gap : FnScope N__law_gap ["skills", "split", "teams"] (defScope s__law_gap) := ⟨rfl, rfl, rfl, by decide +kernel, rfl, by decide +kernel, by decide +kernel⟩
theorem bi__law_gap : ∀ (kV doc pm : Value) (an : Option Addr) (cdv ct : Value) (us : List Value), us.length = (["skills", "split", "teams"] : List Str).length → bindArgs (PySem.W.fnOf "_law_gap" "_law_gap" (defArgs s__law_gap) (defBody s__law_gap) (defScope s__law_gap) .none kV doc pm an cdv ct) ⟨us, []⟩ = pure ((["skills", "split", "teams"] : List Str).zip us) :=
  fun _ _ _ _ _ _ us hl => match us, hl with | [_, _, _], _ => rfl
def b__law_gap : Bd := bSeq (bAsg 3 (fB (Ph__law_sums) (aCons (vF 0) (aCons (vF 1) (aCons (vF 2) (aNil)))))) (bRet (f2 subD (fB maxA (aCons (vF 3) (aNil))) (fB minA (aCons (vF 3) (aNil)))))
def Ph__law_gap : List D → Option D := fnB (N__law_gap).length (["skills", "split", "teams"] : List Str).length b__law_gap
theorem dd__law_gap (Z : Fx K mg) (cdv : Value) (A : Around) (outer : List Env) (s : Shared) (H : Hp) (E : XK) (hr : Room (1) (A.deeper (envOfC "_law_gap" (defScope s__law_gap) s.heap.objs.size (He.ga K "_law_gap") cdv))) :
    ∃ W t, DSs (cxOf CX0 P w K mg base N__law_gap "_law_gap" (defScope s__law_gap) (He.ga K "_law_gap") cdv A outer s H E).nox .fz W (defBody s__law_gap) t (b__law_gap) := ⟨_, _,
  dss_cons (ds_asg (i := 3) (de_fnK K (ok__law_sums Z) hr (by omega) rfl (da_cons (de_v 0) (da_cons (de_v 1) (da_cons (de_v 2) (da_nil))))) sc__law_gap.nd) (dss_one (ds_ret (de_op op_sub ops_sub (de_cb (cr_maxAK K rfl hr.u70) cs_maxA rfl Z.n_max bt_max (da_cons (de_v 3) (da_nil))) (de_cb (cr_minAK K rfl hr.u70) cs_minA rfl Z.n_min bt_min (da_cons (de_v 3) (da_nil))))))⟩
theorem ok__law_gap (Z : Fx K mg) : Ok P w K mg base 2 "_law_gap" ["skills", "split", "teams"] .fz Ph__law_gap := by
  obtain ⟨fd, F⟩ := Z.f__law_gap
  exact ok_fz (P := P) (w := w) (mg := mg) (base := base) (b := b__law_gap) (k := 1) (N := N__law_gap) F sc__law_gap bi__law_gap Z.g__law_gap (dd__law_gap Z)
abbrev N_best_split : List Str := ["skills", "splits", "best", "split", "gap"]
theorem sc_best_split : FnScope N_best_split ["skills", "splits"] (defScope s_best_split) := ⟨rfl, rfl, rfl, by decide +kernel, rfl, by decide +kernel, by decide +kernel⟩
def L_best_split_1 : Bd := bSeq (bAsg 4 (fB (Ph_gap_of) (aCons (vF 0) (aCons (vF 3) (aNil))))) (bIf (fOrT (fT (f2 isND (vF 2) (cD .none))) (fT (f2 ltD (vF 4) (f2 ixD (vF 2) (cD (.int 0)))))) (bAsg 2 (fTup (aCons (vF 4) (aCons (vF 3) (aNil))))) (bNext))
theorem bi_best_split : ∀ (kV doc pm : Value) (an : Option Addr) (cdv ct : Value) (us : List Value), us.length = (["skills", "splits"] : List Str).length → bindArgs (PySem.W.fnOf "best_split" "best_split" (defArgs s_best_split) (defBody s_best_split) (defScope s_best_split) .none kV doc pm an cdv ct) ⟨us, []⟩ = pure ((["skills", "splits"] : List Str).zip us) :=
  fun _ _ _ _ _ _ us hl => match us, hl with | [_, _], _ => rfl
def b_best_split : Bd := bSeq (bAsg 2 (cD .none)) (bSeq (bFor (fI (vF 1)) (sN 3) (L_best_split_1)) (bRet (vF 2)))
def Ph_best_split : List D → Option D := fnB (N_best_split).length (["skills", "splits"] : List Str).length b_best_split
theorem dd_best_split (Z : Fx K mg) (cdv : Value) (A : Around) (outer : List Env) (s : Shared) (H : Hp) (E : XK) (hr : Room (3) (A.deeper (envOfC "best_split" (defScope s_best_split) s.heap.objs.size (He.ga K "best_split") cdv))) :
    ∃ W t, DSs (cxOf CX0 P w K mg base N_best_split "best_split" (defScope s_best_split) (He.ga K "best_split") cdv A outer s H E).nox .fz W (defBody s_best_split) t (b_best_split) := ⟨_, _,
  dss_cons (ds_asg (i := 2) (de_non) sc_best_split.nd) (dss_cons (ds_for (di_anyK K (de_v 1)) (dg_n sc_best_split.nd (i := 3)) (dss_cons (ds_asg (i := 4) (de_fnK K (ok_gap_of Z) hr (by omega) rfl (da_cons (de_v 0) (da_cons (de_v 3) (da_nil)))) sc_best_split.nd) (dss_one (ds_if (dt_w (dw_or (dt_cmp L2.op_isN ops_isN rfl (de_v 2) (de_non)) (dw_or1 (dt_cmp (op_lt_K K hr.u64) ops_lt rfl (de_v 4) (de_ixK K (de_v 2) (de_int)))))) (dss_one (ds_asg (i := 2) (de_tup (da_cons (de_v 4) (da_cons (de_v 3) (da_nil)))) sc_best_split.nd)) (dss_nil))))) (dss_one (ds_ret (de_v 2))))⟩
theorem ok_best_split (Z : Fx K mg) : Ok P w K mg base 4 "best_split" ["skills", "splits"] .fz Ph_best_split := by
  obtain ⟨fd, F⟩ := Z.f_best_split
  exact ok_fz (P := P) (w := w) (mg := mg) (base := base) (b := b_best_split) (k := 3) (N := N_best_split) F sc_best_split bi_best_split Z.g_best_split (dd_best_split Z)
abbrev N_even : List Str := ["skills", "teams"]
theorem sc_even : FnScope N_even ["skills", "teams"] (defScope s_even) := ⟨rfl, rfl, rfl, by decide +kernel, rfl, by decide +kernel, by decide +kernel⟩
theorem bi_even : ∀ (kV doc pm : Value) (an : Option Addr) (cdv ct : Value) (us : List Value), us.length = (["skills", "teams"] : List Str).length → bindArgs (PySem.W.fnOf "even" "even" (defArgs s_even) (defBody s_even) (defScope s_even) .none kV doc pm an cdv ct) ⟨us, []⟩ = pure ((["skills", "teams"] : List Str).zip us) :=
  fun _ _ _ _ _ _ us hl => match us, hl with | [_, _], _ => rfl
def b_even : Bd := bSeq (bAsg 0 (fB (Ph_need) (aCons (cD (.int 1)) (aCons (fB (Ph_to_skills) (aCons (vF 0) (aNil))) (aNil))))) (bSeq (bAsg 1 (fB (Ph_need_within) (aCons (cD (.int 2)) (aCons (vF 1) (aCons (cD (.int 2)) (aCons (cD (.int 4)) (aNil))))))) (bRet (fB (Ph_best_split) (aCons (vF 0) (aCons (fB (Ph_splits_into) (aCons (fB lenD (aCons (vF 0) (aNil))) (aCons (vF 1) (aNil)))) (aNil))))))
def Ph_even : List D → Option D := fnB (N_even).length (["skills", "teams"] : List Str).length b_even
theorem dd_even (Z : Fx K mg) (cdv : Value) (A : Around) (outer : List Env) (s : Shared) (H : Hp) (E : XK) (hr : Room (4) (A.deeper (envOfC "even" (defScope s_even) s.heap.objs.size (He.ga K "even") cdv))) :
    ∃ W t, DSs (cxOf CX0 P w K mg base N_even "even" (defScope s_even) (He.ga K "even") cdv A outer s H E).nox .fz W (defBody s_even) t (b_even) := ⟨_, _,
  dss_cons (ds_asg (i := 0) (de_fnK K (ok_need Z) hr (by omega) rfl (da_cons (de_int) (da_cons (de_fnK K (ok_to_skills Z) hr (by omega) rfl (da_cons (de_v 0) (da_nil))) (da_nil)))) sc_even.nd) (dss_cons (ds_asg (i := 1) (de_fnK K (ok_need_within Z) hr (by omega) rfl (da_cons (de_int) (da_cons (de_v 1) (da_cons (de_int) (da_cons (de_int) (da_nil)))))) sc_even.nd) (dss_one (ds_ret (de_fnK K (ok_best_split Z) hr (by omega) rfl (da_cons (de_v 0) (da_cons (DE.frz (de_fnK K (ok_splits_into Z) hr (by omega) rfl (da_cons (de_cb (call_lenK K) cs_len rfl Z.n_len bt_len (da_cons (de_v 0) (da_nil))) (da_cons (de_v 1) (da_nil))))) (da_nil)))))))⟩
theorem ok_even (Z : Fx K mg) : Ok P w K mg base 5 "even" ["skills", "teams"] .fz Ph_even := by
  obtain ⟨fd, F⟩ := Z.f_even
  exact ok_fz (P := P) (w := w) (mg := mg) (base := base) (b := b_even) (k := 4) (N := N_even) F sc_even bi_even Z.g_even (dd_even Z)
abbrev N_sizes_alike : List Str := ["split", "sizes", "team"]
theorem sc_sizes_alike : FnScope N_sizes_alike ["split"] (defScope s_sizes_alike) := ⟨rfl, rfl, rfl, by decide +kernel, rfl, by decide +kernel, by decide +kernel⟩
theorem bi_sizes_alike : ∀ (kV doc pm : Value) (an : Option Addr) (cdv ct : Value) (us : List Value), us.length = (["split"] : List Str).length → bindArgs (PySem.W.fnOf "sizes_alike" "sizes_alike" (defArgs s_sizes_alike) (defBody s_sizes_alike) (defScope s_sizes_alike) .none kV doc pm an cdv ct) ⟨us, []⟩ = pure ((["split"] : List Str).zip us) :=
  fun _ _ _ _ _ _ us hl => match us, hl with | [_], _ => rfl
def b_sizes_alike : Bd := bSeq (bAsg 1 (fLc (fIs rg1D (aCons (fB (Ph_teams_in) (aCons (vF 0) (aNil))) (aNil))) (sN 2) (fYes) (f2 cntD (vF 0) (vF 2)) [2])) (bRet (f2 leD (f2 subD (fB maxA (aCons (vF 1) (aNil))) (fB minA (aCons (vF 1) (aNil)))) (cD (.int 1))))
def Ph_sizes_alike : List D → Option D := fnB (N_sizes_alike).length (["split"] : List Str).length b_sizes_alike
theorem dd_sizes_alike (Z : Fx K mg) (cdv : Value) (A : Around) (outer : List Env) (s : Shared) (H : Hp) (E : XK) (hr : Room (1) (A.deeper (envOfC "sizes_alike" (defScope s_sizes_alike) s.heap.objs.size (He.ga K "sizes_alike") cdv))) :
    ∃ W t, DSs (cxOf CX0 P w K mg base N_sizes_alike "sizes_alike" (defScope s_sizes_alike) (He.ga K "sizes_alike") cdv A outer s H E).nox .fz W (defBody s_sizes_alike) t (b_sizes_alike) := ⟨_, _,
  dss_cons (ds_asgLc (i := 1) [("team", 2)] sc_sizes_alike.nd (di_rg1 rfl Z.n_range (da_cons (de_fnK K (ok_teams_in Z) hr (by omega) rfl (da_cons (de_v 0) (da_nil))) (da_nil))) (blk_of (N := N_sizes_alike) (sc := defScope s_sizes_alike) (by decide +kernel)) (fun _ _ _ _ _ => dg_n sc_sizes_alike.nd (i := 2)) (fun _ _ _ _ _ => dts_nil) (fun _ _ _ _ _ => de_count K hr.u65 (de_v 0) (de_v 2)) (by decide) (sw_true rfl rfl rfl (by decide +kernel))) (dss_one (ds_ret (de_cmp (op_le_K K hr.u64) ops_le rfl (de_op op_sub ops_sub (de_cb (cr_maxAK K rfl hr.u70) cs_maxA rfl Z.n_max bt_max (da_cons (de_v 1) (da_nil))) (de_cb (cr_minAK K rfl hr.u70) cs_minA rfl Z.n_min bt_min (da_cons (de_v 1) (da_nil)))) (de_int))))⟩
theorem ok_sizes_alike (Z : Fx K mg) : Ok P w K mg base 2 "sizes_alike" ["split"] .fz Ph_sizes_alike := by
  obtain ⟨fd, F⟩ := Z.f_sizes_alike
  exact ok_fz (P := P) (w := w) (mg := mg) (base := base) (b := b_sizes_alike) (k := 1) (N := N_sizes_alike) F sc_sizes_alike bi_sizes_alike Z.g_sizes_alike (dd_sizes_alike Z)
abbrev N_alike : List Str := ["skills", "teams", "split"]
theorem sc_alike : FnScope N_alike ["skills", "teams"] (defScope s_alike) := ⟨rfl, rfl, rfl, by decide +kernel, rfl, by decide +kernel, by decide +kernel⟩
theorem bi_alike : ∀ (kV doc pm : Value) (an : Option Addr) (cdv ct : Value) (us : List Value), us.length = (["skills", "teams"] : List Str).length → bindArgs (PySem.W.fnOf "alike" "alike" (defArgs s_alike) (defBody s_alike) (defScope s_alike) .none kV doc pm an cdv ct) ⟨us, []⟩ = pure ((["skills", "teams"] : List Str).zip us) :=
  fun _ _ _ _ _ _ us hl => match us, hl with | [_, _], _ => rfl
def b_alike : Bd := bSeq (bAsg 0 (fB (Ph_need) (aCons (cD (.int 1)) (aCons (fB (Ph_to_skills) (aCons (vF 0) (aNil))) (aNil))))) (bSeq (bAsg 1 (fB (Ph_need_within) (aCons (cD (.int 2)) (aCons (vF 1) (aCons (cD (.int 2)) (aCons (cD (.int 4)) (aNil))))))) (bRet (fB (Ph_best_split) (aCons (vF 0) (aCons (fLc (fI (fB (Ph_splits_into) (aCons (fB lenD (aCons (vF 0) (aNil))) (aCons (vF 1) (aNil))))) (sN 2) (fTr (fB (Ph_sizes_alike) (aCons (vF 2) (aNil)))) (vF 2) [2]) (aNil))))))
def Ph_alike : List D → Option D := fnB (N_alike).length (["skills", "teams"] : List Str).length b_alike
theorem dd_alike (Z : Fx K mg) (cdv : Value) (A : Around) (outer : List Env) (s : Shared) (H : Hp) (E : XK) (hr : Room (4) (A.deeper (envOfC "alike" (defScope s_alike) s.heap.objs.size (He.ga K "alike") cdv))) :
    ∃ W t, DSs (cxOf CX0 P w K mg base N_alike "alike" (defScope s_alike) (He.ga K "alike") cdv A outer s H E).nox .fz W (defBody s_alike) t (b_alike) := ⟨_, _,
  dss_cons (ds_asg (i := 0) (de_fnK K (ok_need Z) hr (by omega) rfl (da_cons (de_int) (da_cons (de_fnK K (ok_to_skills Z) hr (by omega) rfl (da_cons (de_v 0) (da_nil))) (da_nil)))) sc_alike.nd) (dss_cons (ds_asg (i := 1) (de_fnK K (ok_need_within Z) hr (by omega) rfl (da_cons (de_int) (da_cons (de_v 1) (da_cons (de_int) (da_cons (de_int) (da_nil)))))) sc_alike.nd) (dss_one (ds_ret (de_fnK K (ok_best_split Z) hr (by omega) rfl (da_cons (de_v 0) (da_cons (DE.frz (de_lc [("split", 2)] sc_alike.nd (di_anyK K (DE.frz (de_fnK K (ok_splits_into Z) hr (by omega) rfl (da_cons (de_cb (call_lenK K) cs_len rfl Z.n_len bt_len (da_cons (de_v 0) (da_nil))) (da_cons (de_v 1) (da_nil)))))) (blk_of (N := N_alike) (sc := defScope s_alike) (by decide +kernel)) (fun _ _ _ _ _ => dg_n sc_alike.nd (i := 2)) (fun _ _ _ _ _ => dts_one (dt_truK K (de_fnK K (ok_sizes_alike Z) hr (by omega) rfl (da_cons (de_v 2) (da_nil))))) (fun _ _ _ _ _ => de_v 2) (by decide))) (da_nil)))))))⟩
theorem ok_alike (Z : Fx K mg) : Ok P w K mg base 5 "alike" ["skills", "teams"] .fz Ph_alike := by
  obtain ⟨fd, F⟩ := Z.f_alike
  exact ok_fz (P := P) (w := w) (mg := mg) (base := base) (b := b_alike) (k := 4) (N := N_alike) F sc_alike bi_alike Z.g_alike (dd_alike Z)
abbrev N_to_numbers : List Str := ["value"]
theorem sc_to_numbers : FnScope N_to_numbers ["value"] (defScope s_to_numbers) := ⟨rfl, rfl, rfl, by decide +kernel, rfl, by decide +kernel, by decide +kernel⟩
theorem bi_to_numbers : ∀ (kV doc pm : Value) (an : Option Addr) (cdv ct : Value) (us : List Value), us.length = (["value"] : List Str).length → bindArgs (PySem.W.fnOf "to_numbers" "to_numbers" (defArgs s_to_numbers) (defBody s_to_numbers) (defScope s_to_numbers) .none kV doc pm an cdv ct) ⟨us, []⟩ = pure ((["value"] : List Str).zip us) :=
  fun _ _ _ _ _ _ us hl => match us, hl with | [_], _ => rfl
def b_to_numbers : Bd := bRet (fB (Ph_to_ints) (aCons (vF 0) (aCons (cD (.int 0)) (aCons (cD (.int 3)) (aCons (cD (.int 2)) (aCons (cD (.int 10)) (aNil)))))))
def Ph_to_numbers : List D → Option D := fnB (N_to_numbers).length (["value"] : List Str).length b_to_numbers
theorem dd_to_numbers (Z : Fx K mg) (cdv : Value) (A : Around) (outer : List Env) (s : Shared) (H : Hp) (E : XK) (hr : Room (3) (A.deeper (envOfC "to_numbers" (defScope s_to_numbers) s.heap.objs.size (He.ga K "to_numbers") cdv))) :
    ∃ W t, DSs (cxOf CX0 P w K mg base N_to_numbers "to_numbers" (defScope s_to_numbers) (He.ga K "to_numbers") cdv A outer s H E).nox .fz W (defBody s_to_numbers) t (b_to_numbers) := ⟨_, _,
  dss_one (ds_ret (de_fnK K (ok_to_ints Z) hr (by omega) rfl (da_cons (de_v 0) (da_cons (de_int) (da_cons (de_int) (da_cons (de_int) (da_cons (de_int) (da_nil))))))))⟩
theorem ok_to_numbers (Z : Fx K mg) : Ok P w K mg base 4 "to_numbers" ["value"] .fz Ph_to_numbers := by
  obtain ⟨fd, F⟩ := Z.f_to_numbers
  exact ok_fz (P := P) (w := w) (mg := mg) (base := base) (b := b_to_numbers) (k := 3) (N := N_to_numbers) F sc_to_numbers bi_to_numbers Z.g_to_numbers (dd_to_numbers Z)
abbrev N_canon : List Str := ["numbers", "firsts", "number"]
theorem sc_canon : FnScope N_canon ["numbers"] (defScope s_canon) := ⟨rfl, rfl, rfl, by decide +kernel, rfl, by decide +kernel, by decide +kernel⟩
def L_canon_1 : Bd := bIf (fT (f2 notInD (vF 2) (vP 1))) (bApp 1 (vF 2)) (bNext)
theorem bi_canon : ∀ (kV doc pm : Value) (an : Option Addr) (cdv ct : Value) (us : List Value), us.length = (["numbers"] : List Str).length → bindArgs (PySem.W.fnOf "canon" "canon" (defArgs s_canon) (defBody s_canon) (defScope s_canon) .none kV doc pm an cdv ct) ⟨us, []⟩ = pure ((["numbers"] : List Str).zip us) :=
  fun _ _ _ _ _ _ us hl => match us, hl with | [_], _ => rfl
def b_canon : Bd := bSeq (bOwn 1 (fLst (aNil))) (bSeq (bFor (fI (vF 0)) (sN 2) (L_canon_1)) (bRet (fB tupD (aCons (fLc (fI (vF 0)) (sN 2) (fYes) (f2 idxD (vP 1) (vF 2)) [2]) (aNil)))))
def Ph_canon : List D → Option D := fnB (N_canon).length (["numbers"] : List Str).length b_canon
theorem dd_canon (Z : Fx K mg) (cdv : Value) (A : Around) (outer : List Env) (s : Shared) (H : Hp) (E : XK) (hr : Room (0) (A.deeper (envOfC "canon" (defScope s_canon) s.heap.objs.size (He.ga K "canon") cdv))) :
    ∃ W t, DSs (cxOf CX0 P w K mg base N_canon "canon" (defScope s_canon) (He.ga K "canon") cdv A outer s H E).nox .fz W (defBody s_canon) t (b_canon) := ⟨_, _,
  dss_cons (ds_own (i := 1) (de_lst (da_nil)) sc_canon.nd) (dss_cons (ds_for (di_anyK K (de_v 0)) (dg_n sc_canon.nd (i := 2)) (dss_one (ds_if (dt_cmp (op_notIn_K K hr.u65) ops_notIn rfl (de_v 2) (de_p 1)) (dss_one (ds_app (j := 1) (de_v 2))) (dss_nil)))) (dss_one (ds_ret (de_ct (cr_tupK K) cs_tup rfl Z.n_tuple bt_tuple (da_cons (de_lc [("number", 2)] sc_canon.nd (di_anyK K (de_v 0)) (blk_of (N := N_canon) (sc := defScope s_canon) (by decide +kernel)) (fun _ _ _ _ _ => dg_n sc_canon.nd (i := 2)) (fun _ _ _ _ _ => dts_nil) (fun _ _ _ _ _ => de_index K hr.u65 (de_p 1) (de_v 2)) (by decide)) (da_nil))))))⟩
theorem ok_canon (Z : Fx K mg) : Ok P w K mg base 1 "canon" ["numbers"] .fz Ph_canon := by
  obtain ⟨fd, F⟩ := Z.f_canon
  exact ok_fz (P := P) (w := w) (mg := mg) (base := base) (b := b_canon) (k := 0) (N := N_canon) F sc_canon bi_canon Z.g_canon (dd_canon Z)
abbrev N_to_split : List Str := ["value", "split"]
theorem sc_to_split : FnScope N_to_split ["value"] (defScope s_to_split) := ⟨rfl, rfl, rfl, by decide +kernel, rfl, by decide +kernel, by decide +kernel⟩
theorem bi_to_split : ∀ (kV doc pm : Value) (an : Option Addr) (cdv ct : Value) (us : List Value), us.length = (["value"] : List Str).length → bindArgs (PySem.W.fnOf "to_split" "to_split" (defArgs s_to_split) (defBody s_to_split) (defScope s_to_split) .none kV doc pm an cdv ct) ⟨us, []⟩ = pure ((["value"] : List Str).zip us) :=
  fun _ _ _ _ _ _ us hl => match us, hl with | [_], _ => rfl
def b_to_split : Bd := bSeq (bAsg 1 (fB (Ph_to_numbers) (aCons (vF 0) (aNil)))) (bSeq (bIf (fOrT (fT (f2 isND (vF 1) (cD .none))) (fT (f2 neD (vF 1) (fB (Ph_canon) (aCons (vF 1) (aNil)))))) (bRet (cD .none)) (bNext)) (bRet (vF 1)))
def Ph_to_split : List D → Option D := fnB (N_to_split).length (["value"] : List Str).length b_to_split
theorem dd_to_split (Z : Fx K mg) (cdv : Value) (A : Around) (outer : List Env) (s : Shared) (H : Hp) (E : XK) (hr : Room (4) (A.deeper (envOfC "to_split" (defScope s_to_split) s.heap.objs.size (He.ga K "to_split") cdv))) :
    ∃ W t, DSs (cxOf CX0 P w K mg base N_to_split "to_split" (defScope s_to_split) (He.ga K "to_split") cdv A outer s H E).nox .fz W (defBody s_to_split) t (b_to_split) := ⟨_, _,
  dss_cons (ds_asg (i := 1) (de_fnK K (ok_to_numbers Z) hr (by omega) rfl (da_cons (de_v 0) (da_nil))) sc_to_split.nd) (dss_cons (ds_if (dt_w (dw_or (dt_cmp L2.op_isN ops_isN rfl (de_v 1) (de_non)) (dw_or1 (dt_cmp (op_neDK K hr.u64) ops_ne rfl (de_v 1) (de_fnK K (ok_canon Z) hr (by omega) rfl (da_cons (de_v 1) (da_nil))))))) (dss_one (ds_ret (de_non))) (dss_nil)) (dss_one (ds_ret (de_v 1))))⟩
theorem ok_to_split (Z : Fx K mg) : Ok P w K mg base 5 "to_split" ["value"] .fz Ph_to_split := by
  obtain ⟨fd, F⟩ := Z.f_to_split
  exact ok_fz (P := P) (w := w) (mg := mg) (base := base) (b := b_to_split) (k := 4) (N := N_to_split) F sc_to_split bi_to_split Z.g_to_split (dd_to_split Z)
abbrev N_to_split_for : List Str := ["value", "skills", "split"]
theorem sc_to_split_for : FnScope N_to_split_for ["value", "skills"] (defScope s_to_split_for) := ⟨rfl, rfl, rfl, by decide +kernel, rfl, by decide +kernel, by decide +kernel⟩
theorem bi_to_split_for : ∀ (kV doc pm : Value) (an : Option Addr) (cdv ct : Value) (us : List Value), us.length = (["value", "skills"] : List Str).length → bindArgs (PySem.W.fnOf "to_split_for" "to_split_for" (defArgs s_to_split_for) (defBody s_to_split_for) (defScope s_to_split_for) .none kV doc pm an cdv ct) ⟨us, []⟩ = pure ((["value", "skills"] : List Str).zip us) :=
  fun _ _ _ _ _ _ us hl => match us, hl with | [_, _], _ => rfl
def b_to_split_for : Bd := bSeq (bAsg 2 (fB (Ph_to_split) (aCons (vF 0) (aNil)))) (bSeq (bIf (fOrT (fT (f2 isND (vF 2) (cD .none))) (fT (f2 neD (fB lenD (aCons (vF 2) (aNil))) (fB lenD (aCons (vF 1) (aNil)))))) (bRet (cD .none)) (bNext)) (bRet (vF 2)))
def Ph_to_split_for : List D → Option D := fnB (N_to_split_for).length (["value", "skills"] : List Str).length b_to_split_for
theorem dd_to_split_for (Z : Fx K mg) (cdv : Value) (A : Around) (outer : List Env) (s : Shared) (H : Hp) (E : XK) (hr : Room (5) (A.deeper (envOfC "to_split_for" (defScope s_to_split_for) s.heap.objs.size (He.ga K "to_split_for") cdv))) :
    ∃ W t, DSs (cxOf CX0 P w K mg base N_to_split_for "to_split_for" (defScope s_to_split_for) (He.ga K "to_split_for") cdv A outer s H E).nox .fz W (defBody s_to_split_for) t (b_to_split_for) := ⟨_, _,
  dss_cons (ds_asg (i := 2) (de_fnK K (ok_to_split Z) hr (by omega) rfl (da_cons (de_v 0) (da_nil))) sc_to_split_for.nd) (dss_cons (ds_if (dt_w (dw_or (dt_cmp L2.op_isN ops_isN rfl (de_v 2) (de_non)) (dw_or1 (dt_cmp (op_neDK K hr.u64) ops_ne rfl (de_cb (call_lenK K) cs_len rfl Z.n_len bt_len (da_cons (de_v 2) (da_nil))) (de_cb (call_lenK K) cs_len rfl Z.n_len bt_len (da_cons (de_v 1) (da_nil))))))) (dss_one (ds_ret (de_non))) (dss_nil)) (dss_one (ds_ret (de_v 2))))⟩
theorem ok_to_split_for (Z : Fx K mg) : Ok P w K mg base 6 "to_split_for" ["value", "skills"] .fz Ph_to_split_for := by
  obtain ⟨fd, F⟩ := Z.f_to_split_for
  exact ok_fz (P := P) (w := w) (mg := mg) (base := base) (b := b_to_split_for) (k := 5) (N := N_to_split_for) F sc_to_split_for bi_to_split_for Z.g_to_split_for (dd_to_split_for Z)
abbrev N_is_split : List Str := ["skills", "teams", "value", "split"]
theorem sc_is_split : FnScope N_is_split ["skills", "teams", "value"] (defScope s_is_split) := ⟨rfl, rfl, rfl, by decide +kernel, rfl, by decide +kernel, by decide +kernel⟩
theorem bi_is_split : ∀ (kV doc pm : Value) (an : Option Addr) (cdv ct : Value) (us : List Value), us.length = (["skills", "teams", "value"] : List Str).length → bindArgs (PySem.W.fnOf "is_split" "is_split" (defArgs s_is_split) (defBody s_is_split) (defScope s_is_split) .none kV doc pm an cdv ct) ⟨us, []⟩ = pure ((["skills", "teams", "value"] : List Str).zip us) :=
  fun _ _ _ _ _ _ us hl => match us, hl with | [_, _, _], _ => rfl
def b_is_split : Bd := bSeq (bAsg 0 (fB (Ph_need) (aCons (cD (.int 1)) (aCons (fB (Ph_to_skills) (aCons (vF 0) (aNil))) (aNil))))) (bSeq (bAsg 1 (fB (Ph_need_within) (aCons (cD (.int 2)) (aCons (vF 1) (aCons (cD (.int 2)) (aCons (cD (.int 4)) (aNil))))))) (bSeq (bAsg 3 (fB (Ph_to_split_for) (aCons (vF 2) (aCons (vF 0) (aNil))))) (bRet (fAnd (f2 notND (vF 3) (cD .none)) (f2 eqD (fB (Ph_teams_in) (aCons (vF 3) (aNil))) (vF 1))))))
def Ph_is_split : List D → Option D := fnB (N_is_split).length (["skills", "teams", "value"] : List Str).length b_is_split
theorem dd_is_split (Z : Fx K mg) (cdv : Value) (A : Around) (outer : List Env) (s : Shared) (H : Hp) (E : XK) (hr : Room (6) (A.deeper (envOfC "is_split" (defScope s_is_split) s.heap.objs.size (He.ga K "is_split") cdv))) :
    ∃ W t, DSs (cxOf CX0 P w K mg base N_is_split "is_split" (defScope s_is_split) (He.ga K "is_split") cdv A outer s H E).nox .fz W (defBody s_is_split) t (b_is_split) := ⟨_, _,
  dss_cons (ds_asg (i := 0) (de_fnK K (ok_need Z) hr (by omega) rfl (da_cons (de_int) (da_cons (de_fnK K (ok_to_skills Z) hr (by omega) rfl (da_cons (de_v 0) (da_nil))) (da_nil)))) sc_is_split.nd) (dss_cons (ds_asg (i := 1) (de_fnK K (ok_need_within Z) hr (by omega) rfl (da_cons (de_int) (da_cons (de_v 1) (da_cons (de_int) (da_cons (de_int) (da_nil)))))) sc_is_split.nd) (dss_cons (ds_asg (i := 3) (de_fnK K (ok_to_split_for Z) hr (by omega) rfl (da_cons (de_v 2) (da_cons (de_v 0) (da_nil)))) sc_is_split.nd) (dss_one (ds_ret (de_andK K (de_cmp L2.op_notN ops_notN rfl (de_v 3) (de_non)) (de_one (de_cmp (op_eqDK K hr.u64) ops_eq rfl (de_fnK K (ok_teams_in Z) hr (by omega) rfl (da_cons (de_v 3) (da_nil))) (de_v 1))))))))⟩
theorem ok_is_split (Z : Fx K mg) : Ok P w K mg base 7 "is_split" ["skills", "teams", "value"] .fz Ph_is_split := by
  obtain ⟨fd, F⟩ := Z.f_is_split
  exact ok_fz (P := P) (w := w) (mg := mg) (base := base) (b := b_is_split) (k := 6) (N := N_is_split) F sc_is_split bi_is_split Z.g_is_split (dd_is_split Z)
abbrev N_honest : List Str := ["likings", "at"]
theorem sc_honest : FnScope N_honest ["likings"] (defScope s_honest) := ⟨rfl, rfl, rfl, by decide +kernel, rfl, by decide +kernel, by decide +kernel⟩
theorem bi_honest : ∀ (kV doc pm : Value) (an : Option Addr) (cdv ct : Value) (us : List Value), us.length = (["likings"] : List Str).length → bindArgs (PySem.W.fnOf "honest" "honest" (defArgs s_honest) (defBody s_honest) (defScope s_honest) .none kV doc pm an cdv ct) ⟨us, []⟩ = pure ((["likings"] : List Str).zip us) :=
  fun _ _ _ _ _ _ us hl => match us, hl with | [_], _ => rfl
def b_honest : Bd := bSeq (bAsg 0 (fB (Ph_need) (aCons (cD (.int 1)) (aCons (fB (Ph_to_likings) (aCons (vF 0) (aNil))) (aNil))))) (bRet (fB (Ph_picks_by) (aCons (vF 0) (aCons (fLc (fIs rg1D (aCons (fB lenD (aCons (f2 ixD (vF 0) (cD (.int 0))) (aNil))) (aNil))) (sN 1) (fYes) (f2 modD (vF 1) (cD (.int 2))) [1]) (aNil)))))
def Ph_honest : List D → Option D := fnB (N_honest).length (["likings"] : List Str).length b_honest
theorem dd_honest (Z : Fx K mg) (cdv : Value) (A : Around) (outer : List Env) (s : Shared) (H : Hp) (E : XK) (hr : Room (5) (A.deeper (envOfC "honest" (defScope s_honest) s.heap.objs.size (He.ga K "honest") cdv))) :
    ∃ W t, DSs (cxOf CX0 P w K mg base N_honest "honest" (defScope s_honest) (He.ga K "honest") cdv A outer s H E).nox .fz W (defBody s_honest) t (b_honest) := ⟨_, _,
  dss_cons (ds_asg (i := 0) (de_fnK K (ok_need Z) hr (by omega) rfl (da_cons (de_int) (da_cons (de_fnK K (ok_to_likings Z) hr (by omega) rfl (da_cons (de_v 0) (da_nil))) (da_nil)))) sc_honest.nd) (dss_one (ds_ret (de_fnK K (ok_picks_by Z) hr (by omega) rfl (da_cons (de_v 0) (da_cons (DE.frz (de_lc [("at", 1)] sc_honest.nd (di_rg1 rfl Z.n_range (da_cons (de_cb (call_lenK K) cs_len rfl Z.n_len bt_len (da_cons (de_ixK K (de_v 0) (de_int)) (da_nil))) (da_nil))) (blk_of (N := N_honest) (sc := defScope s_honest) (by decide +kernel)) (fun _ _ _ _ _ => dg_n sc_honest.nd (i := 1)) (fun _ _ _ _ _ => dts_nil) (fun _ _ _ _ _ => de_op op_modN ops_mod (de_v 1) (de_int)) (by decide))) (da_nil))))))⟩
theorem ok_honest (Z : Fx K mg) : Ok P w K mg base 6 "honest" ["likings"] .fz Ph_honest := by
  obtain ⟨fd, F⟩ := Z.f_honest
  exact ok_fz (P := P) (w := w) (mg := mg) (base := base) (b := b_honest) (k := 5) (N := N_honest) F sc_honest bi_honest Z.g_honest (dd_honest Z)
abbrev N_behind : List Str := ["liking", "child"]
theorem sc_behind : FnScope N_behind ["liking", "child"] (defScope s_behind) := ⟨rfl, rfl, rfl, by decide +kernel, rfl, by decide +kernel, by decide +kernel⟩
theorem bi_behind : ∀ (kV doc pm : Value) (an : Option Addr) (cdv ct : Value) (us : List Value), us.length = (["liking", "child"] : List Str).length → bindArgs (PySem.W.fnOf "behind" "behind" (defArgs s_behind) (defBody s_behind) (defScope s_behind) .none kV doc pm an cdv ct) ⟨us, []⟩ = pure ((["liking", "child"] : List Str).zip us) :=
  fun _ _ _ _ _ _ us hl => match us, hl with | [_, _], _ => rfl
def b_behind : Bd := bRet (f2 subD (f2 subD (fB lenD (aCons (vF 0) (aNil))) (cD (.int 1))) (f2 idxD (vF 0) (vF 1)))
def Ph_behind : List D → Option D := fnB (N_behind).length (["liking", "child"] : List Str).length b_behind
theorem dd_behind (Z : Fx K mg) (cdv : Value) (A : Around) (outer : List Env) (s : Shared) (H : Hp) (E : XK) (hr : Room (0) (A.deeper (envOfC "behind" (defScope s_behind) s.heap.objs.size (He.ga K "behind") cdv))) :
    ∃ W t, DSs (cxOf CX0 P w K mg base N_behind "behind" (defScope s_behind) (He.ga K "behind") cdv A outer s H E).nox .fz W (defBody s_behind) t (b_behind) := ⟨_, _,
  dss_one (ds_ret (de_op op_sub ops_sub (de_op op_sub ops_sub (de_cb (call_lenK K) cs_len rfl Z.n_len bt_len (da_cons (de_v 0) (da_nil))) (de_int)) (de_index K hr.u65 (de_v 0) (de_v 1))))⟩
theorem ok_behind (Z : Fx K mg) : Ok P w K mg base 1 "behind" ["liking", "child"] .fz Ph_behind := by
  obtain ⟨fd, F⟩ := Z.f_behind
  exact ok_fz (P := P) (w := w) (mg := mg) (base := base) (b := b_behind) (k := 0) (N := N_behind) F sc_behind bi_behind Z.g_behind (dd_behind Z)
abbrev N_worth : List Str := ["liking", "got", "child"]
theorem sc_worth : FnScope N_worth ["liking", "got"] (defScope s_worth) := ⟨rfl, rfl, rfl, by decide +kernel, rfl, by decide +kernel, by decide +kernel⟩
theorem bi_worth : ∀ (kV doc pm : Value) (an : Option Addr) (cdv ct : Value) (us : List Value), us.length = (["liking", "got"] : List Str).length → bindArgs (PySem.W.fnOf "worth" "worth" (defArgs s_worth) (defBody s_worth) (defScope s_worth) .none kV doc pm an cdv ct) ⟨us, []⟩ = pure ((["liking", "got"] : List Str).zip us) :=
  fun _ _ _ _ _ _ us hl => match us, hl with | [_, _], _ => rfl
def b_worth : Bd := bSeq (bAsg 0 (fB (Ph_need) (aCons (cD (.int 1)) (aCons (fB (Ph_to_liking) (aCons (vF 0) (aNil))) (aNil))))) (bSeq (bAsg 1 (fB (Ph_need) (aCons (cD (.int 2)) (aCons (fB (Ph_to_ints) (aCons (vF 1) (aCons (cD (.int 0)) (aCons (f2 subD (fB lenD (aCons (vF 0) (aNil))) (cD (.int 1))) (aCons (cD (.int 0)) (aCons (fB lenD (aCons (vF 0) (aNil))) (aNil))))))) (aNil))))) (bSeq (bIf (fTr (fB anyD (aCons (fLc (fI (vF 1)) (sN 2) (fYes) (f2 gtD (f2 cntD (vF 1) (vF 2)) (cD (.int 1))) [2]) (aNil)))) (bAsg 1 (fB (Ph_need) (aCons (cD (.int 2)) (aCons (cD .none) (aNil))))) (bNext)) (bRet (fB sumD (aCons (fLc (fI (vF 1)) (sN 2) (fYes) (fB (Ph_behind) (aCons (vF 0) (aCons (vF 2) (aNil)))) [2]) (aNil))))))
def Ph_worth : List D → Option D := fnB (N_worth).length (["liking", "got"] : List Str).length b_worth
theorem dd_worth (Z : Fx K mg) (cdv : Value) (A : Around) (outer : List Env) (s : Shared) (H : Hp) (E : XK) (hr : Room (4) (A.deeper (envOfC "worth" (defScope s_worth) s.heap.objs.size (He.ga K "worth") cdv))) :
    ∃ W t, DSs (cxOf CX0 P w K mg base N_worth "worth" (defScope s_worth) (He.ga K "worth") cdv A outer s H E).nox .fz W (defBody s_worth) t (b_worth) := ⟨_, _,
  dss_cons (ds_asg (i := 0) (de_fnK K (ok_need Z) hr (by omega) rfl (da_cons (de_int) (da_cons (de_fnK K (ok_to_liking Z) hr (by omega) rfl (da_cons (de_v 0) (da_nil))) (da_nil)))) sc_worth.nd) (dss_cons (ds_asg (i := 1) (de_fnK K (ok_need Z) hr (by omega) rfl (da_cons (de_int) (da_cons (de_fnK K (ok_to_ints Z) hr (by omega) rfl (da_cons (de_v 1) (da_cons (de_int) (da_cons (de_op op_sub ops_sub (de_cb (call_lenK K) cs_len rfl Z.n_len bt_len (da_cons (de_v 0) (da_nil))) (de_int)) (da_cons (de_int) (da_cons (de_cb (call_lenK K) cs_len rfl Z.n_len bt_len (da_cons (de_v 0) (da_nil))) (da_nil))))))) (da_nil)))) sc_worth.nd) (dss_cons (ds_if (dt_truK K (de_cb (cr_anyK K rfl) cs_any rfl Z.n_any bt_any (da_cons (de_lc [("child", 2)] sc_worth.nd (di_anyK K (de_v 1)) (blk_of (N := N_worth) (sc := defScope s_worth) (by decide +kernel)) (fun _ _ _ _ _ => dg_n sc_worth.nd (i := 2)) (fun _ _ _ _ _ => dts_nil) (fun _ _ _ _ _ => de_cmp (op_gt_K K hr.u64) ops_gt rfl (de_count K hr.u65 (de_v 1) (de_v 2)) (de_int)) (by decide)) (da_nil)))) (dss_one (ds_asg (i := 1) (de_fnK K (ok_need Z) hr (by omega) rfl (da_cons (de_int) (da_cons (de_non) (da_nil)))) sc_worth.nd)) (dss_nil)) (dss_one (ds_ret (de_cb (cr_sumAK K rfl) cs_sum rfl Z.n_sum bt_sum (da_cons (de_lc [("child", 2)] sc_worth.nd (di_anyK K (de_v 1)) (blk_of (N := N_worth) (sc := defScope s_worth) (by decide +kernel)) (fun _ _ _ _ _ => dg_n sc_worth.nd (i := 2)) (fun _ _ _ _ _ => dts_nil) (fun _ _ _ _ _ => de_fnK K (ok_behind Z) hr (by omega) rfl (da_cons (de_v 0) (da_cons (de_v 2) (da_nil)))) (by decide)) (da_nil)))))))⟩
theorem ok_worth (Z : Fx K mg) : Ok P w K mg base 5 "worth" ["liking", "got"] .fz Ph_worth := by
  obtain ⟨fd, F⟩ := Z.f_worth
  exact ok_fz (P := P) (w := w) (mg := mg) (base := base) (b := b_worth) (k := 4) (N := N_worth) F sc_worth bi_worth Z.g_worth (dd_worth Z)
abbrev N_strengths : List Str := ["skills", "split"]
theorem sc_strengths : FnScope N_strengths ["skills", "split"] (defScope s_strengths) := ⟨rfl, rfl, rfl, by decide +kernel, rfl, by decide +kernel, by decide +kernel⟩
theorem bi_strengths : ∀ (kV doc pm : Value) (an : Option Addr) (cdv ct : Value) (us : List Value), us.length = (["skills", "split"] : List Str).length → bindArgs (PySem.W.fnOf "strengths" "strengths" (defArgs s_strengths) (defBody s_strengths) (defScope s_strengths) .none kV doc pm an cdv ct) ⟨us, []⟩ = pure ((["skills", "split"] : List Str).zip us) :=
  fun _ _ _ _ _ _ us hl => match us, hl with | [_, _], _ => rfl
def b_strengths : Bd := bSeq (bAsg 0 (fB (Ph_need) (aCons (cD (.int 1)) (aCons (fB (Ph_to_skills) (aCons (vF 0) (aNil))) (aNil))))) (bSeq (bAsg 1 (fB (Ph_need) (aCons (cD (.int 2)) (aCons (fB (Ph_to_split_for) (aCons (vF 1) (aCons (vF 0) (aNil)))) (aNil))))) (bRet (fB tupD (aCons (fB (Ph_sums_of) (aCons (vF 0) (aCons (vF 1) (aNil)))) (aNil)))))
def Ph_strengths : List D → Option D := fnB (N_strengths).length (["skills", "split"] : List Str).length b_strengths
theorem dd_strengths (Z : Fx K mg) (cdv : Value) (A : Around) (outer : List Env) (s : Shared) (H : Hp) (E : XK) (hr : Room (6) (A.deeper (envOfC "strengths" (defScope s_strengths) s.heap.objs.size (He.ga K "strengths") cdv))) :
    ∃ W t, DSs (cxOf CX0 P w K mg base N_strengths "strengths" (defScope s_strengths) (He.ga K "strengths") cdv A outer s H E).nox .fz W (defBody s_strengths) t (b_strengths) := ⟨_, _,
  dss_cons (ds_asg (i := 0) (de_fnK K (ok_need Z) hr (by omega) rfl (da_cons (de_int) (da_cons (de_fnK K (ok_to_skills Z) hr (by omega) rfl (da_cons (de_v 0) (da_nil))) (da_nil)))) sc_strengths.nd) (dss_cons (ds_asg (i := 1) (de_fnK K (ok_need Z) hr (by omega) rfl (da_cons (de_int) (da_cons (de_fnK K (ok_to_split_for Z) hr (by omega) rfl (da_cons (de_v 1) (da_cons (de_v 0) (da_nil)))) (da_nil)))) sc_strengths.nd) (dss_one (ds_ret (de_ct (cr_tupK K) cs_tup rfl Z.n_tuple bt_tuple (da_cons (de_fnK K (ok_sums_of Z) hr (by omega) rfl (da_cons (de_v 0) (da_cons (de_v 1) (da_nil)))) (da_nil))))))⟩
theorem ok_strengths (Z : Fx K mg) : Ok P w K mg base 7 "strengths" ["skills", "split"] .fz Ph_strengths := by
  obtain ⟨fd, F⟩ := Z.f_strengths
  exact ok_fz (P := P) (w := w) (mg := mg) (base := base) (b := b_strengths) (k := 6) (N := N_strengths) F sc_strengths bi_strengths Z.g_strengths (dd_strengths Z)
abbrev N_even_sizes : List Str := ["split"]
theorem sc_even_sizes : FnScope N_even_sizes ["split"] (defScope s_even_sizes) := ⟨rfl, rfl, rfl, by decide +kernel, rfl, by decide +kernel, by decide +kernel⟩
theorem bi_even_sizes : ∀ (kV doc pm : Value) (an : Option Addr) (cdv ct : Value) (us : List Value), us.length = (["split"] : List Str).length → bindArgs (PySem.W.fnOf "even_sizes" "even_sizes" (defArgs s_even_sizes) (defBody s_even_sizes) (defScope s_even_sizes) .none kV doc pm an cdv ct) ⟨us, []⟩ = pure ((["split"] : List Str).zip us) :=
  fun _ _ _ _ _ _ us hl => match us, hl with | [_], _ => rfl
def b_even_sizes : Bd := bRet (fB (Ph_sizes_alike) (aCons (fB (Ph_need) (aCons (cD (.int 1)) (aCons (fB (Ph_to_split) (aCons (vF 0) (aNil))) (aNil)))) (aNil)))
def Ph_even_sizes : List D → Option D := fnB (N_even_sizes).length (["split"] : List Str).length b_even_sizes
theorem dd_even_sizes (Z : Fx K mg) (cdv : Value) (A : Around) (outer : List Env) (s : Shared) (H : Hp) (E : XK) (hr : Room (5) (A.deeper (envOfC "even_sizes" (defScope s_even_sizes) s.heap.objs.size (He.ga K "even_sizes") cdv))) :
    ∃ W t, DSs (cxOf CX0 P w K mg base N_even_sizes "even_sizes" (defScope s_even_sizes) (He.ga K "even_sizes") cdv A outer s H E).nox .fz W (defBody s_even_sizes) t (b_even_sizes) := ⟨_, _,
  dss_one (ds_ret (de_fnK K (ok_sizes_alike Z) hr (by omega) rfl (da_cons (de_fnK K (ok_need Z) hr (by omega) rfl (da_cons (de_int) (da_cons (de_fnK K (ok_to_split Z) hr (by omega) rfl (da_cons (de_v 0) (da_nil))) (da_nil)))) (da_nil))))⟩
theorem ok_even_sizes (Z : Fx K mg) : Ok P w K mg base 6 "even_sizes" ["split"] .fz Ph_even_sizes := by
  obtain ⟨fd, F⟩ := Z.f_even_sizes
  exact ok_fz (P := P) (w := w) (mg := mg) (base := base) (b := b_even_sizes) (k := 5) (N := N_even_sizes) F sc_even_sizes bi_even_sizes Z.g_even_sizes (dd_even_sizes Z)
abbrev N_renamed : List Str := ["split"]
theorem sc_renamed : FnScope N_renamed ["split"] (defScope s_renamed) := ⟨rfl, rfl, rfl, by decide +kernel, rfl, by decide +kernel, by decide +kernel⟩
theorem bi_renamed : ∀ (kV doc pm : Value) (an : Option Addr) (cdv ct : Value) (us : List Value), us.length = (["split"] : List Str).length → bindArgs (PySem.W.fnOf "renamed" "renamed" (defArgs s_renamed) (defBody s_renamed) (defScope s_renamed) .none kV doc pm an cdv ct) ⟨us, []⟩ = pure ((["split"] : List Str).zip us) :=
  fun _ _ _ _ _ _ us hl => match us, hl with | [_], _ => rfl
def b_renamed : Bd := bRet (fB (Ph_canon) (aCons (fB (Ph_need) (aCons (cD (.int 1)) (aCons (fB (Ph_to_numbers) (aCons (vF 0) (aNil))) (aNil)))) (aNil)))
def Ph_renamed : List D → Option D := fnB (N_renamed).length (["split"] : List Str).length b_renamed
theorem dd_renamed (Z : Fx K mg) (cdv : Value) (A : Around) (outer : List Env) (s : Shared) (H : Hp) (E : XK) (hr : Room (4) (A.deeper (envOfC "renamed" (defScope s_renamed) s.heap.objs.size (He.ga K "renamed") cdv))) :
    ∃ W t, DSs (cxOf CX0 P w K mg base N_renamed "renamed" (defScope s_renamed) (He.ga K "renamed") cdv A outer s H E).nox .fz W (defBody s_renamed) t (b_renamed) := ⟨_, _,
  dss_one (ds_ret (de_fnK K (ok_canon Z) hr (by omega) rfl (da_cons (de_fnK K (ok_need Z) hr (by omega) rfl (da_cons (de_int) (da_cons (de_fnK K (ok_to_numbers Z) hr (by omega) rfl (da_cons (de_v 0) (da_nil))) (da_nil)))) (da_nil))))⟩
theorem ok_renamed (Z : Fx K mg) : Ok P w K mg base 5 "renamed" ["split"] .fz Ph_renamed := by
  obtain ⟨fd, F⟩ := Z.f_renamed
  exact ok_fz (P := P) (w := w) (mg := mg) (base := base) (b := b_renamed) (k := 4) (N := N_renamed) F sc_renamed bi_renamed Z.g_renamed (dd_renamed Z)
abbrev N__law_named : List Str := ["split", "seen", "team"]
theorem sc__law_named : FnScope N__law_named ["split"] (defScope s__law_named) := ⟨rfl, rfl, rfl, by decide +kernel, rfl, by decide +kernel, by decide +kernel⟩
def L__law_named_1 : Bd := bIf (fT (f2 notInD (vF 2) (vP 1))) (bApp 1 (vF 2)) (bNext)
theorem bi__law_named : ∀ (kV doc pm : Value) (an : Option Addr) (cdv ct : Value) (us : List Value), us.length = (["split"] : List Str).length → bindArgs (PySem.W.fnOf "_law_named" "_law_named" (defArgs s__law_named) (defBody s__law_named) (defScope s__law_named) .none kV doc pm an cdv ct) ⟨us, []⟩ = pure ((["split"] : List Str).zip us) :=
  fun _ _ _ _ _ _ us hl => match us, hl with | [_], _ => rfl
def b__law_named : Bd := bSeq (bOwn 1 (fLst (aNil))) (bSeq (bFor (fI (vF 0)) (sN 2) (L__law_named_1)) (bRet (fB tupD (aCons (fLc (fI (vF 0)) (sN 2) (fYes) (f2 idxD (vP 1) (vF 2)) [2]) (aNil)))))
def Ph__law_named : List D → Option D := fnB (N__law_named).length (["split"] : List Str).length b__law_named
theorem dd__law_named (Z : Fx K mg) (cdv : Value) (A : Around) (outer : List Env) (s : Shared) (H : Hp) (E : XK) (hr : Room (0) (A.deeper (envOfC "_law_named" (defScope s__law_named) s.heap.objs.size (He.ga K "_law_named") cdv))) :
    ∃ W t, DSs (cxOf CX0 P w K mg base N__law_named "_law_named" (defScope s__law_named) (He.ga K "_law_named") cdv A outer s H E).nox .fz W (defBody s__law_named) t (b__law_named) := ⟨_, _,
  dss_cons (ds_own (i := 1) (de_lst (da_nil)) sc__law_named.nd) (dss_cons (ds_for (di_anyK K (de_v 0)) (dg_n sc__law_named.nd (i := 2)) (dss_one (ds_if (dt_cmp (op_notIn_K K hr.u65) ops_notIn rfl (de_v 2) (de_p 1)) (dss_one (ds_app (j := 1) (de_v 2))) (dss_nil)))) (dss_one (ds_ret (de_ct (cr_tupK K) cs_tup rfl Z.n_tuple bt_tuple (da_cons (de_lc [("team", 2)] sc__law_named.nd (di_anyK K (de_v 0)) (blk_of (N := N__law_named) (sc := defScope s__law_named) (by decide +kernel)) (fun _ _ _ _ _ => dg_n sc__law_named.nd (i := 2)) (fun _ _ _ _ _ => dts_nil) (fun _ _ _ _ _ => de_index K hr.u65 (de_p 1) (de_v 2)) (by decide)) (da_nil))))))⟩
theorem ok__law_named (Z : Fx K mg) : Ok P w K mg base 1 "_law_named" ["split"] .fz Ph__law_named := by
  obtain ⟨fd, F⟩ := Z.f__law_named
  exact ok_fz (P := P) (w := w) (mg := mg) (base := base) (b := b__law_named) (k := 0) (N := N__law_named) F sc__law_named bi__law_named Z.g__law_named (dd__law_named Z)
abbrev N_swapped : List Str := ["split", "child", "other", "row"]
theorem sc_swapped : FnScope N_swapped ["split", "child", "other"] (defScope s_swapped) := ⟨rfl, rfl, rfl, by decide +kernel, rfl, by decide +kernel, by decide +kernel⟩
theorem bi_swapped : ∀ (kV doc pm : Value) (an : Option Addr) (cdv ct : Value) (us : List Value), us.length = (["split", "child", "other"] : List Str).length → bindArgs (PySem.W.fnOf "swapped" "swapped" (defArgs s_swapped) (defBody s_swapped) (defScope s_swapped) .none kV doc pm an cdv ct) ⟨us, []⟩ = pure ((["split", "child", "other"] : List Str).zip us) :=
  fun _ _ _ _ _ _ us hl => match us, hl with | [_, _, _], _ => rfl
def b_swapped : Bd := bSeq (bAsg 0 (fB (Ph_need) (aCons (cD (.int 1)) (aCons (fB (Ph_to_split) (aCons (vF 0) (aNil))) (aNil))))) (bSeq (bAsg 1 (fB (Ph_need_within) (aCons (cD (.int 2)) (aCons (vF 1) (aCons (cD (.int 0)) (aCons (f2 subD (fB lenD (aCons (vF 0) (aNil))) (cD (.int 1))) (aNil))))))) (bSeq (bAsg 2 (fB (Ph_need_within) (aCons (cD (.int 3)) (aCons (vF 2) (aCons (cD (.int 0)) (aCons (f2 subD (fB lenD (aCons (vF 0) (aNil))) (cD (.int 1))) (aNil))))))) (bSeq (bOwn 3 (fB lstD (aCons (vF 0) (aNil)))) (bSeq (bSwp 3 (vF 1) (vF 2) (aCons (f2 ixD (vP 3) (vF 2)) (aCons (f2 ixD (vP 3) (vF 1)) (aNil)))) (bRet (fBP .fz (Ph_canon) (aCons (vP 3) (aNil))))))))
def Ph_swapped : List D → Option D := fnB (N_swapped).length (["split", "child", "other"] : List Str).length b_swapped
theorem dd_swapped (Z : Fx K mg) (cdv : Value) (A : Around) (outer : List Env) (s : Shared) (H : Hp) (E : XK) (hr : Room (5) (A.deeper (envOfC "swapped" (defScope s_swapped) s.heap.objs.size (He.ga K "swapped") cdv))) :
    ∃ W t, DSs (cxOf CX0 P w K mg base N_swapped "swapped" (defScope s_swapped) (He.ga K "swapped") cdv A outer s H E).nox .fz W (defBody s_swapped) t (b_swapped) := ⟨_, _,
  dss_cons (ds_asg (i := 0) (de_fnK K (ok_need Z) hr (by omega) rfl (da_cons (de_int) (da_cons (de_fnK K (ok_to_split Z) hr (by omega) rfl (da_cons (de_v 0) (da_nil))) (da_nil)))) sc_swapped.nd) (dss_cons (ds_asg (i := 1) (de_fnK K (ok_need_within Z) hr (by omega) rfl (da_cons (de_int) (da_cons (de_v 1) (da_cons (de_int) (da_cons (de_op op_sub ops_sub (de_cb (call_lenK K) cs_len rfl Z.n_len bt_len (da_cons (de_v 0) (da_nil))) (de_int)) (da_nil)))))) sc_swapped.nd) (dss_cons (ds_asg (i := 2) (de_fnK K (ok_need_within Z) hr (by omega) rfl (da_cons (de_int) (da_cons (de_v 2) (da_cons (de_int) (da_cons (de_op op_sub ops_sub (de_cb (call_lenK K) cs_len rfl Z.n_len bt_len (da_cons (de_v 0) (da_nil))) (de_int)) (da_nil)))))) sc_swapped.nd) (dss_cons (ds_own (i := 3) (de_ct (call_list_ofK K) cs_lst rfl Z.n_list bt_list (da_cons (de_v 0) (da_nil))) sc_swapped.nd) (dss_cons (ds_swp K (j := 3) (de_tup (da_cons (de_ixK K (de_p 3) (de_v 2)) (da_cons (de_ixK K (de_p 3) (de_v 1)) (da_nil)))) (de_v 1) (de_v 2)) (dss_one (ds_ret (de_fnPK K (.inl rfl) (ok_canon Z) hr (by omega) rfl (da_cons (de_p 3) (da_nil)))))))))⟩
theorem ok_swapped (Z : Fx K mg) : Ok P w K mg base 6 "swapped" ["split", "child", "other"] .fz Ph_swapped := by
  obtain ⟨fd, F⟩ := Z.f_swapped
  exact ok_fz (P := P) (w := w) (mg := mg) (base := base) (b := b_swapped) (k := 5) (N := N_swapped) F sc_swapped bi_swapped Z.g_swapped (dd_swapped Z)
abbrev N_joined : List Str := ["split", "one", "other", "team"]
theorem sc_joined : FnScope N_joined ["split", "one", "other"] (defScope s_joined) := ⟨rfl, rfl, rfl, by decide +kernel, rfl, by decide +kernel, by decide +kernel⟩
theorem bi_joined : ∀ (kV doc pm : Value) (an : Option Addr) (cdv ct : Value) (us : List Value), us.length = (["split", "one", "other"] : List Str).length → bindArgs (PySem.W.fnOf "joined" "joined" (defArgs s_joined) (defBody s_joined) (defScope s_joined) .none kV doc pm an cdv ct) ⟨us, []⟩ = pure ((["split", "one", "other"] : List Str).zip us) :=
  fun _ _ _ _ _ _ us hl => match us, hl with | [_, _, _], _ => rfl
def b_joined : Bd := bSeq (bAsg 0 (fB (Ph_need) (aCons (cD (.int 1)) (aCons (fB (Ph_to_split) (aCons (vF 0) (aNil))) (aNil))))) (bSeq (bAsg 1 (fB (Ph_need_within) (aCons (cD (.int 2)) (aCons (vF 1) (aCons (cD (.int 0)) (aCons (fB maxA (aCons (vF 0) (aNil))) (aNil))))))) (bSeq (bAsg 2 (fB (Ph_need_within) (aCons (cD (.int 3)) (aCons (vF 2) (aCons (cD (.int 0)) (aCons (fB maxA (aCons (vF 0) (aNil))) (aNil))))))) (bRet (fB (Ph_canon) (aCons (fLc (fI (vF 0)) (sN 3) (fYes) (fIf (fT (f2 eqD (vF 3) (vF 2))) (vF 1) (vF 3)) [3]) (aNil))))))
def Ph_joined : List D → Option D := fnB (N_joined).length (["split", "one", "other"] : List Str).length b_joined
theorem dd_joined (Z : Fx K mg) (cdv : Value) (A : Around) (outer : List Env) (s : Shared) (H : Hp) (E : XK) (hr : Room (5) (A.deeper (envOfC "joined" (defScope s_joined) s.heap.objs.size (He.ga K "joined") cdv))) :
    ∃ W t, DSs (cxOf CX0 P w K mg base N_joined "joined" (defScope s_joined) (He.ga K "joined") cdv A outer s H E).nox .fz W (defBody s_joined) t (b_joined) := ⟨_, _,
  dss_cons (ds_asg (i := 0) (de_fnK K (ok_need Z) hr (by omega) rfl (da_cons (de_int) (da_cons (de_fnK K (ok_to_split Z) hr (by omega) rfl (da_cons (de_v 0) (da_nil))) (da_nil)))) sc_joined.nd) (dss_cons (ds_asg (i := 1) (de_fnK K (ok_need_within Z) hr (by omega) rfl (da_cons (de_int) (da_cons (de_v 1) (da_cons (de_int) (da_cons (de_cb (cr_maxAK K rfl hr.u70) cs_maxA rfl Z.n_max bt_max (da_cons (de_v 0) (da_nil))) (da_nil)))))) sc_joined.nd) (dss_cons (ds_asg (i := 2) (de_fnK K (ok_need_within Z) hr (by omega) rfl (da_cons (de_int) (da_cons (de_v 2) (da_cons (de_int) (da_cons (de_cb (cr_maxAK K rfl hr.u70) cs_maxA rfl Z.n_max bt_max (da_cons (de_v 0) (da_nil))) (da_nil)))))) sc_joined.nd) (dss_one (ds_ret (de_fnK K (ok_canon Z) hr (by omega) rfl (da_cons (DE.frz (de_lc [("team", 3)] sc_joined.nd (di_anyK K (de_v 0)) (blk_of (N := N_joined) (sc := defScope s_joined) (by decide +kernel)) (fun _ _ _ _ _ => dg_n sc_joined.nd (i := 3)) (fun _ _ _ _ _ => dts_nil) (fun _ _ _ _ _ => de_if (dt_cmp (op_eqDK K hr.u64) ops_eq rfl (de_v 3) (de_v 2)) (de_v 1) (de_v 3)) (by decide))) (da_nil)))))))⟩
theorem ok_joined (Z : Fx K mg) : Ok P w K mg base 6 "joined" ["split", "one", "other"] .fz Ph_joined := by
  obtain ⟨fd, F⟩ := Z.f_joined
  exact ok_fz (P := P) (w := w) (mg := mg) (base := base) (b := b_joined) (k := 5) (N := N_joined) F sc_joined bi_joined Z.g_joined (dd_joined Z)
abbrev N_reply_from : List Str := ["likings", "turns", "captain", "left", "best", "child", "rest", "total", "other"]
theorem sc_reply_from : FnScope N_reply_from ["likings", "turns", "captain", "left"] (defScope s_reply_from) := ⟨rfl, rfl, rfl, by decide +kernel, rfl, by decide +kernel, by decide +kernel⟩
def L_reply_from_1 (φ : List D → Option D) : Bd := bSeq (bAsg 6 (fB φ (aCons (vF 0) (aCons (fSl (vF 1) (oIs (cD (.int 1))) (oNo)) (aCons (vF 2) (aCons (fLc (fI (vF 3)) (sN 8) (fT (f2 neD (vF 8) (vF 5))) (vF 8) [8]) (aNil))))))) (bSeq (bAsg 7 (f2 addD (f2 ixD (vF 6) (cD (.int 0))) (fB (Ph_behind) (aCons (f2 ixD (vF 0) (vF 2)) (aCons (vF 5) (aNil)))))) (bIf (fOrT (fT (f2 isND (vF 4) (cD .none))) (fT (f2 gtD (vF 7) (f2 ixD (vF 4) (cD (.int 0)))))) (bAsg 4 (fTup (aCons (vF 7) (aCons (f2 addD (fTup (aCons (vF 5) (aNil))) (f2 ixD (vF 6) (cD (.int 1)))) (aNil))))) (bNext)))
theorem bi_reply_from : ∀ (kV doc pm : Value) (an : Option Addr) (cdv ct : Value) (us : List Value), us.length = (["likings", "turns", "captain", "left"] : List Str).length → bindArgs (PySem.W.fnOf "reply_from" "reply_from" (defArgs s_reply_from) (defBody s_reply_from) (defScope s_reply_from) .none kV doc pm an cdv ct) ⟨us, []⟩ = pure ((["likings", "turns", "captain", "left"] : List Str).zip us) :=
  fun _ _ _ _ _ _ us hl => match us, hl with | [_, _, _, _], _ => rfl
def b_reply_from (φ : List D → Option D) : Bd := bSeq (bIf (fNotT (fTr (vF 1))) (bRet (fTup (aCons (cD (.int 0)) (aCons (fTup (aNil)) (aNil))))) (bNext)) (bSeq (bIf (fT (f2 neD (f2 ixD (vF 1) (cD (.int 0))) (vF 2))) (bSeq (bAsg 5 (fB (Ph_best_left) (aCons (f2 ixD (vF 0) (f2 ixD (vF 1) (cD (.int 0)))) (aCons (vF 3) (aNil))))) (bRet (fB φ (aCons (vF 0) (aCons (fSl (vF 1) (oIs (cD (.int 1))) (oNo)) (aCons (vF 2) (aCons (fLc (fI (vF 3)) (sN 8) (fT (f2 neD (vF 8) (vF 5))) (vF 8) [8]) (aNil)))))))) (bNext)) (bSeq (bAsg 4 (cD .none)) (bSeq (bFor (fI (vF 3)) (sN 5) ((L_reply_from_1 φ))) (bRet (vF 4)))))
def Ph_reply_from : Nat → List D → Option D
  | 0 => fun _ => none
  | n + 1 => fnB (N_reply_from).length (["likings", "turns", "captain", "left"] : List Str).length (b_reply_from (Ph_reply_from n))
theorem dd_reply_from (Z : Fx K mg) {φ : List D → Option D} (n : Nat) (ih : Ok P w K mg base (n + 1) "reply_from" ["likings", "turns", "captain", "left"] .fz φ) (cdv : Value) (A : Around) (outer : List Env) (s : Shared) (H : Hp) (E : XK) (hr : Room (n + 1) (A.deeper (envOfC "reply_from" (defScope s_reply_from) s.heap.objs.size (He.ga K "reply_from") cdv))) :
    ∃ W t, DSs (cxOf CX0 P w K mg base N_reply_from "reply_from" (defScope s_reply_from) (He.ga K "reply_from") cdv A outer s H E).nox .fz W (defBody s_reply_from) t (b_reply_from φ) := ⟨_, _,
  dss_cons (ds_if (dt_not (dt_truK K (de_v 1))) (dss_one (ds_ret (de_tup (da_cons (de_int) (da_cons (de_tup (da_nil)) (da_nil)))))) (dss_nil)) (dss_cons (ds_if (dt_cmp (op_neDK K hr.u64) ops_ne rfl (de_ixK K (de_v 1) (de_int)) (de_v 2)) (dss_cons (ds_asg (i := 5) (de_fnK K (ok_best_left Z) hr (by omega) rfl (da_cons (de_ixK K (de_v 0) (de_ixK K (de_v 1) (de_int))) (da_cons (de_v 3) (da_nil)))) sc_reply_from.nd) (dss_one (ds_ret (de_fnK K ih hr (by omega) rfl (da_cons (de_v 0) (da_cons (de_slK K (de_v 1) (do_is (de_int)) (do_no)) (da_cons (de_v 2) (da_cons (DE.frz (de_lc [("other", 8)] sc_reply_from.nd (di_anyK K (de_v 3)) (blk_of (N := N_reply_from) (sc := defScope s_reply_from) (by decide +kernel)) (fun _ _ _ _ _ => dg_n sc_reply_from.nd (i := 8)) (fun _ _ _ _ _ => dts_one (dt_cmp (op_neDK K hr.u64) ops_ne rfl (de_v 8) (de_v 5))) (fun _ _ _ _ _ => de_v 8) (by decide))) (da_nil))))))))) (dss_nil)) (dss_cons (ds_asg (i := 4) (de_non) sc_reply_from.nd) (dss_cons (ds_for (di_anyK K (de_v 3)) (dg_n sc_reply_from.nd (i := 5)) (dss_cons (ds_asg (i := 6) (de_fnK K ih hr (by omega) rfl (da_cons (de_v 0) (da_cons (de_slK K (de_v 1) (do_is (de_int)) (do_no)) (da_cons (de_v 2) (da_cons (DE.frz (de_lc [("other", 8)] sc_reply_from.nd (di_anyK K (de_v 3)) (blk_of (N := N_reply_from) (sc := defScope s_reply_from) (by decide +kernel)) (fun _ _ _ _ _ => dg_n sc_reply_from.nd (i := 8)) (fun _ _ _ _ _ => dts_one (dt_cmp (op_neDK K hr.u64) ops_ne rfl (de_v 8) (de_v 5))) (fun _ _ _ _ _ => de_v 8) (by decide))) (da_nil)))))) sc_reply_from.nd) (dss_cons (ds_asg (i := 7) (de_op (op_addAK K) ops_addA (de_ixK K (de_v 6) (de_int)) (de_fnK K (ok_behind Z) hr (by omega) rfl (da_cons (de_ixK K (de_v 0) (de_v 2)) (da_cons (de_v 5) (da_nil))))) sc_reply_from.nd) (dss_one (ds_if (dt_w (dw_or (dt_cmp L2.op_isN ops_isN rfl (de_v 4) (de_non)) (dw_or1 (dt_cmp (op_gt_K K hr.u64) ops_gt rfl (de_v 7) (de_ixK K (de_v 4) (de_int)))))) (dss_one (ds_asg (i := 4) (de_tup (da_cons (de_v 7) (da_cons (de_op (op_addAK K) ops_addA (de_tup (da_cons (de_v 5) (da_nil))) (de_ixK K (de_v 6) (de_int))) (da_nil)))) sc_reply_from.nd)) (dss_nil)))))) (dss_one (ds_ret (de_v 4))))))⟩
theorem ok_reply_from (Z : Fx K mg) : ∀ n : Nat, Ok P w K mg base (n + 1) "reply_from" ["likings", "turns", "captain", "left"] .fz (Ph_reply_from n)
  | 0 => by obtain ⟨fd, F⟩ := Z.f_reply_from; exact ok_zero F bi_reply_from Z.g_reply_from
  | n + 1 => by
    obtain ⟨fd, F⟩ := Z.f_reply_from
    have e : n + 1 + 1 = n + 1 + 1 := by omega
    rw [e]
    exact ok_fz (P := P) (w := w) (mg := mg) (base := base) (b := b_reply_from (Ph_reply_from n)) (k := n + 1) (N := N_reply_from) F sc_reply_from bi_reply_from Z.g_reply_from (dd_reply_from Z n (ok_reply_from Z n))
abbrev N_best_reply : List Str := ["likings", "turns", "captain"]
theorem sc_best_reply : FnScope N_best_reply ["likings", "turns", "captain"] (defScope s_best_reply) := ⟨rfl, rfl, rfl, by decide +kernel, rfl, by decide +kernel, by decide +kernel⟩
theorem bi_best_reply : ∀ (kV doc pm : Value) (an : Option Addr) (cdv ct : Value) (us : List Value), us.length = (["likings", "turns", "captain"] : List Str).length → bindArgs (PySem.W.fnOf "best_reply" "best_reply" (defArgs s_best_reply) (defBody s_best_reply) (defScope s_best_reply) .none kV doc pm an cdv ct) ⟨us, []⟩ = pure ((["likings", "turns", "captain"] : List Str).zip us) :=
  fun _ _ _ _ _ _ us hl => match us, hl with | [_, _, _], _ => rfl
def b_best_reply : Bd := bSeq (bAsg 0 (fB (Ph_need) (aCons (cD (.int 1)) (aCons (fB (Ph_to_likings) (aCons (vF 0) (aNil))) (aNil))))) (bSeq (bAsg 1 (fB (Ph_need) (aCons (cD (.int 2)) (aCons (fB (Ph_to_ints) (aCons (vF 1) (aCons (cD (.int 0)) (aCons (cD (.int 1)) (aCons (fB lenD (aCons (f2 ixD (vF 0) (cD (.int 0))) (aNil))) (aCons (fB lenD (aCons (f2 ixD (vF 0) (cD (.int 0))) (aNil))) (aNil))))))) (aNil))))) (bSeq (bAsg 2 (fB (Ph_need_within) (aCons (cD (.int 3)) (aCons (vF 2) (aCons (cD (.int 0)) (aCons (cD (.int 1)) (aNil))))))) (bSeq (bIf (fT (f2 gtD (fB lenD (aCons (f2 ixD (vF 0) (cD (.int 0))) (aNil))) (cD (.int 8)))) (bNever) (bNext)) (bRet (fB (Ph_reply_from 8) (aCons (vF 0) (aCons (vF 1) (aCons (vF 2) (aCons (fLr1 (fB lenD (aCons (f2 ixD (vF 0) (cD (.int 0))) (aNil)))) (aNil))))))))))
def Ph_best_reply : List D → Option D := fnB (N_best_reply).length (["likings", "turns", "captain"] : List Str).length b_best_reply
theorem dd_best_reply (Z : Fx K mg) (cdv : Value) (A : Around) (outer : List Env) (s : Shared) (H : Hp) (E : XK) (hr : Room (9) (A.deeper (envOfC "best_reply" (defScope s_best_reply) s.heap.objs.size (He.ga K "best_reply") cdv))) :
    ∃ W t, DSs (cxOf CX0 P w K mg base N_best_reply "best_reply" (defScope s_best_reply) (He.ga K "best_reply") cdv A outer s H E).nox .fz W (defBody s_best_reply) t (b_best_reply) := ⟨_, _,
  dss_cons (ds_asg (i := 0) (de_fnK K (ok_need Z) hr (by omega) rfl (da_cons (de_int) (da_cons (de_fnK K (ok_to_likings Z) hr (by omega) rfl (da_cons (de_v 0) (da_nil))) (da_nil)))) sc_best_reply.nd) (dss_cons (ds_asg (i := 1) (de_fnK K (ok_need Z) hr (by omega) rfl (da_cons (de_int) (da_cons (de_fnK K (ok_to_ints Z) hr (by omega) rfl (da_cons (de_v 1) (da_cons (de_int) (da_cons (de_int) (da_cons (de_cb (call_lenK K) cs_len rfl Z.n_len bt_len (da_cons (de_ixK K (de_v 0) (de_int)) (da_nil))) (da_cons (de_cb (call_lenK K) cs_len rfl Z.n_len bt_len (da_cons (de_ixK K (de_v 0) (de_int)) (da_nil))) (da_nil))))))) (da_nil)))) sc_best_reply.nd) (dss_cons (ds_asg (i := 2) (de_fnK K (ok_need_within Z) hr (by omega) rfl (da_cons (de_int) (da_cons (de_v 2) (da_cons (de_int) (da_cons (de_int) (da_nil)))))) sc_best_reply.nd) (dss_cons (ds_if (dt_cmp (op_gt_K K hr.u64) ops_gt rfl (de_cb (call_lenK K) cs_len rfl Z.n_len bt_len (da_cons (de_ixK K (de_v 0) (de_int)) (da_nil))) (de_int)) (dss_one (ds_never)) (dss_nil)) (dss_one (ds_ret (de_fnK K (ok_reply_from Z 8) hr (by omega) rfl (da_cons (de_v 0) (da_cons (de_v 1) (da_cons (de_v 2) (da_cons (DE.frz (de_lr1 rfl Z.n_list rfl Z.n_range (de_cb (call_lenK K) cs_len rfl Z.n_len bt_len (da_cons (de_ixK K (de_v 0) (de_int)) (da_nil))))) (da_nil)))))))))))⟩
theorem ok_best_reply (Z : Fx K mg) : Ok P w K mg base 10 "best_reply" ["likings", "turns", "captain"] .fz Ph_best_reply := by
  obtain ⟨fd, F⟩ := Z.f_best_reply
  exact ok_fz (P := P) (w := w) (mg := mg) (base := base) (b := b_best_reply) (k := 9) (N := N_best_reply) F sc_best_reply bi_best_reply Z.g_best_reply (dd_best_reply Z)
abbrev N_law : List Str := ["script", "skills", "teams", "every", "ranked", "fair", "rows", "k", "split", "size", "orders", "likings", "by_turns", "handed", "turns", "told", "captain", "turned", "one", "other", "changed", "whole", "best", "pair", "n", "wrong", "team", "j"]
theorem sc_law : FnScope N_law ["script"] (defScope s_law) := ⟨rfl, rfl, rfl, by decide +kernel, rfl, by decide +kernel, by decide +kernel⟩
def L_law_1 : Bd := bSeq (bIf (fOrT (fT (f2 notBD (fB (Ph_is_split) (aCons (vF 1) (aCons (vF 2) (aCons (fB (Ph__law_listed 4) (aCons (vF 8) (aNil))) (aNil))))) (cD (.bool true)))) (fOrT (fT (f2 neD (fB (Ph_is_split) (aCons (vF 1) (aCons (vF 2) (aCons (f2 revUD (vF 8) (f1 negD (cD (.int 1)))) (aNil))))) (f2 inD (f2 revUD (vF 8) (f1 negD (cD (.int 1)))) (vF 3)))) (fOrT (fNotT (fTr (fB (Ph__law_same 4) (aCons (fB (Ph_strengths) (aCons (vF 1) (aCons (vF 8) (aNil)))) (aCons (fB (Ph__law_sums) (aCons (vF 1) (aCons (vF 8) (aCons (vF 2) (aNil))))) (aNil)))))) (fNotT (fTr (fB (Ph__law_same 4) (aCons (fB (Ph_even_sizes) (aCons (vF 8) (aNil))) (aCons (fB (Ph__law_sizes) (aCons (vF 8) (aNil))) (aNil))))))))) (bRet (cD (.bool false))) (bNext)) (bSeq (bAsg 17 (fB tupD (aCons (fLc (fI (vF 8)) (sN 26) (fYes) (f2 subD (f2 subD (vF 2) (cD (.int 1))) (vF 26)) [26]) (aNil)))) (bSeq (bAsg 18 (f2 modD (fB (Ph__law_cell) (aCons (vF 0) (aCons (cD (.int 4)) (aNil)))) (fB lenD (aCons (vF 8) (aNil))))) (bSeq (bAsg 19 (f2 modD (f2 addD (f2 addD (vF 18) (cD (.int 1))) (f2 modD (fB (Ph__law_cell) (aCons (vF 0) (aCons (cD (.int 5)) (aNil)))) (f2 subD (fB lenD (aCons (vF 8) (aNil))) (cD (.int 1))))) (fB lenD (aCons (vF 8) (aNil))))) (bSeq (bAsg 20 (fB tupD (aCons (fLc (fIs rg1D (aCons (fB lenD (aCons (vF 8) (aNil))) (aNil))) (sN 27) (fYes) (fIf (fT (f2 eqD (vF 27) (vF 18))) (f2 ixD (vF 8) (vF 19)) (fIf (fT (f2 eqD (vF 27) (vF 19))) (f2 ixD (vF 8) (vF 18)) (f2 ixD (vF 8) (vF 27)))) [27]) (aNil)))) (bSeq (bAsg 21 (fB tupD (aCons (fLc (fI (vF 8)) (sN 26) (fYes) (fIf (fT (f2 eqD (vF 26) (f2 subD (vF 2) (cD (.int 1))))) (cD (.int 0)) (vF 26)) [26]) (aNil)))) (bIf (fOrT (fNotT (fTr (fB (Ph__law_same 4) (aCons (fB (Ph_renamed) (aCons (vF 17) (aNil))) (aCons (fB (Ph__law_named) (aCons (vF 17) (aNil))) (aNil)))))) (fOrT (fNotT (fTr (fB (Ph__law_same 4) (aCons (fB (Ph_swapped) (aCons (vF 8) (aCons (vF 18) (aCons (vF 19) (aNil))))) (aCons (fB (Ph__law_named) (aCons (vF 20) (aNil))) (aNil)))))) (fNotT (fTr (fB (Ph__law_same 4) (aCons (fB (Ph_joined) (aCons (vF 8) (aCons (cD (.int 0)) (aCons (f2 subD (vF 2) (cD (.int 1))) (aNil))))) (aCons (fB (Ph__law_named) (aCons (vF 21) (aNil))) (aNil)))))))) (bRet (cD (.bool false))) (bNext)))))))
def L_law_2 : Bd := bSeq (bAsg 22 (f2 ixD (fB (Ph__law_replies) (aCons (vF 11) (aCons (vF 14) (aCons (vF 16) (aNil))))) (cD (.int 0)))) (bIf (fOrT (fT (f2 neD (fB (Ph_worth) (aCons (f2 ixD (vF 11) (vF 16)) (aCons (f2 ixD (vF 15) (vF 16)) (aNil)))) (fB (Ph__law_worth) (aCons (f2 ixD (vF 11) (vF 16)) (aCons (f2 ixD (vF 15) (vF 16)) (aNil)))))) (fNotT (fTr (fB (Ph__law_same 4) (aCons (fB (Ph_best_reply) (aCons (vF 11) (aCons (vF 14) (aCons (vF 16) (aNil))))) (aCons (fTup (aCons (f2 subD (cD (.int 0)) (f2 ixD (vF 22) (cD (.int 0)))) (aCons (f2 ixD (vF 22) (cD (.int 1))) (aNil)))) (aNil))))))) (bRet (cD (.bool false))) (bNext))
theorem bi_law : ∀ (kV doc pm : Value) (an : Option Addr) (cdv ct : Value) (us : List Value), us.length = (["script"] : List Str).length → bindArgs (PySem.W.fnOf "law" "law" (defArgs s_law) (defBody s_law) (defScope s_law) .none kV doc pm an cdv ct) ⟨us, []⟩ = pure ((["script"] : List Str).zip us) :=
  fun _ _ _ _ _ _ us hl => match us, hl with | [_], _ => rfl
def b_law : Bd := bSeq (bAsg 1 (fB tupD (aCons (fLc (fI (fB (Ph__law_numbers) (aCons (vF 0) (aCons (cD (.int 0)) (aCons (f2 addD (cD (.int 2)) (f2 modD (fB (Ph__law_cell) (aCons (vF 0) (aCons (cD (.int 1)) (aNil)))) (cD (.int 5)))) (aNil)))))) (sN 24) (fYes) (f2 modD (fB intD (aCons (vF 24) (aNil))) (cD (.int 15))) [24]) (aNil)))) (bSeq (bAsg 2 (f2 addD (cD (.int 2)) (f2 modD (fB (Ph__law_cell) (aCons (vF 0) (aCons (cD (.int 2)) (aNil)))) (cD (.int 2))))) (bSeq (bAsg 3 (fB (Ph__law_splits) (aCons (fB lenD (aCons (vF 1) (aNil))) (aCons (vF 2) (aNil))))) (bSeq (bAsg 4 (fB sortedD (aCons (fLc (fI (vF 3)) (sN 8) (fYes) (fTup (aCons (fB (Ph__law_gap) (aCons (vF 1) (aCons (vF 8) (aCons (vF 2) (aNil))))) (aCons (vF 8) (aNil)))) [8]) (aNil)))) (bSeq (bAsg 5 (fLc (fI (vF 4)) (sN 23) (fTr (fB (Ph__law_sizes) (aCons (f2 ixD (vF 23) (cD (.int 1))) (aNil)))) (vF 23) [23])) (bSeq (bIf (fOrT (fNotT (fTr (fB (Ph__law_same 4) (aCons (fB (Ph_even) (aCons (fB (Ph__law_listed 4) (aCons (vF 1) (aNil))) (aCons (vF 2) (aNil)))) (aCons (fIf (fT (f2 neD (vF 4) (fLst (aNil)))) (f2 ixD (vF 4) (cD (.int 0))) (cD .none)) (aNil)))))) (fNotT (fTr (fB (Ph__law_same 4) (aCons (fB (Ph_alike) (aCons (vF 1) (aCons (vF 2) (aNil)))) (aCons (fIf (fT (f2 neD (vF 5) (fLst (aNil)))) (f2 ixD (vF 5) (cD (.int 0))) (cD .none)) (aNil))))))) (bRet (cD (.bool false))) (bNext)) (bSeq (bIf (fNotT (fTr (fB (Ph__law_same 4) (aCons (fB (Ph_many_even) (aCons (vF 1) (aCons (vF 2) (aNil)))) (aCons (fB lenD (aCons (fLc (fI (vF 4)) (sN 23) (fT (f2 eqD (f2 ixD (vF 23) (cD (.int 0))) (f2 ixD (f2 ixD (vF 4) (cD (.int 0))) (cD (.int 0))))) (vF 23) [23]) (aNil))) (aNil)))))) (bRet (cD (.bool false))) (bNext)) (bSeq (bAsg 6 (fB (Ph__law_chart) (aCons (vF 1) (aNil)))) (bSeq (bIf (fOrT (fNotT (fTr (fB (Ph__law_same 4) (aCons (fB (Ph_chart) (aCons (vF 1) (aNil))) (aCons (vF 6) (aNil)))))) (fT (f2 notBD (fB (Ph_chart_holds) (aCons (vF 1) (aCons (fB (Ph__law_listed 4) (aCons (vF 6) (aNil))) (aNil)))) (cD (.bool true))))) (bRet (cD (.bool false))) (bNext)) (bSeq (bAsg 7 (f2 modD (fB (Ph__law_cell) (aCons (vF 0) (aCons (cD (.int 3)) (aNil)))) (fB lenD (aCons (vF 6) (aNil))))) (bSeq (bIf (fT (f2 neD (fLc (fI (fLst (aCons (cD (.int 7)) (aCons (fSl (vF 6) (oIs (cD (.int 1))) (oNo)) (aCons (f2 addD (f2 addD (fSl (vF 6) (oNo) (oIs (vF 7))) (fTup (aCons (f2 addD (f2 ixD (vF 6) (vF 7)) (fTup (aCons (cD (.int 9999)) (aNil)))) (aNil)))) (fSl (vF 6) (oIs (f2 addD (vF 7) (cD (.int 1)))) (oNo))) (aCons (f2 addD (f2 addD (fSl (vF 6) (oNo) (oIs (vF 7))) (fTup (aCons (fSl (f2 ixD (vF 6) (vF 7)) (oIs (cD (.int 1))) (oNo)) (aNil)))) (fSl (vF 6) (oIs (f2 addD (vF 7) (cD (.int 1)))) (oNo))) (aNil))))))) (sN 25) (fT (f2 notBD (fB (Ph_chart_holds) (aCons (vF 1) (aCons (vF 25) (aNil)))) (cD (.bool false)))) (vF 25) [25]) (fLst (aNil)))) (bRet (cD (.bool false))) (bNext)) (bSeq (bFor (fI (f2 addD (fSl (vF 3) (oNo) (oIs (cD (.int 2)))) (fSl (vF 3) (oIs (f1 negD (cD (.int 2)))) (oNo)))) (sN 8) (L_law_1)) (bSeq (bAsg 9 (f2 addD (cD (.int 2)) (f2 mulD (cD (.int 2)) (f2 modD (fB (Ph__law_cell) (aCons (vF 0) (aCons (cD (.int 6)) (aNil)))) (cD (.int 3)))))) (bSeq (bAsg 10 (fIf (fT (f2 ltD (vF 9) (cD (.int 5)))) (fB (Ph__law_orders) (aCons (fLr1 (vF 9)) (aNil))) (fB (Ph__law_cycled) (aCons (vF 9) (aNil))))) (bSeq (bAsg 11 (fTup (aCons (f2 ixD (vF 10) (f2 modD (fB (Ph__law_cell) (aCons (vF 0) (aCons (cD (.int 7)) (aNil)))) (fB lenD (aCons (vF 10) (aNil))))) (aCons (f2 ixD (vF 10) (f2 modD (fB (Ph__law_cell) (aCons (vF 0) (aCons (cD (.int 8)) (aNil)))) (fB lenD (aCons (vF 10) (aNil))))) (aNil))))) (bSeq (bAsg 12 (f2 repGD (fTup (aCons (cD (.int 0)) (aCons (cD (.int 1)) (aNil)))) (fB intD (aCons (f2 fdivD (vF 9) (cD (.int 2))) (aNil))))) (bSeq (bAsg 13 (fB (Ph__law_listed 4) (aCons (vF 11) (aNil)))) (bSeq (bIf (fOrT (fNotT (fTr (fB (Ph__law_same 4) (aCons (fB (Ph_honest) (aCons (vF 13) (aNil))) (aCons (fB (Ph__law_honest) (aCons (vF 11) (aCons (vF 12) (aNil)))) (aNil)))))) (fT (f2 neD (vF 13) (fB (Ph__law_listed 4) (aCons (vF 11) (aNil)))))) (bRet (cD (.bool false))) (bNext)) (bSeq (bAsg 14 (fB tupD (aCons (fLc (fIs rg1D (aCons (vF 9) (aNil))) (sN 7) (fYes) (f2 modD (fB intD (aCons (f2 fdivD (fB (Ph__law_cell) (aCons (vF 0) (aCons (cD (.int 9)) (aNil)))) (f2 addD (cD (.int 1)) (vF 7))) (aNil))) (cD (.int 2))) [7]) (aNil)))) (bSeq (bAsg 15 (fB (Ph__law_honest) (aCons (vF 11) (aCons (vF 14) (aNil))))) (bSeq (bIf (fNotT (fTr (fB (Ph__law_same 4) (aCons (fB (Ph_picked) (aCons (vF 11) (aCons (fB (Ph__law_listed 4) (aCons (vF 14) (aNil))) (aNil)))) (aCons (vF 15) (aNil)))))) (bRet (cD (.bool false))) (bNext)) (bSeq (bFor (fI (fTup (aCons (cD (.int 0)) (aCons (cD (.int 1)) (aNil))))) (sN 16) (L_law_2)) (bRet (cD (.bool true))))))))))))))))))))))))
def Ph_law : List D → Option D := fnB (N_law).length (["script"] : List Str).length b_law
theorem dd_law (Z : Fx K mg) (cdv : Value) (A : Around) (outer : List Env) (s : Shared) (H : Hp) (E : XK) (hr : Room (10) (A.deeper (envOfC "law" (defScope s_law) s.heap.objs.size (He.ga K "law") cdv))) :
    ∃ W t, DSs (cxOf CX0 P w K mg base N_law "law" (defScope s_law) (He.ga K "law") cdv A outer s H E).nox .fz W (defBody s_law) t (b_law) := ⟨_, _,
  dss_cons (ds_asg (i := 1) (de_ct (cr_tupK K) cs_tup rfl Z.n_tuple bt_tuple (da_cons (de_lc [("n", 24)] sc_law.nd (di_anyK K (DE.frz (de_fnK K (ok__law_numbers Z) hr (by omega) rfl (da_cons (de_v 0) (da_cons (de_int) (da_cons (de_op (op_addAK K) ops_addA (de_int) (de_op op_modN ops_mod (de_fnK K (ok__law_cell Z) hr (by omega) rfl (da_cons (de_v 0) (da_cons (de_int) (da_nil)))) (de_int))) (da_nil))))))) (blk_of (N := N_law) (sc := defScope s_law) (by decide +kernel)) (fun _ _ _ _ _ => dg_n sc_law.nd (i := 24)) (fun _ _ _ _ _ => dts_nil) (fun _ _ _ _ _ => de_op op_modN ops_mod (de_ct call_int1 cs_int rfl Z.n_int bt_int (da_cons (de_v 24) (da_nil))) (de_int)) (by decide)) (da_nil))) sc_law.nd) (dss_cons (ds_asg (i := 2) (de_op (op_addAK K) ops_addA (de_int) (de_op op_modN ops_mod (de_fnK K (ok__law_cell Z) hr (by omega) rfl (da_cons (de_v 0) (da_cons (de_int) (da_nil)))) (de_int))) sc_law.nd) (dss_cons (ds_asg (i := 3) (DE.frz (de_fnK K (ok__law_splits Z) hr (by omega) rfl (da_cons (de_cb (call_lenK K) cs_len rfl Z.n_len bt_len (da_cons (de_v 1) (da_nil))) (da_cons (de_v 2) (da_nil))))) sc_law.nd) (dss_cons (ds_asg (i := 4) (DE.frz (de_cb (cr_srtK K hr.u70) cs_srt rfl Z.n_sorted bt_sorted (da_cons (de_lc [("split", 8)] sc_law.nd (di_anyK K (de_v 3)) (blk_of (N := N_law) (sc := defScope s_law) (by decide +kernel)) (fun _ _ _ _ _ => dg_n sc_law.nd (i := 8)) (fun _ _ _ _ _ => dts_nil) (fun _ _ _ _ _ => de_tup (da_cons (de_fnK K (ok__law_gap Z) hr (by omega) rfl (da_cons (de_v 1) (da_cons (de_v 8) (da_cons (de_v 2) (da_nil))))) (da_cons (de_v 8) (da_nil)))) (by decide)) (da_nil)))) sc_law.nd) (dss_cons (ds_asgLc (i := 5) [("pair", 23)] sc_law.nd (di_anyK K (de_v 4)) (blk_of (N := N_law) (sc := defScope s_law) (by decide +kernel)) (fun _ _ _ _ _ => dg_n sc_law.nd (i := 23)) (fun _ _ _ _ _ => dts_one (dt_truK K (de_fnK K (ok__law_sizes Z) hr (by omega) rfl (da_cons (de_ixK K (de_v 23) (de_int)) (da_nil))))) (fun _ _ _ _ _ => de_v 23) (by decide) (sw_true rfl rfl rfl (by decide +kernel))) (dss_cons (ds_if (dt_w (dw_or (dt_not (dt_truK K (de_fnK K (ok__law_same Z 4) hr (by omega) rfl (da_cons (de_fnK K (ok_even Z) hr (by omega) rfl (da_cons (de_fnK K (ok__law_listed Z 4) hr (by omega) rfl (da_cons (de_v 1) (da_nil))) (da_cons (de_v 2) (da_nil)))) (da_cons (de_if (dt_cmp (op_neDK K hr.u64) ops_ne rfl (de_v 4) (de_lst (da_nil))) (de_ixK K (de_v 4) (de_int)) (de_non)) (da_nil)))))) (dw_or1 (dt_not (dt_truK K (de_fnK K (ok__law_same Z 4) hr (by omega) rfl (da_cons (de_fnK K (ok_alike Z) hr (by omega) rfl (da_cons (de_v 1) (da_cons (de_v 2) (da_nil)))) (da_cons (de_if (dt_cmp (op_neDK K hr.u64) ops_ne rfl (de_v 5) (de_lst (da_nil))) (de_ixK K (de_v 5) (de_int)) (de_non)) (da_nil))))))))) (dss_one (ds_ret (de_bl))) (dss_nil)) (dss_cons (ds_if (dt_not (dt_truK K (de_fnK K (ok__law_same Z 4) hr (by omega) rfl (da_cons (de_fnK K (ok_many_even Z) hr (by omega) rfl (da_cons (de_v 1) (da_cons (de_v 2) (da_nil)))) (da_cons (de_cb (call_lenK K) cs_len rfl Z.n_len bt_len (da_cons (de_lc [("pair", 23)] sc_law.nd (di_anyK K (de_v 4)) (blk_of (N := N_law) (sc := defScope s_law) (by decide +kernel)) (fun _ _ _ _ _ => dg_n sc_law.nd (i := 23)) (fun _ _ _ _ _ => dts_one (dt_cmp (op_eqDK K hr.u64) ops_eq rfl (de_ixK K (de_v 23) (de_int)) (de_ixK K (de_ixK K (de_v 4) (de_int)) (de_int)))) (fun _ _ _ _ _ => de_v 23) (by decide)) (da_nil))) (da_nil)))))) (dss_one (ds_ret (de_bl))) (dss_nil)) (dss_cons (ds_asg (i := 6) (de_fnK K (ok__law_chart Z) hr (by omega) rfl (da_cons (de_v 1) (da_nil))) sc_law.nd) (dss_cons (ds_if (dt_w (dw_or (dt_not (dt_truK K (de_fnK K (ok__law_same Z 4) hr (by omega) rfl (da_cons (de_fnK K (ok_chart Z) hr (by omega) rfl (da_cons (de_v 1) (da_nil))) (da_cons (de_v 6) (da_nil)))))) (dw_or1 (dt_cmp op_notBl ops_notB rfl (de_fnK K (ok_chart_holds Z) hr (by omega) rfl (da_cons (de_v 1) (da_cons (de_fnK K (ok__law_listed Z 4) hr (by omega) rfl (da_cons (de_v 6) (da_nil))) (da_nil)))) (de_bl))))) (dss_one (ds_ret (de_bl))) (dss_nil)) (dss_cons (ds_asg (i := 7) (de_op op_modN ops_mod (de_fnK K (ok__law_cell Z) hr (by omega) rfl (da_cons (de_v 0) (da_cons (de_int) (da_nil)))) (de_cb (call_lenK K) cs_len rfl Z.n_len bt_len (da_cons (de_v 6) (da_nil)))) sc_law.nd) (dss_cons (ds_if (dt_cmp (op_neDK K hr.u64) ops_ne rfl (de_lc [("wrong", 25)] sc_law.nd (di_anyK K (DE.frz (de_lst (da_cons (de_int) (da_cons (de_slK K (de_v 6) (do_is (de_int)) (do_no)) (da_cons (de_op (op_addAK K) ops_addA (de_op (op_addAK K) ops_addA (de_slK K (de_v 6) (do_no) (do_is (de_v 7))) (de_tup (da_cons (de_op (op_addAK K) ops_addA (de_ixK K (de_v 6) (de_v 7)) (de_tup (da_cons (de_int) (da_nil)))) (da_nil)))) (de_slK K (de_v 6) (do_is (de_op (op_addAK K) ops_addA (de_v 7) (de_int))) (do_no))) (da_cons (de_op (op_addAK K) ops_addA (de_op (op_addAK K) ops_addA (de_slK K (de_v 6) (do_no) (do_is (de_v 7))) (de_tup (da_cons (de_slK K (de_ixK K (de_v 6) (de_v 7)) (do_is (de_int)) (do_no)) (da_nil)))) (de_slK K (de_v 6) (do_is (de_op (op_addAK K) ops_addA (de_v 7) (de_int))) (do_no))) (da_nil)))))))) (blk_of (N := N_law) (sc := defScope s_law) (by decide +kernel)) (fun _ _ _ _ _ => dg_n sc_law.nd (i := 25)) (fun _ _ _ _ _ => dts_one (dt_cmp op_notBl ops_notB rfl (de_fnK K (ok_chart_holds Z) hr (by omega) rfl (da_cons (de_v 1) (da_cons (de_v 25) (da_nil)))) (de_bl))) (fun _ _ _ _ _ => de_v 25) (by decide)) (de_lst (da_nil))) (dss_one (ds_ret (de_bl))) (dss_nil)) (dss_cons (ds_for (di_anyK K (de_op (op_addAK K) ops_addA (de_slK K (de_v 3) (do_no) (do_is (de_int))) (de_slK K (de_v 3) (do_is (de_neg (de_int))) (do_no)))) (dg_n sc_law.nd (i := 8)) (dss_cons (ds_if (dt_w (dw_or (dt_cmp op_notBl ops_notB rfl (de_fnK K (ok_is_split Z) hr (by omega) rfl (da_cons (de_v 1) (da_cons (de_v 2) (da_cons (de_fnK K (ok__law_listed Z 4) hr (by omega) rfl (da_cons (de_v 8) (da_nil))) (da_nil))))) (de_bl)) (dw_or (dt_cmp (op_neDK K hr.u64) ops_ne rfl (de_fnK K (ok_is_split Z) hr (by omega) rfl (da_cons (de_v 1) (da_cons (de_v 2) (da_cons (de_revU K (de_v 8) (de_neg (de_int))) (da_nil))))) (de_cmp (op_in_K K hr.u65) ops_in rfl (de_revU K (de_v 8) (de_neg (de_int))) (de_v 3))) (dw_or (dt_not (dt_truK K (de_fnK K (ok__law_same Z 4) hr (by omega) rfl (da_cons (de_fnK K (ok_strengths Z) hr (by omega) rfl (da_cons (de_v 1) (da_cons (de_v 8) (da_nil)))) (da_cons (de_fnK K (ok__law_sums Z) hr (by omega) rfl (da_cons (de_v 1) (da_cons (de_v 8) (da_cons (de_v 2) (da_nil))))) (da_nil)))))) (dw_or1 (dt_not (dt_truK K (de_fnK K (ok__law_same Z 4) hr (by omega) rfl (da_cons (de_fnK K (ok_even_sizes Z) hr (by omega) rfl (da_cons (de_v 8) (da_nil))) (da_cons (de_fnK K (ok__law_sizes Z) hr (by omega) rfl (da_cons (de_v 8) (da_nil))) (da_nil))))))))))) (dss_one (ds_ret (de_bl))) (dss_nil)) (dss_cons (ds_asg (i := 17) (de_ct (cr_tupK K) cs_tup rfl Z.n_tuple bt_tuple (da_cons (de_lc [("team", 26)] sc_law.nd (di_anyK K (de_v 8)) (blk_of (N := N_law) (sc := defScope s_law) (by decide +kernel)) (fun _ _ _ _ _ => dg_n sc_law.nd (i := 26)) (fun _ _ _ _ _ => dts_nil) (fun _ _ _ _ _ => de_op op_sub ops_sub (de_op op_sub ops_sub (de_v 2) (de_int)) (de_v 26)) (by decide)) (da_nil))) sc_law.nd) (dss_cons (ds_asg (i := 18) (de_op op_modN ops_mod (de_fnK K (ok__law_cell Z) hr (by omega) rfl (da_cons (de_v 0) (da_cons (de_int) (da_nil)))) (de_cb (call_lenK K) cs_len rfl Z.n_len bt_len (da_cons (de_v 8) (da_nil)))) sc_law.nd) (dss_cons (ds_asg (i := 19) (de_op op_modN ops_mod (de_op (op_addAK K) ops_addA (de_op (op_addAK K) ops_addA (de_v 18) (de_int)) (de_op op_modN ops_mod (de_fnK K (ok__law_cell Z) hr (by omega) rfl (da_cons (de_v 0) (da_cons (de_int) (da_nil)))) (de_op op_sub ops_sub (de_cb (call_lenK K) cs_len rfl Z.n_len bt_len (da_cons (de_v 8) (da_nil))) (de_int)))) (de_cb (call_lenK K) cs_len rfl Z.n_len bt_len (da_cons (de_v 8) (da_nil)))) sc_law.nd) (dss_cons (ds_asg (i := 20) (de_ct (cr_tupK K) cs_tup rfl Z.n_tuple bt_tuple (da_cons (de_lc [("j", 27)] sc_law.nd (di_rg1 rfl Z.n_range (da_cons (de_cb (call_lenK K) cs_len rfl Z.n_len bt_len (da_cons (de_v 8) (da_nil))) (da_nil))) (blk_of (N := N_law) (sc := defScope s_law) (by decide +kernel)) (fun _ _ _ _ _ => dg_n sc_law.nd (i := 27)) (fun _ _ _ _ _ => dts_nil) (fun _ _ _ _ _ => de_if (dt_cmp (op_eqDK K hr.u64) ops_eq rfl (de_v 27) (de_v 18)) (de_ixK K (de_v 8) (de_v 19)) (de_if (dt_cmp (op_eqDK K hr.u64) ops_eq rfl (de_v 27) (de_v 19)) (de_ixK K (de_v 8) (de_v 18)) (de_ixK K (de_v 8) (de_v 27)))) (by decide)) (da_nil))) sc_law.nd) (dss_cons (ds_asg (i := 21) (de_ct (cr_tupK K) cs_tup rfl Z.n_tuple bt_tuple (da_cons (de_lc [("team", 26)] sc_law.nd (di_anyK K (de_v 8)) (blk_of (N := N_law) (sc := defScope s_law) (by decide +kernel)) (fun _ _ _ _ _ => dg_n sc_law.nd (i := 26)) (fun _ _ _ _ _ => dts_nil) (fun _ _ _ _ _ => de_if (dt_cmp (op_eqDK K hr.u64) ops_eq rfl (de_v 26) (de_op op_sub ops_sub (de_v 2) (de_int))) (de_int) (de_v 26)) (by decide)) (da_nil))) sc_law.nd) (dss_one (ds_if (dt_w (dw_or (dt_not (dt_truK K (de_fnK K (ok__law_same Z 4) hr (by omega) rfl (da_cons (de_fnK K (ok_renamed Z) hr (by omega) rfl (da_cons (de_v 17) (da_nil))) (da_cons (de_fnK K (ok__law_named Z) hr (by omega) rfl (da_cons (de_v 17) (da_nil))) (da_nil)))))) (dw_or (dt_not (dt_truK K (de_fnK K (ok__law_same Z 4) hr (by omega) rfl (da_cons (de_fnK K (ok_swapped Z) hr (by omega) rfl (da_cons (de_v 8) (da_cons (de_v 18) (da_cons (de_v 19) (da_nil))))) (da_cons (de_fnK K (ok__law_named Z) hr (by omega) rfl (da_cons (de_v 20) (da_nil))) (da_nil)))))) (dw_or1 (dt_not (dt_truK K (de_fnK K (ok__law_same Z 4) hr (by omega) rfl (da_cons (de_fnK K (ok_joined Z) hr (by omega) rfl (da_cons (de_v 8) (da_cons (de_int) (da_cons (de_op op_sub ops_sub (de_v 2) (de_int)) (da_nil))))) (da_cons (de_fnK K (ok__law_named Z) hr (by omega) rfl (da_cons (de_v 21) (da_nil))) (da_nil)))))))))) (dss_one (ds_ret (de_bl))) (dss_nil)))))))))) (dss_cons (ds_asg (i := 9) (de_op (op_addAK K) ops_addA (de_int) (de_op op_mul ops_mul (de_int) (de_op op_modN ops_mod (de_fnK K (ok__law_cell Z) hr (by omega) rfl (da_cons (de_v 0) (da_cons (de_int) (da_nil)))) (de_int)))) sc_law.nd) (dss_cons (ds_asg (i := 10) (de_if (dt_cmp (op_lt_K K hr.u64) ops_lt rfl (de_v 9) (de_int)) (de_fnK K (ok__law_orders Z) hr (by omega) rfl (da_cons (DE.frz (de_lr1 rfl Z.n_list rfl Z.n_range (de_v 9))) (da_nil))) (DE.frz (de_fnK K (ok__law_cycled Z) hr (by omega) rfl (da_cons (de_v 9) (da_nil))))) sc_law.nd) (dss_cons (ds_asg (i := 11) (de_tup (da_cons (de_ixK K (de_v 10) (de_op op_modN ops_mod (de_fnK K (ok__law_cell Z) hr (by omega) rfl (da_cons (de_v 0) (da_cons (de_int) (da_nil)))) (de_cb (call_lenK K) cs_len rfl Z.n_len bt_len (da_cons (de_v 10) (da_nil))))) (da_cons (de_ixK K (de_v 10) (de_op op_modN ops_mod (de_fnK K (ok__law_cell Z) hr (by omega) rfl (da_cons (de_v 0) (da_cons (de_int) (da_nil)))) (de_cb (call_lenK K) cs_len rfl Z.n_len bt_len (da_cons (de_v 10) (da_nil))))) (da_nil)))) sc_law.nd) (dss_cons (ds_asg (i := 12) (de_op (op_repGK K) ops_repG (de_tup (da_cons (de_int) (da_cons (de_int) (da_nil)))) (de_ct call_int1 cs_int rfl Z.n_int bt_int (da_cons (de_op op_fdivN ops_fdiv (de_v 9) (de_int)) (da_nil)))) sc_law.nd) (dss_cons (ds_asg (i := 13) (de_fnK K (ok__law_listed Z 4) hr (by omega) rfl (da_cons (de_v 11) (da_nil))) sc_law.nd) (dss_cons (ds_if (dt_w (dw_or (dt_not (dt_truK K (de_fnK K (ok__law_same Z 4) hr (by omega) rfl (da_cons (de_fnK K (ok_honest Z) hr (by omega) rfl (da_cons (de_v 13) (da_nil))) (da_cons (de_fnK K (ok__law_honest Z) hr (by omega) rfl (da_cons (de_v 11) (da_cons (de_v 12) (da_nil)))) (da_nil)))))) (dw_or1 (dt_cmp (op_neDK K hr.u64) ops_ne rfl (de_v 13) (de_fnK K (ok__law_listed Z 4) hr (by omega) rfl (da_cons (de_v 11) (da_nil))))))) (dss_one (ds_ret (de_bl))) (dss_nil)) (dss_cons (ds_asg (i := 14) (de_ct (cr_tupK K) cs_tup rfl Z.n_tuple bt_tuple (da_cons (de_lc [("k", 7)] sc_law.nd (di_rg1 rfl Z.n_range (da_cons (de_v 9) (da_nil))) (blk_of (N := N_law) (sc := defScope s_law) (by decide +kernel)) (fun _ _ _ _ _ => dg_n sc_law.nd (i := 7)) (fun _ _ _ _ _ => dts_nil) (fun _ _ _ _ _ => de_op op_modN ops_mod (de_ct call_int1 cs_int rfl Z.n_int bt_int (da_cons (de_op op_fdivN ops_fdiv (de_fnK K (ok__law_cell Z) hr (by omega) rfl (da_cons (de_v 0) (da_cons (de_int) (da_nil)))) (de_op (op_addAK K) ops_addA (de_int) (de_v 7))) (da_nil))) (de_int)) (by decide)) (da_nil))) sc_law.nd) (dss_cons (ds_asg (i := 15) (de_fnK K (ok__law_honest Z) hr (by omega) rfl (da_cons (de_v 11) (da_cons (de_v 14) (da_nil)))) sc_law.nd) (dss_cons (ds_if (dt_not (dt_truK K (de_fnK K (ok__law_same Z 4) hr (by omega) rfl (da_cons (de_fnK K (ok_picked Z) hr (by omega) rfl (da_cons (de_v 11) (da_cons (de_fnK K (ok__law_listed Z 4) hr (by omega) rfl (da_cons (de_v 14) (da_nil))) (da_nil)))) (da_cons (de_v 15) (da_nil)))))) (dss_one (ds_ret (de_bl))) (dss_nil)) (dss_cons (ds_for (di_anyK K (de_tup (da_cons (de_int) (da_cons (de_int) (da_nil))))) (dg_n sc_law.nd (i := 16)) (dss_cons (ds_asg (i := 22) (de_ixK K (de_fnK K (ok__law_replies Z) hr (by omega) rfl (da_cons (de_v 11) (da_cons (de_v 14) (da_cons (de_v 16) (da_nil))))) (de_int)) sc_law.nd) (dss_one (ds_if (dt_w (dw_or (dt_cmp (op_neDK K hr.u64) ops_ne rfl (de_fnK K (ok_worth Z) hr (by omega) rfl (da_cons (de_ixK K (de_v 11) (de_v 16)) (da_cons (de_ixK K (de_v 15) (de_v 16)) (da_nil)))) (de_fnK K (ok__law_worth Z) hr (by omega) rfl (da_cons (de_ixK K (de_v 11) (de_v 16)) (da_cons (de_ixK K (de_v 15) (de_v 16)) (da_nil))))) (dw_or1 (dt_not (dt_truK K (de_fnK K (ok__law_same Z 4) hr (by omega) rfl (da_cons (de_fnK K (ok_best_reply Z) hr (by omega) rfl (da_cons (de_v 11) (da_cons (de_v 14) (da_cons (de_v 16) (da_nil))))) (da_cons (de_tup (da_cons (de_op op_sub ops_sub (de_int) (de_ixK K (de_v 22) (de_int))) (da_cons (de_ixK K (de_v 22) (de_int)) (da_nil)))) (da_nil))))))))) (dss_one (ds_ret (de_bl))) (dss_nil))))) (dss_one (ds_ret (de_bl))))))))))))))))))))))))⟩
theorem ok_law (Z : Fx K mg) {fd : FuncData} (F : FunD K "law" "law" (defArgs s_law) (defBody s_law) (defScope s_law) [] [] (He.ga K "law") fd) : FnOk P w K mg base CX0 11 (He.ga K "law") fd ["script"] (spM K .fz Ph_law) :=
  law_fz (P := P) (w := w) (mg := mg) (base := base) (b := b_law) (k := 10) (N := N_law) F sc_law (dd_law Z)
end
end Hd
open PySem PySem.W PySem.Calls PyProof.Rows
theorem law_from (hlaw : ∀ ns : List Int, ns.length ≤ 63 → Hd.Ph_law [.list (ns.map .int)] = some (.bool true)) : PySem.Challenge.rw_playground_k23_teams_even_and_picked.Holds := by
  w_on; o_law
  refine HandSHeadRun.head_any (r := OpenLaw.row PySem.Challenge.rw_playground_k23_teams_even_and_picked) (q := view (OpenLaw.row PySem.Challenge.rw_playground_k23_teams_even_and_picked).prog [64]) (H := Hd.hk) (ob := Hd.ob) (M := 4000) (loose := Hd.loose) (d := HandSHeadRun.topDef (OpenLaw.row PySem.Challenge.rw_playground_k23_teams_even_and_picked).prog 64) (kwd := []) Hd.ob_eq
    (by kernel_rfl) (fun s => by kernel_rfl) Hd.run (by kernel_rfl) (by kernel_rfl) (by kernel_rfl) (by rfl) (by first | assumption | decide +kernel) (by decide +kernel) ⟨rfl, rfl, rfl, rfl, rfl, by decide +kernel⟩ ?hw ?hc
  case hw => w_witness2
  case hc =>
    refine L2.walk_ofE (l := PySem.Challenge.rw_playground_k23_teams_even_and_picked) (n := 63) (k := 11) (x := "script") (CX := L2.CX0) rfl (by decide) (by kernel_rfl) ⟨rfl, by decide, by decide⟩ ?F (fun _ _ _ _ z => z)
    intro w mg fa h Y G hmg0
    obtain ⟨K, KX, c, c2⟩ := Y
    have hmg : mg ("law" : PySem.Str) = some (.ref fa) := by
      have e : (HandSHeadRun.topDef (OpenLaw.row PySem.Challenge.rw_playground_k23_teams_even_and_picked).prog 64).name = ("law" : PySem.Str) := by kernel_rfl
      rw [← e]
      exact hmg0
    have Z := Hd.fx_ok KX G c c2
    obtain ⟨fd, FB⟩ := Z.f_law
    have e := hmg.symm.trans Z.g_law
    cases e
    have b := L2.FunD.bindsA (ps := ["script"]) FB fun _ _ _ _ _ _ us hl => match us, hl with | [_], _ => rfl
    refine ⟨K, fd, Q.spM K .fz Hd.Ph_law, KX, fun s v => b s [v] rfl, fun H a ns hl hO hS => ?_, fun base _ _ => ?_⟩
    · exact ⟨H, [.list (ns.map .int)], .bool true, .refl _, .cons (.lst hS (Q.RepA.of_ints ns)) .nil, hlaw ns hl, fun v F' H' _ r => Q.Rep.bl_of r⟩
    · exact Hd.ok_law Z FB
end

/-! part: P1 -/
section
set_option Elab.async false
set_option linter.all false
set_option maxRecDepth 100000
set_option maxHeartbeats 400000
set_option autoImplicit false
namespace Q
open PySem PySem.Spec
/-! ### plain: orders, the least, rows of choices -/
structure Lin {α : Type} (lt : α → α → Bool) : Prop where
  tot : ∀ a b, lt a b = false → lt b a = false → a = b
  tr : ∀ a b c, lt b a = false → lt c b = false → lt c a = false
  as : ∀ a b, lt a b = true → lt b a = false
section
variable {α β : Type} {lt : α → α → Bool} {lt2 : β → β → Bool}
theorem Lin.irr (h : Lin lt) (a : α) : lt a a = false := by
  cases e : lt a a with
  | false => rfl
  | true => rw [← h.as a a e, e]
theorem Lin.pw (h : Lin lt) (l : List α) : (l.mergeSort fun a b => !lt b a).Pairwise fun a b => lt b a = false := by
  have q := List.pairwise_mergeSort (le := fun a b => !lt b a) (fun a b c h1 h2 => by simp only [Bool.not_eq_true'] at *; exact h.tr a b c h1 h2) (fun a b => by
    cases e : lt b a with
    | false => rfl
    | true => simp [h.as b a e]) l
  exact q.imp fun q => by simpa using q
theorem Lin.head [DecidableEq α] (h : Lin lt) {l : List α} {x : α} {xs : List α} (hp : l.Perm (x :: xs)) (hs : l.Pairwise fun a b => lt b a = false) : l.head? = some (leastBy lt x xs) := by
  cases l with
  | nil => exact absurd hp.length_eq (by simp)
  | cons z t =>
    obtain ⟨h1, _⟩ := List.pairwise_cons.mp hs
    have hz : ∀ y ∈ z :: t, lt y z = false := fun y hy => by
      rcases List.mem_cons.mp hy with rfl | hy
      · exact h.irr y
      · exact h1 y hy
    rw [leastBy_eq xs x (hp.mem_iff.mp List.mem_cons_self) (fun y hy hne => ?_) fun y hy => hz y (hp.mem_iff.mpr hy)]
    · rfl
    · cases e : lt z y with
      | true => rfl
      | false => exact absurd (h.tot y z (hz y (hp.mem_iff.mpr hy)) e) hne
theorem Lin.sort_head [DecidableEq α] (h : Lin lt) {l : List α} {x : α} {xs : List α} (hp : l.Perm (x :: xs)) : (l.mergeSort fun a b => !lt b a).head? = some (leastBy lt x xs) :=
  h.head ((List.mergeSort_perm _ _).trans hp) (h.pw l)
theorem Lin.uniq (h : Lin lt) {l l' : List α} (hp : l.Perm l') (h1 : l.Pairwise fun a b => lt b a = false) (h2 : l'.Pairwise fun a b => lt b a = false) : l = l' :=
  hp.eq_of_pairwise (fun a b _ _ x y => h.tot a b y x) h1 h2
theorem lin_int : Lin (fun a b : Int => decide (a < b)) :=
  ⟨fun a b h1 h2 => by simp only [decide_eq_false_iff_not] at *; omega, fun a b c h1 h2 => by simp only [decide_eq_false_iff_not] at *; omega, fun a b h => by simp only [decide_eq_false_iff_not, decide_eq_true_eq] at *; omega⟩
theorem lin_rows : Lin (fun a b : List Int => decide (a < b)) :=
  ⟨fun a b h1 h2 => by
    simp only [decide_eq_false_iff_not] at *
    exact List.le_antisymm h2 h1, fun a b c h1 h2 => by
    simp only [decide_eq_false_iff_not] at *
    exact List.le_trans h1 h2, fun a b h => by
    simp only [decide_eq_false_iff_not, decide_eq_true_eq] at *
    exact List.lt_asymm h⟩
theorem lin_pair [DecidableEq α] (h : Lin lt) (h2 : Lin lt2) : Lin (fun p q : α × β => if p.1 = q.1 then lt2 p.2 q.2 else lt p.1 q.1) := by
  refine ⟨fun a b x y => ?_, fun a b c x y => ?_, fun a b x => ?_⟩
  · obtain ⟨a1, a2⟩ := a
    obtain ⟨b1, b2⟩ := b
    simp only at x y
    by_cases e : a1 = b1
    · subst e
      simp only [if_true] at x y
      rw [h2.tot _ _ x y]
    · rw [if_neg e] at x
      rw [if_neg (Ne.symm e)] at y
      exact absurd (h.tot _ _ x y) e
  · obtain ⟨a1, a2⟩ := a
    obtain ⟨b1, b2⟩ := b
    obtain ⟨c1, c2⟩ := c
    simp only at x y ⊢
    by_cases e1 : b1 = a1
    · subst e1
      by_cases e2 : c1 = b1
      · subst e2
        simp only [if_true] at *
        exact h2.tr _ _ _ x y
      · rw [if_neg e2] at y ⊢
        exact y
    · rw [if_neg e1] at x
      by_cases e2 : c1 = b1
      · subst e2
        rw [if_neg e1]
        exact x
      · rw [if_neg e2] at y
        by_cases e3 : c1 = a1
        · subst e3
          exact absurd (h.tot _ _ y x) (Ne.symm e1)
        · rw [if_neg e3]
          exact h.tr _ _ _ x y
  · by_cases e : a.1 = b.1
    · rw [if_pos e] at x
      rw [if_pos e.symm]
      exact h2.as _ _ x
    · rw [if_neg e] at x
      rw [if_neg (Ne.symm e)]
      exact h.as _ _ x
end
/-! rows of some of xs -/
def subsF {α : Type} (xs : List α) : List (List α) := xs.foldl (fun rows one => rows ++ rows.map (· ++ [one])) [[]]
section
variable {α : Type}
theorem subsF_nil : subsF ([] : List α) = [[]] := rfl
theorem subsF_snoc (xs : List α) (x : α) : subsF (xs ++ [x]) = subsF xs ++ (subsF xs).map (· ++ [x]) := by
  unfold subsF
  rw [List.foldl_append]
  rfl
theorem snoc_ind {p : List α → Prop} (h0 : p []) (h1 : ∀ xs x, p xs → p (xs ++ [x])) (xs : List α) : p xs := by
  have : ∀ n, ∀ xs : List α, xs.length = n → p xs := by
    intro n
    induction n with
    | zero => intro xs h; rw [List.eq_nil_of_length_eq_zero h]; exact h0
    | succ n ih =>
      intro xs h
      have hne : xs ≠ [] := fun e => by rw [e] at h; simp at h
      rw [← List.dropLast_concat_getLast hne]
      exact h1 _ _ (ih _ (by simp [h]))
  exact this _ xs rfl
theorem subsF_len (xs : List α) : (subsF xs).length = 2 ^ xs.length := by
  refine snoc_ind (p := fun xs => (subsF xs).length = 2 ^ xs.length) rfl (fun xs x ih => ?_) xs
  rw [subsF_snoc, List.length_append, List.length_map, ih, List.length_append, List.length_singleton, Nat.pow_succ]
  omega
theorem subsF_mem (xs : List α) : ∀ r, r ∈ subsF xs ↔ r.Sublist xs := by
  refine snoc_ind (p := fun xs => ∀ r, r ∈ subsF xs ↔ r.Sublist xs) (fun r => by simp [subsF_nil]) (fun xs x ih r => ?_) xs
  rw [subsF_snoc, List.mem_append, List.mem_map, ih]
  constructor
  · rintro (h | ⟨s, hs, rfl⟩)
    · exact h.trans (List.sublist_append_left ..)
    · exact ((ih s).mp hs).append (List.Sublist.refl _)
  · intro h
    obtain ⟨a, b, rfl, h1, h2⟩ := List.sublist_append_iff.mp h
    cases h2 with
    | cons _ h3 => cases h3; exact .inl (by simpa using h1)
    | cons_cons _ h3 => cases h3; exact .inr ⟨a, (ih a).mpr h1, rfl⟩
theorem subsF_sub (xs : List α) : ∀ r ∈ subsF xs, ∀ x ∈ r, x ∈ xs := fun r hr x hx => ((subsF_mem xs r).mp hr).subset hx
theorem subsF_le (xs : List α) : ∀ r ∈ subsF xs, r.length ≤ xs.length := fun r hr => ((subsF_mem xs r).mp hr).length_le
end
/-! rows of one of each -/
def prodC {α : Type} : List (List α) → List (List α)
  | [] => [[]]
  | v :: vs => v.flatMap fun a => (prodC vs).map (a :: ·)
def prodF {α : Type} (vals : List (List α)) : List (List α) := vals.foldl (fun rows some => rows.flatMap fun r => some.map fun a => r ++ [a]) [[]]
section
variable {α : Type}
theorem prodF_snoc (vs : List (List α)) (v : List α) : prodF (vs ++ [v]) = (prodF vs).flatMap fun r => v.map fun a => r ++ [a] := by
  unfold prodF
  rw [List.foldl_append]
  rfl
theorem prodC_snoc : ∀ (vs : List (List α)) (v : List α), prodC (vs ++ [v]) = (prodC vs).flatMap fun r => v.map fun a => r ++ [a]
  | [], v => by
    show (v.flatMap fun a => [[]].map (a :: ·)) = [[]].flatMap _
    simp only [List.map_cons, List.map_nil, List.flatMap_cons, List.flatMap_nil, List.append_nil, List.nil_append]
    induction v with
    | nil => rfl
    | cons a v ih => rw [List.flatMap_cons, ih]; rfl
  | w :: vs, v => by
    show (w.flatMap fun a => (prodC (vs ++ [v])).map (a :: ·)) = (w.flatMap fun a => (prodC vs).map (a :: ·)).flatMap _
    rw [List.flatMap_assoc]
    refine congrArg (fun f => w.flatMap f) (funext fun a => ?_)
    rw [prodC_snoc vs v, List.map_flatMap, List.flatMap_map]
    refine congrArg (fun f => (prodC vs).flatMap f) (funext fun r => ?_)
    rw [List.map_map]
    rfl
theorem prodF_eq (vs : List (List α)) : prodF vs = prodC vs := by
  refine snoc_ind (p := fun vs => prodF vs = prodC vs) rfl (fun vs v ih => ?_) vs
  rw [prodF_snoc, prodC_snoc, ih]
theorem prodC_len : ∀ (vs : List (List α)) (r : List α), r ∈ prodC vs → r.length = vs.length
  | [], r, h => by rw [List.mem_singleton.mp h]; rfl
  | v :: vs, r, h => by
    obtain ⟨a, _, h2⟩ := List.mem_flatMap.mp h
    obtain ⟨s, h3, rfl⟩ := List.mem_map.mp h2
    rw [List.length_cons, prodC_len vs s h3, List.length_cons]
theorem prodC_mem {p : α → Prop} : ∀ (vs : List (List α)), (∀ v ∈ vs, ∀ a ∈ v, p a) → ∀ r ∈ prodC vs, ∀ a ∈ r, p a
  | [], _, r, h, a, ha => by rw [List.mem_singleton.mp h] at ha; cases ha
  | v :: vs, hv, r, h, a, ha => by
    obtain ⟨b, h1, h2⟩ := List.mem_flatMap.mp h
    obtain ⟨s, h3, rfl⟩ := List.mem_map.mp h2
    rcases List.mem_cons.mp ha with rfl | ha
    · exact hv v List.mem_cons_self _ h1
    · exact prodC_mem vs (fun w hw => hv w (List.mem_cons_of_mem _ hw)) s h3 a ha
theorem prodC_count {m : Nat} : ∀ (vs : List (List α)), (∀ v ∈ vs, v.length ≤ m) → (prodC vs).length ≤ m ^ vs.length
  | [], _ => Nat.le_refl _
  | v :: vs, h => by
    have ih := prodC_count vs fun w hw => h w (List.mem_cons_of_mem _ hw)
    have e : ∀ w : List α, (w.flatMap fun a => (prodC vs).map (a :: ·)).length = w.length * (prodC vs).length := fun w => by
      induction w with
      | nil => simp
      | cons a w ih => rw [List.flatMap_cons, List.length_append, List.length_map, ih, List.length_cons, Nat.succ_mul]; omega
    show (v.flatMap _).length ≤ _
    rw [e, List.length_cons, Nat.pow_succ, Nat.mul_comm (m ^ vs.length)]
    exact Nat.mul_le_mul (h v List.mem_cons_self) ih
theorem find_flat {β : Type} (p : β → Bool) (f : α → List β) : ∀ l : List α, (l.flatMap f).find? p = l.findSome? fun a => (f a).find? p
  | [] => rfl
  | a :: l => by
    rw [List.flatMap_cons, List.find?_append, List.findSome?_cons, find_flat p f l]
    cases (f a).find? p <;> rfl
/-- the first good row that goes on from t, step by step -/
theorem prodC_step (p : List α → Bool) (v : List α) (vs : List (List α)) (t : List α) : (((prodC (v :: vs)).map (t ++ ·)).find? p) = v.findSome? fun a => ((prodC vs).map ((t ++ [a]) ++ ·)).find? p := by
  show ((v.flatMap fun a => (prodC vs).map (a :: ·)).map (t ++ ·)).find? p = _
  rw [List.map_flatMap, find_flat]
  refine congrArg (fun f => v.findSome? f) (funext fun a => ?_)
  rw [List.map_map]
  congr 2
  funext r
  simp
/-- .. named -/
def findC (p : List α → Bool) (vs : List (List α)) (t : List α) : Option (List α) := ((prodC vs).map (t ++ ·)).find? p
theorem findC_nil (p : List α → Bool) (t : List α) : findC p [] t = if p t = true then some t else none := by
  unfold findC
  simp only [prodC, List.map_cons, List.map_nil, List.append_nil, List.find?_cons, List.find?_nil]
  cases p t <;> rfl
theorem findC_cons (p : List α → Bool) (v : List α) (vs : List (List α)) (t : List α) : findC p (v :: vs) t = v.findSome? fun a => findC p vs (t ++ [a]) := prodC_step p v vs t
theorem findC_none (p : List α → Bool) (vs : List (List α)) (t : List α) (h : ∀ u ∈ prodC vs, p (t ++ u) = false) : findC p vs t = none := by
  unfold findC
  rw [List.find?_eq_none]
  intro r hr
  obtain ⟨u, hu, rfl⟩ := List.mem_map.mp hr
  rw [h u hu]
  exact Bool.false_ne_true
theorem findC_top (p : List α → Bool) (vs : List (List α)) : findC p vs [] = (prodC vs).find? p := by
  unfold findC
  simp
end
/-! slices -/
theorem cutL_to (ds : List D) {i : Int} (h0 : 0 ≤ i) : cutL ds none (some i) = ds.take i.toNat := by
  unfold cutL HT.sIx
  simp only [if_neg (Int.not_lt.mpr h0), List.drop_zero, Nat.sub_zero]
  rw [List.take_eq_take_iff]
  omega
theorem cutL_from (ds : List D) {i : Int} (h0 : 0 ≤ i) : cutL ds (some i) none = ds.drop i.toNat := by
  unfold cutL HT.sIx
  simp only [if_neg (Int.not_lt.mpr h0)]
  by_cases h : i.toNat ≤ ds.length
  · rw [Nat.min_eq_left h, List.take_of_length_le (by simp)]
  · rw [Nat.min_eq_right (by omega)]
    simp [List.drop_eq_nil_of_le (by omega : ds.length ≤ i.toNat)]
theorem cutL_last (ds : List D) {i : Int} (h0 : i < 0) : cutL ds (some i) none = ds.drop (i + ds.length).toNat := by
  unfold cutL HT.sIx
  simp only [if_pos h0]
  rw [List.take_of_length_le (by simp)]
theorem cutL_butlast (ds : List D) {i : Int} (h0 : i < 0) : cutL ds none (some i) = ds.take (i + ds.length).toNat := by
  unfold cutL HT.sIx
  simp only [if_pos h0, List.drop_zero, Nat.sub_zero]
/-! a loop that stops at what is not so -/
theorem stop_all {α : Type} (p : α → Bool) (d : D) (xs : List α) : (xs.findSome? fun x => if p x = true then none else some d) = if xs.all p = true then none else some d := by
  induction xs with
  | nil => rfl
  | cons x xs ih =>
    rw [List.findSome?_cons, List.all_cons]
    cases h : p x with
    | false => rfl
    | true => exact ih
end Q
end

/-! part: K23a -/
section
set_option Elab.async false
set_option linter.all false
set_option maxRecDepth 100000
set_option maxHeartbeats 400000
namespace Hd
open PySem PySem.Spec Q
theorem e_is_int (v : Int) : Ph_is_int [.int v] = some (.bool true) := by
  simp -implicitDefEqProofs [Ph_is_int, b_is_int]
theorem e_is_within (v a b : Int) : Ph_is_within [.int v, .int a, .int b] = some (.bool (decide (a ≤ v) && decide (v ≤ b))) := by
  simp -implicitDefEqProofs [Ph_is_within, b_is_within, e_is_int]
  split <;> simp_all <;> omega
theorem e_need_within (at_ : D) (v a b : Int) (h : a ≤ v ∧ v ≤ b) : Ph_need_within [at_, .int v, .int a, .int b] = some (.int v) := by
  simp -implicitDefEqProofs [Ph_need_within, b_need_within, e_is_within, h.1, h.2]
theorem e_need_t (at_ : D) (ds : List D) : Ph_need [at_, .tuple ds] = some (.tuple ds) := by
  simp -implicitDefEqProofs [Ph_need, b_need]
theorem e_is_seq_l (ds : List D) : Ph_is_seq [.list ds] = some (.bool true) := by
  simp -implicitDefEqProofs [Ph_is_seq, b_is_seq]
theorem e_is_seq_t (ds : List D) : Ph_is_seq [.tuple ds] = some (.bool true) := by
  simp -implicitDefEqProofs [Ph_is_seq, b_is_seq]
theorem e_to_row_l (ds : List D) (a b : Int) (h : a ≤ ds.length ∧ (ds.length : Int) ≤ b) : Ph_to_row [.list ds, .int a, .int b] = some (.tuple ds) := by
  simp -implicitDefEqProofs [Ph_to_row, b_to_row, e_is_seq_l, h.1, h.2]
theorem e_to_row_t (ds : List D) (a b : Int) (h : a ≤ ds.length ∧ (ds.length : Int) ≤ b) : Ph_to_row [.tuple ds, .int a, .int b] = some (.tuple ds) := by
  simp -implicitDefEqProofs [Ph_to_row, b_to_row, e_is_seq_t, h.1, h.2]
theorem e_cell (ns : List Int) (k : Nat) : Ph__law_cell [.list (ns.map .int), .int k] = some (.int (ns.getD k 0)) := by
  simp -implicitDefEqProofs [Ph__law_cell, b__law_cell]
  split
  · rename_i h
    rw [atI_nat (by simpa using h)]
    simp -implicitDefEqProofs [h]
  · rename_i h
    simp -implicitDefEqProofs [List.getElem?_eq_none (Nat.not_lt.mp h)]
theorem e_to_ints_t (ns : List Int) (lo hi a b : Int) (h : a ≤ ns.length ∧ (ns.length : Int) ≤ b) (hb : ns.length ≤ 1000) (hi_ : ∀ n ∈ ns, lo ≤ n ∧ n ≤ hi) : Ph_to_ints [.tuple (ns.map .int), .int lo, .int hi, .int a, .int b] = some (.tuple (ns.map .int)) := by
  simp -implicitDefEqProofs [Ph_to_ints, b_to_ints, e_to_row_t (ns.map .int) a b (by simpa using h)]
  rw [lcL_all (g := fun n => .bool true) (by simp) (fun n hn => by simp [e_is_within, hi_ n hn])]
  rw [Option.bind_some, lcB_small (by simp; omega)]
  simp
theorem e_to_ints_l (ns : List Int) (lo hi a b : Int) (h : a ≤ ns.length ∧ (ns.length : Int) ≤ b) (hb : ns.length ≤ 1000) (hi_ : ∀ n ∈ ns, lo ≤ n ∧ n ≤ hi) : Ph_to_ints [.list (ns.map .int), .int lo, .int hi, .int a, .int b] = some (.tuple (ns.map .int)) := by
  simp -implicitDefEqProofs [Ph_to_ints, b_to_ints, e_to_row_l (ns.map .int) a b (by simpa using h)]
  rw [lcL_all (g := fun n => .bool true) (by simp) (fun n hn => by simp [e_is_within, hi_ n hn])]
  rw [Option.bind_some, lcB_small (by simp; omega)]
  simp
theorem e_numbers (ns : List Int) (spot : Nat) (k : Nat) (hk : k ≤ 1000) : ∃ l : List Int, l.length = k ∧ Ph__law_numbers [.list (ns.map .int), .int spot, .int k] = some (.list (l.map .int)) := by
  simp -implicitDefEqProofs [Ph__law_numbers, b__law_numbers, e_cell, rg1_n (k := k) (by omega)]
  generalize hc : ns[spot]?.getD 0 = c
  obtain ⟨ρ', h1, l, r, s6, s7, h2, h3⟩ := forL_ex (step := turnD (sN 6) L__law_numbers_1) (xs := List.range k) (mk := fun i => .int (i : Nat)) (fun (j : Nat) (ρ : Rho) => ∃ (l : List Int) (r : Int) (s6 s7 : Sl), l.length = j ∧ ρ = [.im (.list (ns.map .int)), .im (.int spot), .im (.int k), .im (.int c), .ow (.list (l.map .int)), .im (.int r), s6, s7])
    _ ⟨[], c, .un, .un, rfl, rfl⟩ (by
      rintro j ρ x ⟨l, r, s6, s7, rfl, rfl⟩ hx
      have hlt : l.length < k := by
        have := (List.getElem?_eq_some_iff.mp hx).1
        simpa using this
      have hs : l.length < sizeLine := by have := line_ge; omega
      by_cases h : (1000000000000000000 : Int) ≤ c
      · refine ⟨[.im (.list (ns.map .int)), .im (.int spot), .im (.int k), .im (.int c), .ow (.list ((l ++ [r % (10 ^ 9)]).map .int)), .im (.int (r / (10 ^ 9))), .im (.int x), s7], .inl ?_, _, _, _, _, by simp, rfl⟩
        simp -implicitDefEqProofs [L__law_numbers_1, h, hs]
      · refine ⟨[.im (.list (ns.map .int)), .im (.int spot), .im (.int k), .im (.int c), .ow (.list ((l ++ [((((c * 48271 + ((x : Int) + 1) * 69621 + spot) % 2147483647) * 16807 + ((x : Int) + 3) * 40692) % 2147483399) % (10 ^ 9)]).map .int)), .im (.int r), .im (.int x), .im (.int ((c * 48271 + ((x : Int) + 1) * 69621 + spot) % 2147483647))], .inl ?_, _, _, _, _, by simp, rfl⟩
        simp -implicitDefEqProofs [L__law_numbers_1, h, hs])
  rw [List.map_nil] at h1
  rw [h1]
  subst h3
  refine ⟨l, by simpa using h2, ?_⟩
  simp
/-! ### the rhymes -/
theorem e_listed_i (n : Nat) (i : Int) : Ph__law_listed (n + 1) [.int i] = some (.int i) := by
  simp -implicitDefEqProofs [Ph__law_listed, b__law_listed]
theorem e_listed (ws : List Int) (h : ws.length ≤ 1000) : Ph__law_listed 4 [.tuple (ws.map .int)] = some (.list (ws.map .int)) := by
  have e := e_listed_i 2
  rw [Ph__law_listed]
  generalize Ph__law_listed 3 = φ at *
  simp -implicitDefEqProofs [b__law_listed]
  rw [lcL_all (g := fun n => .int n) (by simp) (fun n hn => by simp [e]), Option.bind_some, Function.comp, lcB_small (by simp; omega)]
  simp
theorem e_same_i (n : Nat) (i j : Int) : Ph__law_same (n + 1) [.int i, .int j] = some (.bool (i == j)) := by
  simp -implicitDefEqProofs [Ph__law_same, b__law_same]
theorem e_same (ns ms : List Int) (h : ns.length ≤ 1000) : Ph__law_same 4 [.tuple (ns.map .int), .tuple (ms.map .int)] = some (.bool (decide (ns = ms))) := by
  have e := e_same_i 2
  rw [Ph__law_same]
  generalize Ph__law_same 3 = φ at *
  simp -implicitDefEqProofs [b__law_same, rg1_n (k := ns.length) (by omega)]
  by_cases hl : ns.length = ms.length
  · rw [lcL_map (p := fun k => !(ns.getD k 0 == ms.getD k 0)) (g := fun k => .int (k : Nat)) (fun k hk => by
      have hk' : k < ns.length := by simpa using hk
      simp [at_n ns hk', at_n ms (by omega : k < ms.length), e]) (fun k hk _ => by simp), Option.bind_some, lcB_small (by
        have := List.length_filter_le (fun k => !(ns.getD k 0 == ms.getD k 0)) (List.range ns.length)
        simp only [List.length_map, List.length_range] at *
        omega), Option.bind_some, eq_f0, same_filter hl]
    simp [hl]
  · have hne : ns ≠ ms := fun z => hl (by rw [z])
    have hl' : ¬ (ns.length : Int) = ms.length := by omega
    simp [hl', hne]
theorem e_listed_g : ∀ (n : Nat) (d : D), tame n d = true → Ph__law_listed n [d] = some (lstd n d)
  | 0, d, h => by cases d <;> cases h
  | n + 1, .int i, _ => e_listed_i n i
  | n + 1, .bool i, _ => by simp -implicitDefEqProofs [Ph__law_listed, b__law_listed]; rfl
  | n + 1, .none, _ => by simp -implicitDefEqProofs [Ph__law_listed, b__law_listed]; rfl
  | n + 1, .str s, _ => by simp -implicitDefEqProofs [Ph__law_listed, b__law_listed]; rfl
  | n + 1, .list s, h => by cases h
  | n + 1, .dict s, h => by cases h
  | n + 1, .tuple ds, h => by
    obtain ⟨h1, h2⟩ := tame_t h
    have ih : ∀ d ∈ ds, Ph__law_listed n [d] = some (lstd n d) := fun d hd => e_listed_g n d (h2 d hd)
    rw [Ph__law_listed]
    generalize Ph__law_listed n = φ at *
    have e := lcL_all (α := D) (xs := ds) (mk := id) (g := lstd n) (tt := fun d => fYes ([Sl.im (.tuple ds), .un].set 1 (.im d))) (te := fun d => fB φ (aCons (vF 1) aNil) ([Sl.im (.tuple ds), .un].set 1 (.im d))) (by simp) (fun d hd => by simp [ih d hd])
    rw [List.map_id] at e
    simp -implicitDefEqProofs [b__law_listed]
    simp -implicitDefEqProofs at e
    rw [e, Option.bind_some, Function.comp, lcB_small (by simp; omega)]
    simp [lstd]
theorem e_same_r : ∀ (n : Nat) (d : D), tame n d = true → Ph__law_same n [d, d] = some (.bool true)
  | 0, d, h => by cases d <;> cases h
  | n + 1, .int i, _ => by simp -implicitDefEqProofs [Ph__law_same, b__law_same]
  | n + 1, .bool i, _ => by simp -implicitDefEqProofs [Ph__law_same, b__law_same]
  | n + 1, .none, _ => by simp -implicitDefEqProofs [Ph__law_same, b__law_same]
  | n + 1, .str s, h => by simp -implicitDefEqProofs [Ph__law_same, b__law_same, eq_str (x := s) h]
  | n + 1, .list s, h => by cases h
  | n + 1, .dict s, h => by cases h
  | n + 1, .tuple ds, h => by
    obtain ⟨h1, h2⟩ := tame_t h
    have ih : ∀ d ∈ ds, Ph__law_same n [d, d] = some (.bool true) := fun d hd => e_same_r n d (h2 d hd)
    rw [Ph__law_same]
    generalize Ph__law_same n = φ at *
    have e0 : eqD (.list []) (.list []) = some (.bool true) := rfl
    simp -implicitDefEqProofs [b__law_same, rg1_n (k := ds.length) (by omega)]
    rw [lcL_map (p := fun k => false) (g := fun k => .int (k : Nat)) (fun k hk => by
      have hk' : k < ds.length := by simpa using hk
      simp [atI_nat hk', ih _ (List.getElem_mem hk')]) (fun k hk _ => by simp), Option.bind_some, lcB_small (by rw [List.length_map, List.filter_eq_nil_iff.mpr (by simp)]; simp)]
    simp [e0]
theorem e_told_i (n : Nat) (i j : Int) : Ph_is_told (n + 1) [.int i, .int j] = some (.bool (decide (i = j))) := by
  simp -implicitDefEqProofs [Ph_is_told, b_is_told, e_is_int]
  by_cases h : i = j <;> simp [h]
theorem told_7 (n : Nat) (i : Int) (ds : List D) : Ph_is_told (n + 1) [.int i, .tuple ds] = some (.bool false) := by
  have : Ph_is_seq [.int i] = some (.bool false) := by simp -implicitDefEqProofs [Ph_is_seq, b_is_seq]
  simp -implicitDefEqProofs [Ph_is_told, b_is_told, this]
/-- a told row, item by item -/
theorem told_seq {α : Type} [DecidableEq α] (d0 : α) (n : Nat) (mkv mkt : α → D) (ws l : List α) (e : ∀ a ∈ ws, ∀ b, Ph_is_told n [mkv a, mkt b] = some (.bool (decide (a = b)))) (d : D) (hw : ws.length ≤ 1000) (hd : (d = .tuple (ws.map mkv)) ∨ d = .list (ws.map mkv)) :
    Ph_is_told (n + 1) [d, .tuple (l.map mkt)] = some (.bool (decide (ws = l))) := by
  rw [Ph_is_told]
  generalize Ph_is_told n = φ at *
  have hs : Ph_is_seq [d] = some (.bool true) := by rcases hd with rfl | rfl <;> simp -implicitDefEqProofs [Ph_is_seq, b_is_seq]
  have hlen : lenD [d] = some (.int ws.length) := by rcases hd with rfl | rfl <;> simp
  have x0 : ∀ k : Nat, k < ws.length → ixD d (.int k) = some (mkv (ws.getD k d0)) := fun k hk => by
    rcases hd with rfl | rfl
    · exact at_mk ws d0 hk
    · exact at_mk ws d0 hk
  simp -implicitDefEqProofs [b_is_told, hs, hlen]
  by_cases hll : ws.length = l.length
  · have hll' : (ws.length : Int) = l.length := by omega
    simp -implicitDefEqProofs [hll', enum_mk (mk := mkt) d0 l _ (.inr rfl)]
    simp only [← List.getD_eq_getElem?_getD]
    rcases forL_any (step := turnD (sT 2 (sCons (sN 2) (sCons (sN 3) (sNil)))) (L_is_told_1 φ)) (xs := List.range l.length) (mk := fun (i : Nat) => .tuple [.int (i : Int), mkt (l.getD i d0)])
      (fun pre ρ => (∃ x2 x3, ρ = [.im d, .im (.tuple (l.map mkt)), x2, x3]) ∧ ∀ i, i < pre.length → ws.getD i d0 = l.getD i d0) (fun _ => False) (fun r => r = .bool false ∧ ws ≠ l) [.im d, .im (.tuple (l.map mkt)), .un, .un]
      ⟨⟨_, _, rfl⟩, fun i hi => absurd hi (Nat.not_lt_zero _)⟩ (by
        rintro pre post ρ i ⟨⟨x2, x3, rfl⟩, hi⟩ hx
        obtain ⟨g1, g2, g3⟩ := range_split hx
        have y1 := x0 i (by omega)
        have ey := e (ws.getD i d0) (by have hi' : i < ws.length := by omega
                                        simp [hi']) (l.getD i d0)
        by_cases c : ws.getD i d0 = l.getD i d0
        · refine .inl ⟨[.im d, .im (.tuple (l.map mkt)), .im (.int i), .im (mkt (l.getD i d0))], .inl ?_, ⟨_, _, rfl⟩, fun j hj => ?_⟩
          · rw [c] at ey y1
            generalize l.getD i d0 = v at *
            simp -implicitDefEqProofs [L_is_told_1, y1, ey]
          · simp only [List.length_append, List.length_cons, List.length_nil] at hj
            by_cases hj2 : j < pre.length
            · exact hi j hj2
            · have : j = i := by omega
              rw [this]; exact c
        · refine .inr (.inr ⟨.bool false, ?_, rfl, fun z => c (by rw [z])⟩)
          generalize ws.getD i d0 = u at *
          generalize l.getD i d0 = v at *
          simp -implicitDefEqProofs [L_is_told_1, y1, ey, c]) with ⟨ρ', h1, ⟨h2, h3⟩ | h2⟩ | ⟨r, h1, h2, h3⟩
    · obtain ⟨x2, x3, rfl⟩ := h2
      rw [List.length_range] at h3
      have hw : ws = l := by
        apply List.ext_getElem hll
        intro i hi1 hi2
        have := h3 i hi2
        simpa [List.getD_eq_getElem?_getD, hi1, hi2] using this
      rw [h1]
      simp [hw]
    · exact h2.elim
    · rw [h1, h2]
      simp [h3]
  · have hll' : ¬ (ws.length : Int) = l.length := by omega
    have hne : ws ≠ l := fun z => hll (by rw [z])
    simp -implicitDefEqProofs [hll', hne]
end Hd
end

/-! part: K23b -/
section
set_option Elab.async false
set_option linter.all false
set_option maxRecDepth 100000
set_option maxHeartbeats 400000
namespace Hd
open PySem PySem.Spec Q
abbrev rT (r : List Int) : D := .tuple (r.map .int)
abbrev lT (r : List Int) : D := .list (r.map .int)
theorem nice_r : Nice 1 rT := nice_tup nice_int
def plc (m : Nat) : List Int := (List.range m).map fun (i : Nat) => (i : Int)
theorem plc_b {m : Nat} : ∀ p ∈ plc m, 0 ≤ p ∧ p < m := fun p hp => by
  obtain ⟨i, hi, rfl⟩ := List.mem_map.mp hp
  have := List.mem_range.mp hi
  omega
theorem plc_len (m : Nat) : (plc m).length = m := by simp [plc]
theorem sum_f {α : Type} (f : α → Int) (xs : List α) : sumD [.list (xs.map fun x => PyData.int (f x))] = some (.int (xs.map f).sum) := by
  have : (xs.map fun x => PyData.int (f x)) = (xs.map f).map .int := by rw [List.map_map]; rfl
  rw [this, sum_l]
theorem bls_b {α : Type} (p : α → Bool) : ∀ xs : List α, blsOf (xs.map fun x => PyData.bool (p x)) = some (xs.map p)
  | [] => rfl
  | x :: xs => by rw [List.map_cons, List.map_cons, blsOf, bls_b p xs]; rfl
theorem all_b {α : Type} (p : α → Bool) (xs : List α) : allD [.list (xs.map fun x => PyData.bool (p x))] = some (.bool (xs.all p)) := by
  rw [all_l, bls_b]
  simp [List.all_map, Function.comp_def]
theorem any_b {α : Type} (p : α → Bool) (xs : List α) : anyD [.list (xs.map fun x => PyData.bool (p x))] = some (.bool (xs.any p)) := by
  rw [any_l, bls_b]
  simp [List.any_map, Function.comp_def]
theorem plc_map (c : Nat) (r : List Int) : ((List.range c).map fun i : Nat => rT (r ++ [(i : Int)])) = ((plc c).map fun a => r ++ [a]).map rT := by
  unfold plc
  rw [List.map_map, List.map_map]
  rfl
/-! ### splits -/
def hi (r : List Int) : Int := r.foldl max (-1)
theorem hi_snoc (r : List Int) (a : Int) : hi (r ++ [a]) = max (hi r) a := by unfold hi; rw [List.foldl_append]; rfl
theorem hi_ge (r : List Int) : -1 ≤ hi r ∧ ∀ x ∈ r, x ≤ hi r := by
  refine snoc_ind (p := fun r => -1 ≤ hi r ∧ ∀ x ∈ r, x ≤ hi r) ⟨Int.le_refl _, fun x hx => by cases hx⟩ (fun r a ih => ?_) r
  rw [hi_snoc]
  refine ⟨by omega, fun x hx => ?_⟩
  rcases List.mem_append.mp hx with hx | hx
  · have := ih.2 x hx; omega
  · rw [List.mem_singleton.mp hx]; omega
theorem max_hi (r : List Int) (hr : r ≠ []) (h : ∀ x ∈ r, 0 ≤ x) : maxA [.tuple (r.map .int)] = some (.int (hi r)) := by
  cases r with
  | nil => exact absurd rfl hr
  | cons a l =>
    rw [maxA, items_t, Option.bind_some, maxOf_i]
    have := h a List.mem_cons_self
    unfold hi
    rw [List.foldl_cons, Int.max_eq_right (by omega : (-1 : Int) ≤ a)]
def grow (teams : Nat) (r : List Int) : List (List Int) := (plc (min (teams : Int) (hi r + 2)).toNat).map fun a => r ++ [a]
def spl (teams : Nat) : Nat → List (List Int)
  | 0 => [[0]]
  | k + 1 => (spl teams k).flatMap (grow teams)
theorem spl_succ (teams k : Nat) : spl teams (k + 1) = (spl teams k).flatMap (grow teams) := rfl
/-- each next number at most one above all before -/
structure RG (teams : Nat) (r : List Int) : Prop where
  ne : r ≠ []
  lo : ∀ x ∈ r, 0 ≤ x ∧ x < teams
  st : ∀ pre a post, r = pre ++ a :: post → a ≤ hi pre + 1
theorem spl_ok (teams : Nat) (h : 1 ≤ teams) : ∀ (k : Nat), ∀ r ∈ spl teams k, r.length = k + 1 ∧ RG teams r
  | 0, r, hr => by
    rw [List.mem_singleton.mp hr]
    refine ⟨rfl, ⟨by simp, fun x hx => by rw [List.mem_singleton.mp hx]; omega, fun pre a post e => ?_⟩⟩
    have := (hi_ge pre).1
    have ha : a ∈ [(0 : Int)] := by rw [e]; simp
    rw [List.mem_singleton.mp ha]
    omega
  | k + 1, r, hr => by
    obtain ⟨s, hs, h2⟩ := List.mem_flatMap.mp hr
    obtain ⟨b, hb, rfl⟩ := List.mem_map.mp h2
    obtain ⟨l1, q⟩ := spl_ok teams h k s hs
    have hb2 := plc_b b hb
    refine ⟨by rw [List.length_append, l1]; rfl, ⟨by simp, fun x hx => ?_, fun pre a post e => ?_⟩⟩
    · rcases List.mem_append.mp hx with hx | hx
      · exact q.lo x hx
      · rw [List.mem_singleton.mp hx]; omega
    · rcases List.eq_nil_or_concat post with rfl | ⟨p2, z, rfl⟩
      · have e2 : pre = s ∧ [a] = [b] := List.append_inj' e.symm rfl
        rw [e2.1]
        have : a = b := by simpa using e2.2
        omega
      · rw [List.concat_eq_append, ← List.cons_append, ← List.append_assoc] at e
        have e2 := List.append_inj' e rfl
        exact q.st pre a p2 e2.1
theorem grow_len (teams : Nat) (r : List Int) : (grow teams r).length ≤ teams := by
  unfold grow
  rw [List.length_map, plc_len]
  omega
theorem spl_len (teams : Nat) (h : teams ≤ 3) : ∀ k : Nat, (spl teams k).length ≤ 3 ^ k
  | 0 => Nat.le_refl _
  | k + 1 => by
    have ih := spl_len teams h k
    have : ∀ l : List (List Int), (l.flatMap (grow teams)).length ≤ l.length * 3 := fun l => by
      induction l with
      | nil => simp
      | cons x l ih =>
        rw [List.flatMap_cons, List.length_append, List.length_cons, Nat.succ_mul]
        have := grow_len teams x
        omega
    have h2 := this (spl teams k)
    show ((spl teams k).flatMap (grow teams)).length ≤ _
    rw [Nat.pow_succ]
    omega
def splits (size teams : Nat) : List (List Int) := (spl teams (size - 1)).filter fun r => hi r == (teams : Int) - 1
section
variable (size teams : Nat) (hs : 2 ≤ size ∧ size ≤ 6) (ht : 2 ≤ teams ∧ teams ≤ 3)
include hs ht
theorem pow_b (k : Nat) (hk : k ≤ 5) : (spl teams k).length ≤ 243 := Nat.le_trans (spl_len teams ht.2 k) (Nat.pow_le_pow_right (n := 3) (by decide) hk)
theorem grow_D (r : List Int) (hr : r.length ≤ 100) (tt : D → Option Bool) (te : D → Option D) (h1 : ∀ i : Nat, tt (.int i) = some true) (h2 : ∀ i : Nat, te (.int i) = some (rT (r ++ [(i : Int)]))) :
    lcL tt te ((List.range (min (teams : Int) (hi r + 2)).toNat).map fun i => .int (i : Nat)) = some ((grow teams r).map rT) := by
  rw [lcL_all (g := fun i : Nat => rT (r ++ [(i : Int)])) (fun i _ => h1 i) (fun i _ => h2 i), plc_map]
  rfl
theorem e_law_splits : Ph__law_splits [.int size, .int teams] = some (.list ((splits size teams).map rT)) := by
  have rg := rg2_n (lo := 1) (hi := (size : Int)) (by omega) (by omega)
  have em : ((size : Int) - 1).toNat = size - 1 := by omega
  rw [em] at rg
  simp -implicitDefEqProofs [Ph__law_splits, b__law_splits, rg]
  obtain ⟨ρ', h1, x3, x4, x5, h2⟩ := forL_all (step := turnD (sN 3) L__law_splits_2) (xs := List.range (size - 1)) (mk := fun i : Nat => .int (1 + (i : Int))) (fun pre (ρ : Rho) => ∃ x3 x4 x5, ρ = [.im (.int size), .im (.int teams), .im (.list ((spl teams pre.length).map rT)), x3, x4, x5, .un])
    [.im (.int size), .im (.int teams), .im (.list [.tuple [.int 0]]), .un, .un, .un, .un] ⟨.un, .un, .un, rfl⟩ (by
    rintro pre post ρ v ⟨y3, y4, y5, rfl⟩ hx
    have hlt := split_len hx
    rw [List.length_range] at hlt
    have hl := pow_b size teams hs ht pre.length (by omega)
    have hok := spl_ok teams (by omega) pre.length
    rw [List.length_append, List.length_singleton, spl_succ]
    generalize spl teams pre.length = rows at *
    have hb := line_ge
    obtain ⟨ρ'', g1, z5, g2⟩ := forL_all (step := turnD (sN 5) L__law_splits_1) (xs := rows) (mk := rT) (fun pr (ρ : Rho) => ∃ z5, ρ = [.im (.int size), .im (.int teams), .im (.list (rows.map rT)), .im (.int (1 + (v : Int))), .im (.list ((pr.flatMap (grow teams)).map rT)), z5, .un])
      [.im (.int size), .im (.int teams), .im (.list (rows.map rT)), .im (.int (1 + (v : Int))), .im (.list []), y5, .un] ⟨y5, rfl⟩ (by
      rintro pr po ρ r ⟨_, rfl⟩ hr
      obtain ⟨q1, q2⟩ := hok r (split_mem hr)
      have hpl := split_len hr
      have hmx := max_hi r q2.ne (fun x hx => (q2.lo x hx).1)
      have hge := (hi_ge r).1
      have hrg := rg1_i (i := min (teams : Int) (hi r + 2)) (by omega)
      have hgl := grow_len teams r
      have hfl : (pr.flatMap (grow teams)).length ≤ pr.length * 3 := by
        clear hr
        induction pr with
        | nil => simp
        | cons x l ih =>
          rw [List.flatMap_cons, List.length_append, List.length_cons, Nat.succ_mul]
          have := grow_len teams x
          have := ih (by simp at hpl; omega)
          omega
      refine ⟨[.im (.int size), .im (.int teams), .im (.list (rows.map rT)), .im (.int (1 + (v : Int))), .im (.list (((pr ++ [r]).flatMap (grow teams)).map rT)), .im (rT r), .un], .inl ?_, _, rfl⟩
      rw [List.flatMap_append, List.flatMap_cons, List.flatMap_nil, List.append_nil]
      generalize pr.flatMap (grow teams) = L at *
      have h3 : r.length + 1 ≤ sizeLine := by omega
      have h4 : L.length + (grow teams r).length ≤ sizeLine := by omega
      simp -implicitDefEqProofs [L__law_splits_1, hmx, hrg]
      rw [grow_D size teams hs ht r (by omega) _ _ (fun i => by simp) (fun i => by simp [h3]), Option.bind_some, lcB_small (by rw [List.length_map]; omega)]
      simp [h4])
    subst g2
    refine ⟨[.im (.int size), .im (.int teams), .im (.list ((rows.flatMap (grow teams)).map rT)), .im (.int (1 + (v : Int))), .im (.list ((rows.flatMap (grow teams)).map rT)), z5, .un], .inl ?_, _, _, _, rfl⟩
    try simp -implicitDefEqProofs at g1
    simp -implicitDefEqProofs [L__law_splits_2, g1])
  rw [h1]
  subst h2
  have hl := pow_b size teams hs ht (size - 1) (by omega)
  have hok := spl_ok teams (by omega) (size - 1)
  have hfl := List.length_filter_le (fun r => hi r == (teams : Int) - 1) (spl teams (size - 1))
  unfold splits
  simp -implicitDefEqProofs
  rw [lcL_map (p := fun r => hi r == (teams : Int) - 1) (g := rT) (fun r hr => by
    obtain ⟨q1, q2⟩ := hok r hr
    simp [max_hi r q2.ne (fun x hx => (q2.lo x hx).1)]) (fun r hr _ => by simp), Option.bind_some, Function.comp_apply, lcB_small (by rw [List.length_map]; omega)]
  simp
theorem e_splits_into : Ph_splits_into [.int size, .int teams] = some (.list ((splits size teams).map rT)) := by
  have rg := rg1_i (i := (size : Int) - 1) (by omega)
  have em : ((size : Int) - 1).toNat = size - 1 := by omega
  rw [em] at rg
  simp -implicitDefEqProofs [Ph_splits_into, b_splits_into, rg]
  obtain ⟨ρ', h1, x3, h2⟩ := forL_all (step := turnD (sN 3) L_splits_into_1) (xs := List.range (size - 1)) (mk := fun i : Nat => .int (i : Nat)) (fun pre (ρ : Rho) => ∃ x3, ρ = [.im (.int size), .im (.int teams), .im (.list ((spl teams pre.length).map rT)), x3, .un, .un])
    [.im (.int size), .im (.int teams), .im (.list [.tuple [.int 0]]), .un, .un, .un] ⟨.un, rfl⟩ (by
    rintro pre post ρ v ⟨y3, rfl⟩ hx
    have hlt := split_len hx
    rw [List.length_range] at hlt
    have hl := pow_b size teams hs ht pre.length (by omega)
    have hl2 := pow_b size teams hs ht (pre.length + 1) (by omega)
    have hok := spl_ok teams (by omega) pre.length
    rw [List.length_append, List.length_singleton, spl_succ]
    have hl3 : ((spl teams pre.length).flatMap (grow teams)).length ≤ 243 := hl2
    generalize spl teams pre.length = rows at *
    have hb := line_ge
    refine ⟨[.im (.int size), .im (.int teams), .im (.list ((rows.flatMap (grow teams)).map rT)), .im (.int (v : Nat)), .un, .un], .inl ?_, _, rfl⟩
    simp -implicitDefEqProofs [L_splits_into_1]
    rw [lcM_mk (g := fun r : List Int => (grow teams r).map rT) (fun r hr => by
      obtain ⟨q1, q2⟩ := hok r hr
      have hmx := max_hi r q2.ne (fun x hx => (q2.lo x hx).1)
      have hge := (hi_ge r).1
      have hrg := rg1_i (i := min (teams : Int) (hi r + 2)) (by omega)
      have hmc : min (hi r + 2) (teams : Int) = min (teams : Int) (hi r + 2) := Int.min_comm _ _
      have h3 : r.length + 1 ≤ sizeLine := by omega
      simp -implicitDefEqProofs [rowL, hmx, hmc, hrg]
      rw [grow_D size teams hs ht r (by omega) _ _ (fun i => by simp) (fun i => by simp [h3])]), Option.bind_some, ← List.map_flatMap, lcB_small (by rw [List.length_map]; omega)]
    simp)
  rw [h1]
  subst h2
  have hl := pow_b size teams hs ht (size - 1) (by omega)
  have hok := spl_ok teams (by omega) (size - 1)
  have hfl := List.length_filter_le (fun r => hi r == (teams : Int) - 1) (spl teams (size - 1))
  unfold splits
  simp -implicitDefEqProofs
  rw [lcL_map (p := fun r => hi r == (teams : Int) - 1) (g := rT) (fun r hr => by
    obtain ⟨q1, q2⟩ := hok r hr
    have e : Ph_teams_in [rT r] = some (.int (hi r + 1)) := by simp -implicitDefEqProofs [Ph_teams_in, b_teams_in, max_hi r q2.ne (fun x hx => (q2.lo x hx).1)]
    have e2 : (hi r + 1 == (teams : Int)) = (hi r == (teams : Int) - 1) := by rw [Bool.eq_iff_iff, beq_iff_eq, beq_iff_eq]; omega
    simp [e, e2]) (fun r hr _ => by simp), Option.bind_some, Function.comp_apply, lcB_small (by rw [List.length_map]; omega)]
  simp
theorem splits_ok : ∀ r ∈ splits size teams, r.length = size ∧ RG teams r := fun r hr => by
  obtain ⟨h1, h2⟩ := spl_ok teams (by omega) _ r (List.mem_filter.mp hr).1
  exact ⟨by omega, h2⟩
theorem splits_small : (splits size teams).length ≤ 243 := Nat.le_trans (List.length_filter_le _ _) (pow_b size teams hs ht _ (by omega))
end
end Hd
end

/-! part: K23c -/
section
set_option Elab.async false
set_option linter.all false
set_option maxRecDepth 100000
set_option maxHeartbeats 400000
namespace Hd
open PySem PySem.Spec Q
/-! ### named anew -/
def frs (r : List Int) : List Int := r.foldl (fun f a => if a ∈ f then f else f ++ [a]) []
theorem frs_snoc (r : List Int) (a : Int) : frs (r ++ [a]) = if a ∈ frs r then frs r else frs r ++ [a] := by unfold frs; rw [List.foldl_append]; rfl
def nmd (r : List Int) : List Int := r.map fun a => ((frs r).idxOf a : Int)
theorem frs_mem (r : List Int) : (∀ x, x ∈ frs r ↔ x ∈ r) ∧ (frs r).Nodup ∧ (frs r).length ≤ r.length := by
  refine snoc_ind (p := fun r => (∀ x, x ∈ frs r ↔ x ∈ r) ∧ (frs r).Nodup ∧ (frs r).length ≤ r.length) ⟨fun x => Iff.rfl, List.nodup_nil, Nat.le_refl _⟩ (fun r a ih => ?_) r
  obtain ⟨h1, h2, h3⟩ := ih
  rw [frs_snoc]
  by_cases c : a ∈ frs r
  · rw [if_pos c]
    refine ⟨fun x => ?_, h2, by rw [List.length_append]; omega⟩
    rw [h1, List.mem_append, List.mem_singleton]
    exact ⟨.inl, fun z => z.elim id fun e => by rw [e]; exact (h1 a).mp c⟩
  · rw [if_neg c]
    refine ⟨fun x => ?_, ?_, by simp; omega⟩
    · rw [List.mem_append, List.mem_append, h1]
    · rw [List.nodup_append]
      exact ⟨h2, by simp, fun x hx b hb => by rw [List.mem_singleton.mp hb]; intro z; exact c (z ▸ hx)⟩
theorem e_nmd_comp (r : List Int) (f : D → Option D) (hf : ∀ a ∈ r, f (.int a) = some (.int ((frs r).idxOf a : Nat))) (hl : r.length ≤ 1000) : (lcL (fun _ => some true) f (r.map .int)).bind lcB = some (.list ((nmd r).map .int)) := by
  rw [lcL_all (g := fun a => .int ((frs r).idxOf a : Nat)) (fun _ _ => rfl) hf, Option.bind_some, lcB_small (by rw [List.length_map]; omega)]
  unfold nmd
  rw [List.map_map]
  rfl
theorem e_canon (r : List Int) (hl : r.length ≤ 1000) (d : D) (hd : d = rT r ∨ d = lT r) : Ph_canon [d] = some (rT (nmd r)) := by
  have hit : walkD d = some (r.map .int) := by rcases hd with rfl | rfl <;> rfl
  have hb := line_ge
  simp -implicitDefEqProofs [Ph_canon, b_canon, hit]
  obtain ⟨ρ', h1, x2, h2⟩ := forL_all (step := turnD (sN 2) L_canon_1) (xs := r) (mk := .int) (fun pre (ρ : Rho) => ∃ x2, ρ = [.im d, .ow (.list ((frs pre).map .int)), x2])
    [.im d, .ow (.list []), .un] ⟨.un, rfl⟩ (by
    rintro pre post ρ a ⟨_, rfl⟩ hx
    have hpl := split_len hx
    have hfl := (frs_mem pre).2.2
    refine ⟨[.im d, .ow (.list ((frs (pre ++ [a])).map .int)), .im (.int a)], .inl ?_, _, rfl⟩
    rw [frs_snoc]
    have hsz : (frs pre).length < sizeLine := by omega
    generalize frs pre = P at *
    by_cases hm : a ∈ P
    · simp -implicitDefEqProofs [L_canon_1, hm]
    · simp -implicitDefEqProofs [L_canon_1, hm, hsz])
  rw [h1]
  subst h2
  simp -implicitDefEqProofs [hit]
  rw [e_nmd_comp r _ (fun a ha => by
    have hm : a ∈ frs r := ((frs_mem r).1 a).mpr ha
    have := nice_int.idx_l (by decide) a _ hm
    simp [this]) hl]
  simp
theorem e_law_named (r : List Int) (hl : r.length ≤ 1000) : Ph__law_named [rT r] = some (rT (nmd r)) := by
  have hb := line_ge
  simp -implicitDefEqProofs [Ph__law_named, b__law_named]
  obtain ⟨ρ', h1, x2, h2⟩ := forL_all (step := turnD (sN 2) L__law_named_1) (xs := r) (mk := .int) (fun pre (ρ : Rho) => ∃ x2, ρ = [.im (rT r), .ow (.list ((frs pre).map .int)), x2])
    [.im (rT r), .ow (.list []), .un] ⟨.un, rfl⟩ (by
    rintro pre post ρ a ⟨_, rfl⟩ hx
    have hpl := split_len hx
    have hfl := (frs_mem pre).2.2
    refine ⟨[.im (rT r), .ow (.list ((frs (pre ++ [a])).map .int)), .im (.int a)], .inl ?_, _, rfl⟩
    rw [frs_snoc]
    have hsz : (frs pre).length < sizeLine := by omega
    generalize frs pre = P at *
    by_cases hm : a ∈ P
    · simp -implicitDefEqProofs [L__law_named_1, hm]
    · simp -implicitDefEqProofs [L__law_named_1, hm, hsz])
  rw [h1]
  subst h2
  simp -implicitDefEqProofs
  rw [e_nmd_comp r _ (fun a ha => by
    have hm : a ∈ frs r := ((frs_mem r).1 a).mpr ha
    have := nice_int.idx_l (by decide) a _ hm
    simp [this]) hl]
  simp
/-! a split is named as it is told -/
theorem hi_lt (teams : Nat) (r : List Int) (h : ∀ x ∈ r, x < (teams : Int)) (ht : 0 ≤ teams) : hi r < teams := by
  refine snoc_ind (p := fun r => (∀ x ∈ r, x < (teams : Int)) → hi r < teams) (fun _ => by show (-1 : Int) < teams; omega) (fun r a ih hl => ?_) r h
  rw [hi_snoc]
  have h1 := ih fun x hx => hl x (List.mem_append_left _ hx)
  have h2 := hl a (by simp)
  omega
theorem plc_mem (M : Nat) (a : Int) : a ∈ plc M ↔ 0 ≤ a ∧ a < M := by
  constructor
  · intro z; exact plc_b a z
  · intro z; exact List.mem_map.mpr ⟨a.toNat, List.mem_range.mpr (by omega), by omega⟩
theorem plc_succ (M : Nat) : plc (M + 1) = plc M ++ [(M : Int)] := by
  unfold plc
  rw [List.range_succ, List.map_append]
  rfl
theorem frs_RG {teams : Nat} {r : List Int} (h : RG teams r) : ∀ pre, pre <+: r → frs pre = plc (hi pre + 1).toNat := fun pre => by
  refine snoc_ind (p := fun pre => pre <+: r → frs pre = plc (hi pre + 1).toNat) (fun _ => rfl) (fun pre a ih hp => ?_) pre
  obtain ⟨post, hpost⟩ := hp
  have hr : r = pre ++ a :: post := by rw [← hpost, List.append_assoc]; rfl
  have ih' := ih ⟨a :: post, hr.symm⟩
  have h0 := h.lo a (by rw [hr]; simp)
  have h1 := h.st pre a post hr
  have h2 := (hi_ge pre).1
  rw [frs_snoc, ih', hi_snoc]
  by_cases c : a ≤ hi pre
  · rw [if_pos ((plc_mem _ _).mpr (by omega)), Int.max_eq_left c]
  · rw [if_neg (fun z => by have := (plc_mem _ _).mp z; omega)]
    have e1 : max (hi pre) a = hi pre + 1 := by omega
    have e2 : (hi pre + 1 + 1).toNat = (hi pre + 1).toNat + 1 := by omega
    rw [e1, e2, plc_succ]
    congr 2
    omega
theorem plc_idx (M : Nat) (a : Int) (h : a ∈ plc M) : ((plc M).idxOf a : Int) = a := by
  have hlt : (plc M).idxOf a < (plc M).length := List.idxOf_lt_length_of_mem h
  have hg : (plc M)[(plc M).idxOf a] = a := List.getElem_idxOf hlt
  have hp : ∀ (k : Nat) (hk : k < (plc M).length), (plc M)[k] = (k : Int) := fun k hk => by simp [plc]
  rw [hp] at hg
  exact hg
theorem nmd_RG {teams : Nat} {r : List Int} (h : RG teams r) : nmd r = r := by
  unfold nmd
  have e := frs_RG h r (List.prefix_refl r)
  rw [e]
  have : r.map (fun a => ((plc (hi r + 1).toNat).idxOf a : Int)) = r.map id := List.map_congr_left fun a ha => by
    have h1 := (hi_ge r).2 a ha
    have h0 := (h.lo a ha).1
    exact plc_idx _ a ((plc_mem _ _).mpr (by omega))
  rw [this, List.map_id]
theorem frs_pre (pre post : List Int) : frs pre <+: frs (pre ++ post) := by
  refine snoc_ind (p := fun post => frs pre <+: frs (pre ++ post)) (by rw [List.append_nil]; exact List.prefix_refl _) (fun post a ih => ?_) post
  rw [← List.append_assoc, frs_snoc]
  split
  · exact ih
  · exact ih.trans (List.prefix_append _ _)
theorem RG_nmd {teams : Nat} {r : List Int} (hne : r ≠ []) (hv : ∀ x ∈ r, 0 ≤ x ∧ x < teams) (h : nmd r = r) : RG teams r := by
  obtain ⟨m1, m2, _⟩ := frs_mem r
  have hix : ∀ a ∈ r, ((frs r).idxOf a : Int) = a := fun a ha => by
    obtain ⟨k, hk, e⟩ := List.getElem_of_mem ha
    have : (nmd r)[k]? = r[k]? := by rw [h]
    unfold nmd at this
    rw [List.getElem?_map, List.getElem?_eq_getElem hk] at this
    have h2 := Option.some.inj this
    rw [e] at h2
    exact h2
  have hF : frs r = plc (frs r).length := by
    apply List.ext_getElem (by rw [plc_len])
    intro k h1 h2
    have hm : (frs r)[k] ∈ r := (m1 _).mp (List.getElem_mem h1)
    have e := hix _ hm
    rw [m2.idxOf_getElem k h1] at e
    rw [← e]
    simp [plc]
  have hpre : ∀ pre post, r = pre ++ post → frs pre = plc (frs pre).length := fun pre post e => by
    have hp := frs_pre pre post
    rw [← e] at hp
    have hle := hp.length_le
    have : frs pre = (frs r).take (frs pre).length := List.prefix_iff_eq_take.mp hp
    rw [hF] at this
    have hl : (plc (frs r).length).take (frs pre).length = plc (frs pre).length := by
      unfold plc
      rw [← List.map_take, List.take_range, Nat.min_eq_left hle]
    rw [hl] at this
    exact this
  refine ⟨hne, hv, fun pre a post e => ?_⟩
  have h1 := hpre pre (a :: post) e
  have h2 := hpre (pre ++ [a]) post (by rw [e, List.append_assoc]; rfl)
  have ha : a ∈ frs (pre ++ [a]) := ((frs_mem _).1 a).mpr (by simp)
  have hlen : (frs (pre ++ [a])).length ≤ (frs pre).length + 1 := by
    rw [frs_snoc]
    split <;> simp
  rw [h2] at ha
  have ha2 := (plc_mem _ _).mp ha
  by_cases c : (frs pre).length = 0
  · have : pre = [] := by
      cases pre with
      | nil => rfl
      | cons x l =>
        have := ((frs_mem (x :: l)).1 x).mpr List.mem_cons_self
        rw [List.eq_nil_of_length_eq_zero c] at this
        cases this
    subst this
    have : hi ([] : List Int) = -1 := rfl
    omega
  · have hm : (((frs pre).length - 1 : Nat) : Int) ∈ frs pre := by
      rw [h1]
      exact (plc_mem _ _).mpr (by rw [plc_len]; omega)
    have := (hi_ge pre).2 _ (((frs_mem pre).1 _).mp hm)
    omega
theorem spl_mem (teams : Nat) (ht : 1 ≤ teams) (r : List Int) : RG teams r → r ∈ spl teams (r.length - 1) := by
  refine snoc_ind (p := fun r => RG teams r → r ∈ spl teams (r.length - 1)) (fun h => absurd rfl h.ne) (fun r a ih h => ?_) r
  have h0 := h.lo a (by simp)
  have h1 := h.st r a [] (by simp)
  rw [List.length_append, List.length_singleton, Nat.add_sub_cancel]
  cases r with
  | nil =>
    have : hi ([] : List Int) = -1 := rfl
    have e : a = 0 := by omega
    subst e
    exact List.mem_singleton.mpr rfl
  | cons x l =>
    have hR : RG teams (x :: l) := ⟨by simp, fun y hy => h.lo y (List.mem_append_left _ hy), fun pre b post e => h.st pre b (post ++ [a]) (by rw [e, List.append_assoc]; rfl)⟩
    have := ih hR
    have e : (x :: l).length = (x :: l).length - 1 + 1 := by simp
    rw [e, spl_succ]
    refine List.mem_flatMap.mpr ⟨x :: l, this, ?_⟩
    unfold grow
    refine List.mem_map.mpr ⟨a, (plc_mem _ _).mpr (by omega), rfl⟩
theorem splits_mem (size teams : Nat) (hs : 2 ≤ size ∧ size ≤ 6) (ht : 2 ≤ teams ∧ teams ≤ 3) (r : List Int) : r ∈ splits size teams ↔ r.length = size ∧ RG teams r ∧ hi r = (teams : Int) - 1 := by
  constructor
  · intro h
    obtain ⟨h1, h2⟩ := splits_ok size teams hs ht r h
    exact ⟨h1, h2, by simpa using (List.mem_filter.mp h).2⟩
  · rintro ⟨h1, h2, h3⟩
    refine List.mem_filter.mpr ⟨?_, by simp [h3]⟩
    have := spl_mem teams (by omega) r h2
    rwa [h1] at this
end Hd
end

/-! part: K23d -/
section
set_option Elab.async false
set_option linter.all false
set_option maxRecDepth 100000
set_option maxHeartbeats 400000
namespace Hd
open PySem PySem.Spec Q
/-! ### splits told -/
structure okK (size : Nat) (S : List Int) : Prop where
  n : S.length = size
  v : ∀ x ∈ S, 0 ≤ x ∧ x ≤ 50
structure okV (size teams : Nat) (r : List Int) : Prop where
  n : r.length = size
  v : ∀ x ∈ r, 0 ≤ x ∧ x < teams
theorem ok_rT (l : List Int) : okR .fz (rT l) = true := nmA_mk (fun _ => rfl) l
theorem ne_r (a b : List Int) : neD (rT a) (rT b) = some (.bool (!decide (a = b))) := nice_r.ne (by decide) a b
section
variable {size teams : Nat} (hs : 2 ≤ size ∧ size ≤ 6) (ht : 2 ≤ teams ∧ teams ≤ 3)
include hs
theorem e_to_skills {S : List Int} (h : okK size S) (d : D) (hd : d = rT S ∨ d = lT S) : Ph_to_skills [d] = some (rT S) := by
  have hn := h.n
  rcases hd with rfl | rfl
  · simp -implicitDefEqProofs [Ph_to_skills, b_to_skills, e_to_ints_t S 0 50 2 10 (by omega) (by omega) h.v]
  · simp -implicitDefEqProofs [Ph_to_skills, b_to_skills, e_to_ints_l S 0 50 2 10 (by omega) (by omega) h.v]
include ht
theorem e_to_numbers {r : List Int} (h : okV size teams r) (d : D) (hd : d = rT r ∨ d = lT r) : Ph_to_numbers [d] = some (rT r) := by
  have hn := h.n
  have hv : ∀ n ∈ r, 0 ≤ n ∧ n ≤ 3 := fun n hn => by have := h.v n hn; omega
  rcases hd with rfl | rfl
  · simp -implicitDefEqProofs [Ph_to_numbers, b_to_numbers, e_to_ints_t r 0 3 2 10 (by omega) (by omega) hv]
  · simp -implicitDefEqProofs [Ph_to_numbers, b_to_numbers, e_to_ints_l r 0 3 2 10 (by omega) (by omega) hv]
theorem e_to_split {r : List Int} (h : okV size teams r) (d : D) (hd : d = rT r ∨ d = lT r) : Ph_to_split [d] = some (if nmd r = r then rT r else .none) := by
  have hn := h.n
  have e := e_to_numbers hs ht h d hd
  have e2 := e_canon r (by omega) _ (.inl rfl)
  have e3 := ne_r r (nmd r)
  simp -implicitDefEqProofs [Ph_to_split, b_to_split, e, e2, e3]
  by_cases c : nmd r = r
  · have c' : r = nmd r := c.symm
    rw [if_pos c]
    simp [← c']
  · have c' : ¬ r = nmd r := fun z => c z.symm
    rw [if_neg c]
    simp [c']
theorem e_to_split_for {r S : List Int} (h : okV size teams r) (hS : okK size S) (d : D) (hd : d = rT r ∨ d = lT r) : Ph_to_split_for [d, rT S] = some (if nmd r = r then rT r else .none) := by
  have hn := h.n
  have hn2 := hS.n
  have e := e_to_split hs ht h d hd
  by_cases c : nmd r = r
  · rw [if_pos c] at e ⊢
    simp -implicitDefEqProofs [Ph_to_split_for, b_to_split_for, e, hn, hn2]
  · rw [if_neg c] at e ⊢
    simp -implicitDefEqProofs [Ph_to_split_for, b_to_split_for, e]
theorem nmd_iff {r : List Int} (h : okV size teams r) (hh : hi r = (teams : Int) - 1) : nmd r = r ↔ r ∈ splits size teams := by
  have hn := h.n
  rw [splits_mem size teams hs ht]
  constructor
  · intro c
    exact ⟨hn, RG_nmd (by intro z; rw [z] at hn; simp at hn; omega) h.v c, hh⟩
  · rintro ⟨_, c, _⟩
    exact nmd_RG c
theorem e_is_split {r S : List Int} (h : okV size teams r) (hS : okK size S) (hh : hi r = (teams : Int) - 1) (d : D) (hd : d = rT r ∨ d = lT r) : Ph_is_split [rT S, .int teams, d] = some (.bool (decide (r ∈ splits size teams))) := by
  have hn := h.n
  have e1 := e_to_skills hs hS _ (.inl rfl)
  have e2 := e_need_within (.int 2) (teams : Int) 2 4 (by omega)
  have e3 := e_to_split_for hs ht h hS d hd
  have e4 : Ph_need [.int 1, rT S] = some (rT S) := e_need_t _ _
  have e5 := max_hi r (by intro z; rw [z] at hn; simp at hn; omega) (fun x hx => (h.v x hx).1)
  have hiff := nmd_iff hs ht h hh
  by_cases c : nmd r = r
  · have cm := hiff.mp c
    rw [if_pos c] at e3
    simp -implicitDefEqProofs [Ph_is_split, b_is_split, e1, e2, e3, e4, Ph_teams_in, b_teams_in, e5, hh, cm]
  · have cm : ¬ r ∈ splits size teams := fun z => c (hiff.mpr z)
    rw [if_neg c] at e3
    simp -implicitDefEqProofs [Ph_is_split, b_is_split, e1, e2, e3, e4, cm]
theorem e_renamed {r : List Int} (h : okV size teams r) : Ph_renamed [rT r] = some (rT (nmd r)) := by
  have hn := h.n
  have e1 := e_to_numbers hs ht h _ (.inl rfl)
  have e2 := e_canon r (by omega) _ (.inl rfl)
  have e4 : Ph_need [.int 1, rT r] = some (rT r) := e_need_t _ _
  simp -implicitDefEqProofs [Ph_renamed, b_renamed, e1, e4, e2]
theorem e_joined {r : List Int} (hr : r ∈ splits size teams) : Ph_joined [rT r, .int 0, .int ((teams : Int) - 1)] = some (rT (nmd (r.map fun t => if t = (teams : Int) - 1 then 0 else t))) := by
  obtain ⟨h1, h2, h3⟩ := (splits_mem size teams hs ht r).mp hr
  have e1 := e_to_split hs ht (r := r) ⟨h1, h2.lo⟩ _ (.inl rfl)
  rw [if_pos (nmd_RG h2)] at e1
  have e4 : Ph_need [.int 1, rT r] = some (rT r) := e_need_t _ _
  have e5 := max_hi r h2.ne (fun x hx => (h2.lo x hx).1)
  have e6 := e_need_within (.int 2) 0 0 (hi r) (by omega)
  have e7 := e_need_within (.int 3) ((teams : Int) - 1) 0 (hi r) (by omega)
  have e8 := e_canon (r.map fun t => if t = (teams : Int) - 1 then 0 else t) (by rw [List.length_map]; omega) _ (.inr rfl)
  simp -implicitDefEqProofs [Ph_joined, b_joined, e1, e4, e5, e6, e7]
  rw [lcL_all (g := fun t => .int (if t = (teams : Int) - 1 then 0 else t)) (by simp) (fun t ht => by
    by_cases c : t = (teams : Int) - 1 <;> simp [c]), Option.bind_some, lcB_small (by rw [List.length_map]; omega)]
  have hm : (r.map fun t => PyData.int (if t = (teams : Int) - 1 then 0 else t)) = (r.map fun t => if t = (teams : Int) - 1 then 0 else t).map .int := by rw [List.map_map]; rfl
  rw [hm]
  unfold lT at e8
  generalize (r.map fun t => if t = (teams : Int) - 1 then 0 else t) = J at *
  simp -implicitDefEqProofs [e8]
def swpL (r : List Int) (i j : Nat) : List Int := (r.set i (r.getD j 0)).set j (r.getD i 0)
theorem e_swapped {r : List Int} (hr : r ∈ splits size teams) (i j : Nat) (hi' : i < size) (hj : j < size) : Ph_swapped [rT r, .int i, .int j] = some (rT (nmd (swpL r i j))) := by
  obtain ⟨h1, h2, h3⟩ := (splits_mem size teams hs ht r).mp hr
  have e1 := e_to_split hs ht (r := r) ⟨h1, h2.lo⟩ _ (.inl rfl)
  rw [if_pos (nmd_RG h2)] at e1
  have e4 : Ph_need [.int 1, rT r] = some (rT r) := e_need_t _ _
  have e6 := e_need_within (.int 2) (i : Int) 0 ((size : Int) - 1) (by omega)
  have e7 := e_need_within (.int 3) (j : Int) 0 ((size : Int) - 1) (by omega)
  have e8 := e_canon (swpL r i j) (by unfold swpL; simp; omega) _ (.inr rfl)
  have a1 : L2.atI (r.map PyData.int) (i : Int) = some (.int (r.getD i 0)) := by have := at_i r (i := (i : Int)) (by omega) (by omega); simpa using this
  have a2 : L2.atI (r.map PyData.int) (j : Int) = some (.int (r.getD j 0)) := by have := at_i r (i := (j : Int)) (by omega) (by omega); simpa using this
  have i1 : L2.ixN size (i : Int) = some i := ixN_n hi'
  have i2 : L2.ixN size (j : Int) = some j := ixN_n hj
  have hsw : (swpL r i j).map PyData.int = ((r.map PyData.int).set i (.int (r.getD j 0))).set j (.int (r.getD i 0)) := by
    unfold swpL
    rw [List.map_set, List.map_set]
  unfold lT at e8
  rw [hsw] at e8
  simp only [List.getD_eq_getElem?_getD] at a1 a2 e8
  have l1 : ∀ d, ((r.map PyData.int).set i d).length = size := fun d => by simp [h1]
  simp -implicitDefEqProofs [Ph_swapped, b_swapped, e1, e4, h1, e6, e7, a1, a2, bSet, i1, i2, l1, e8, ok_rT]
end
end Hd
end

/-! part: K23e -/
section
set_option Elab.async false
set_option linter.all false
set_option maxRecDepth 100000
set_option maxHeartbeats 400000
namespace Hd
open PySem PySem.Spec Q
/-! ### sums, gaps, sizes -/
def mxL : List Int → Int
  | [] => 0
  | a :: l => l.foldl max a
def mnL : List Int → Int
  | [] => 0
  | a :: l => l.foldl min a
theorem max_d {l : List Int} (h : l ≠ []) (d : D) (hd : d = rT l ∨ d = lT l) : maxA [d] = some (.int (mxL l)) := by
  cases l with
  | nil => exact absurd rfl h
  | cons a l => rcases hd with rfl | rfl <;> rw [maxA] <;> simp only [items_l, items_t, Option.bind_some, maxOf_i] <;> rfl
theorem min_d {l : List Int} (h : l ≠ []) (d : D) (hd : d = rT l ∨ d = lT l) : minA [d] = some (.int (mnL l)) := by
  cases l with
  | nil => exact absurd rfl h
  | cons a l => rcases hd with rfl | rfl <;> rw [minA] <;> simp only [items_l, items_t, Option.bind_some, minOf_i] <;> rfl
def tsum (S r : List Int) (t : Int) : Int := (((List.range r.length).filter fun k => r.getD k 0 == t).map fun k => S.getD k 0).sum
theorem tsum_snoc (S r : List Int) (a t : Int) : tsum S (r ++ [a]) t = tsum S r t + if a = t then S.getD r.length 0 else 0 := by
  unfold tsum
  rw [List.length_append, List.length_singleton, List.range_succ, List.filter_append, List.map_append, List.sum_append]
  have h1 : ((List.range r.length).filter fun k => (r ++ [a]).getD k 0 == t) = (List.range r.length).filter fun k => r.getD k 0 == t := List.filter_congr fun k hk => by
    have hk' := List.mem_range.mp hk
    rw [List.getD_eq_getElem?_getD, List.getD_eq_getElem?_getD, List.getElem?_append_left hk']
  rw [h1]
  congr 1
  have h2 : (r ++ [a]).getD r.length 0 = a := by simp
  rw [List.filter_cons, List.filter_nil, h2]
  by_cases c : a = t
  · have : (a == t) = true := by rw [c]; exact beq_self_eq_true _
    rw [this, if_pos c]
    simp
  · have : (a == t) = false := by rw [beq_eq_false_iff_ne]; exact c
    rw [this, if_neg c]
    rfl
def sms (S r : List Int) (teams : Nat) : List Int := (List.range teams).map fun (t : Nat) => tsum S r (t : Int)
def gp (S r : List Int) (teams : Nat) : Int := mxL (sms S r teams) - mnL (sms S r teams)
theorem set_map {α : Type} (n k : Nat) (hk : k < n) (f : Nat → α) (v : α) : ((List.range n).map f).set k v = (List.range n).map fun i => if i = k then v else f i := by
  apply List.ext_getElem
  · simp
  · intro i h1 h2
    simp only [List.length_set, List.length_map, List.length_range] at h1
    rw [List.getElem_set]
    by_cases c : k = i
    · subst c; simp
    · have : ¬ i = k := fun z => c z.symm
      simp [c, this]
def szs (r : List Int) : List Int := (List.range (hi r + 1).toNat).map fun (t : Nat) => ((r.count (t : Int) : Nat) : Int)
def szB (r : List Int) : Bool := decide (mxL (szs r) - mnL (szs r) ≤ 1)
theorem cnt_len (r : List Int) (t : Int) : (r.filter fun x => x == t).length = r.count t := by
  rw [List.count_eq_countP, List.countP_eq_length_filter]
section
variable {size teams : Nat} (hs : 2 ≤ size ∧ size ≤ 6) (ht : 2 ≤ teams ∧ teams ≤ 3) {S r : List Int} (hS : okK size S) (hr : r ∈ splits size teams)
include hs ht hS hr
theorem sms_ne : sms S r teams ≠ [] := by
  intro z
  have : (sms S r teams).length = 0 := by rw [z]; rfl
  simp [sms] at this
  omega
theorem e_sums_of : Ph_sums_of [rT S, rT r] = some (lT (sms S r teams)) := by
  obtain ⟨h1, h2, h3⟩ := (splits_mem size teams hs ht r).mp hr
  have hn := hS.n
  have e5 := max_hi r h2.ne (fun x hx => (h2.lo x hx).1)
  have e6 : Ph_teams_in [rT r] = some (.int (teams : Int)) := by simp -implicitDefEqProofs [Ph_teams_in, b_teams_in, e5, h3]
  have rep : repLD (.list [.int 0]) (.int (teams : Int)) = some (.list (List.replicate teams (.int 0))) := rep_1 (.int 0) teams (by omega)
  have hen := enum_mk (mk := PyData.int) 0 r _ (.inr rfl)
  rw [h1] at hen
  simp -implicitDefEqProofs [Ph_sums_of, b_sums_of, e6, rep, hen]
  simp only [← List.getD_eq_getElem?_getD]
  have h0 : (List.replicate teams (PyData.int 0)) = (List.range teams).map fun (t : Nat) => .int (tsum S (r.take 0) (t : Int)) := by
    apply List.ext_getElem
    · simp
    · intro i a b
      simp [tsum]
  rw [h0]
  have hE : r = r.take size := by rw [← h1, List.take_length]
  obtain ⟨ρ', g1, x3, x4, g2⟩ := forL_all (step := turnD (sT 2 (sCons (sN 3) (sCons (sN 4) (sNil)))) L_sums_of_1) (xs := List.range size) (mk := fun i : Nat => .tuple [.int (i : Int), .int (r.getD i 0)])
    (fun pre (ρ : Rho) => ∃ x3 x4, ρ = [.im (rT S), .im (rT r), .ow (.list ((List.range teams).map fun (t : Nat) => .int (tsum S (r.take pre.length) (t : Int)))), x3, x4])
    [.im (rT S), .im (rT r), .ow (.list ((List.range teams).map fun (t : Nat) => .int (tsum S (r.take 0) (t : Int)))), .un, .un] ⟨.un, .un, rfl⟩ (by
    rintro pre post ρ k ⟨_, _, rfl⟩ hx
    obtain ⟨hk1, hk, _⟩ := range_split hx
    have hb := h2.lo (r.getD k 0) (by
      rw [List.getD_eq_getElem?_getD, List.getElem?_eq_getElem (by omega)]
      exact List.getElem_mem _)
    have aS : L2.atI (S.map PyData.int) (k : Int) = some (.int (S.getD k 0)) := by have := at_i S (i := (k : Int)) (by omega) (by omega); simpa using this
    have htk : r.take (pre ++ [k]).length = r.take pre.length ++ [r.getD k 0] := by
      rw [List.length_append, List.length_singleton, ← hk1, List.take_succ, List.getD_eq_getElem?_getD, List.getElem?_eq_getElem (by omega)]
      rfl
    have hlk : (r.take pre.length).length = k := by rw [List.length_take]; omega
    have hset : ((List.range teams).map fun (t : Nat) => PyData.int (tsum S (r.take pre.length ++ [r.getD k 0]) (t : Int))) = ((List.range teams).map fun (t : Nat) => PyData.int (tsum S (r.take pre.length) (t : Int))).set (r.getD k 0).toNat (.int (tsum S (r.take pre.length) (r.getD k 0) + S.getD k 0)) := by
      rw [set_map teams _ (by omega)]
      refine List.map_congr_left fun t _ => ?_
      rw [tsum_snoc, hlk]
      by_cases c : t = (r.getD k 0).toNat
      · have c2 : r.getD k 0 = (t : Int) := by omega
        rw [if_pos c2, if_pos c, c2]
      · have c2 : ¬ r.getD k 0 = (t : Int) := by omega
        rw [if_neg c2, if_neg c, Int.add_zero]
    refine ⟨[.im (rT S), .im (rT r), .ow (.list ((List.range teams).map fun (t : Nat) => .int (tsum S (r.take (pre ++ [k]).length) (t : Int)))), .im (.int k), .im (.int (r.getD k 0))], .inl ?_, _, _, rfl⟩
    rw [htk, hset]
    have gl : ((List.range teams).map fun (t : Nat) => PyData.int (tsum S (r.take pre.length) (t : Int))).length = teams := by simp
    generalize hA : r.getD k 0 = A at *
    obtain ⟨q, rfl⟩ := nat_of hb.1
    have hq : q < teams := by omega
    have iK : L2.ixN teams (q : Int) = some q := ixN_n hq
    have gk : ((List.range teams).map fun (t : Nat) => PyData.int (tsum S (r.take pre.length) (t : Int)))[q]? = some (.int (tsum S (r.take pre.length) (q : Int))) := by simp [hq]
    generalize ((List.range teams).map fun (t : Nat) => PyData.int (tsum S (r.take pre.length) (t : Int))) = CL at *
    simp only [List.getD_eq_getElem?_getD] at aS ⊢
    simp -implicitDefEqProofs [L_sums_of_1, aS, gl, iK, gk])
  rw [g1, g2]
  rw [List.length_range, ← hE]
  simp [sms]
theorem e_gap_of : Ph_gap_of [rT S, rT r] = some (.int (gp S r teams)) := by
  have e1 := e_sums_of hs ht hS hr
  have hne := sms_ne hs ht hS hr
  have e2 := max_d hne _ (.inr rfl)
  have e3 := min_d hne _ (.inr rfl)
  unfold gp
  generalize sms S r teams = L at *
  simp -implicitDefEqProofs [Ph_gap_of, b_gap_of, e1, e2, e3]
theorem e_law_sums : Ph__law_sums [rT S, rT r, .int teams] = some (rT (sms S r teams)) := by
  obtain ⟨h1, h2, h3⟩ := (splits_mem size teams hs ht r).mp hr
  have hn := hS.n
  have rgt := rg1_n (k := teams) (by omega)
  have rgs := rg1_n (k := size) (by omega)
  simp -implicitDefEqProofs [Ph__law_sums, b__law_sums, rgt]
  rw [lcL_all (g := fun t : Nat => .int (tsum S r (t : Int))) (by simp) (fun t ht => by
    simp -implicitDefEqProofs [hn, rgs]
    rw [lcL_map (p := fun k => r.getD k 0 == (t : Int)) (g := fun k => .int (S.getD k 0)) (fun k hk => by
      have hk' : k < size := List.mem_range.mp hk
      have := at_i r (i := (k : Int)) (by omega) (by omega)
      simp at this
      simp [this]) (fun k hk _ => by
      have hk' : k < size := List.mem_range.mp hk
      have := at_i S (i := (k : Int)) (by omega) (by omega)
      simp at this
      simp [this]), Option.bind_some, lcB_small (by
        rw [List.length_map]
        have := List.length_filter_le (fun k => r.getD k 0 == (t : Int)) (List.range size)
        rw [List.length_range] at this
        omega)]
    simp -implicitDefEqProofs only [Option.bind_some, sum_f]
    unfold tsum
    rw [h1]), Option.bind_some, lcB_small (by simp; omega)]
  simp [sms]
theorem e_law_gap : Ph__law_gap [rT S, rT r, .int teams] = some (.int (gp S r teams)) := by
  have e1 := e_law_sums hs ht hS hr
  have hne := sms_ne hs ht hS hr
  have e2 := max_d hne _ (.inl rfl)
  have e3 := min_d hne _ (.inl rfl)
  unfold gp
  generalize sms S r teams = L at *
  simp -implicitDefEqProofs [Ph__law_gap, b__law_gap, e1, e2, e3]
theorem e_strengths (d : D) (hd : d = rT r) : Ph_strengths [rT S, d] = some (rT (sms S r teams)) := by
  subst hd
  obtain ⟨h1, h2, h3⟩ := (splits_mem size teams hs ht r).mp hr
  have e1 := e_to_skills hs hS _ (.inl rfl)
  have e2 := e_to_split_for hs ht (r := r) ⟨h1, h2.lo⟩ hS _ (.inl rfl)
  rw [if_pos (nmd_RG h2)] at e2
  have e4 : Ph_need [.int 1, rT S] = some (rT S) := e_need_t _ _
  have e5 : Ph_need [.int 2, rT r] = some (rT r) := e_need_t _ _
  have e6 := e_sums_of hs ht hS hr
  generalize sms S r teams = L at *
  simp -implicitDefEqProofs [Ph_strengths, b_strengths, e1, e2, e4, e5, e6]
omit hS
theorem szs_ne : szs r ≠ [] := by
  obtain ⟨h1, h2, h3⟩ := (splits_mem size teams hs ht r).mp hr
  intro z
  have : (szs r).length = 0 := by rw [z]; rfl
  simp [szs] at this
  omega
theorem e_sizes_alike : Ph_sizes_alike [rT r] = some (.bool (szB r)) := by
  obtain ⟨h1, h2, h3⟩ := (splits_mem size teams hs ht r).mp hr
  have e5 := max_hi r h2.ne (fun x hx => (h2.lo x hx).1)
  have hne := szs_ne hs ht hr
  have e2 := max_d hne _ (.inr rfl)
  have e3 := min_d hne _ (.inr rfl)
  have rg := rg1_i (i := hi r + 1) (by omega)
  have hc := fun t : Int => nice_int.cnt_t (by decide) t r
  simp -implicitDefEqProofs [Ph_sizes_alike, b_sizes_alike, Ph_teams_in, b_teams_in, e5, rg]
  rw [lcL_all (g := fun t : Nat => .int ((r.count (t : Int) : Nat) : Int)) (by simp) (fun t ht => by simp [hc]), Option.bind_some, lcB_small (by simp; omega)]
  have hm : ((List.range (hi r + 1).toNat).map fun t : Nat => PyData.int ((r.count (t : Int) : Nat) : Int)) = (szs r).map .int := by unfold szs; rw [List.map_map]; rfl
  rw [hm]
  unfold szB
  generalize szs r = L at *
  simp -implicitDefEqProofs [e2, e3]
theorem e_law_sizes : Ph__law_sizes [rT r] = some (.bool (szB r)) := by
  obtain ⟨h1, h2, h3⟩ := (splits_mem size teams hs ht r).mp hr
  have e5 := max_hi r h2.ne (fun x hx => (h2.lo x hx).1)
  have hne := szs_ne hs ht hr
  have e2 := max_d hne _ (.inr rfl)
  have e3 := min_d hne _ (.inr rfl)
  have rg := rg1_i (i := hi r + 1) (by omega)
  simp -implicitDefEqProofs [Ph__law_sizes, b__law_sizes, e5, rg]
  rw [lcL_all (g := fun t : Nat => .int ((r.count (t : Int) : Nat) : Int)) (by simp) (fun t ht => by
    have hfl := List.length_filter_le (fun x => x == (t : Int)) r
    try simp -implicitDefEqProofs
    rw [lcL_map (p := fun x => x == (t : Int)) (g := .int) (fun x hx => by simp) (fun x hx _ => by simp), Option.bind_some, lcB_small (by rw [List.length_map]; omega)]
    simp [cnt_len]), Option.bind_some, lcB_small (by simp; omega)]
  have hm : ((List.range (hi r + 1).toNat).map fun t : Nat => PyData.int ((r.count (t : Int) : Nat) : Int)) = (szs r).map .int := by unfold szs; rw [List.map_map]; rfl
  rw [hm]
  unfold szB
  generalize szs r = L at *
  simp -implicitDefEqProofs [e2, e3]
theorem e_even_sizes : Ph_even_sizes [rT r] = some (.bool (szB r)) := by
  obtain ⟨h1, h2, h3⟩ := (splits_mem size teams hs ht r).mp hr
  have e2 := e_to_split hs ht (r := r) ⟨h1, h2.lo⟩ _ (.inl rfl)
  rw [if_pos (nmd_RG h2)] at e2
  have e5 : Ph_need [.int 1, rT r] = some (rT r) := e_need_t _ _
  have e6 := e_sizes_alike hs ht hr
  simp -implicitDefEqProofs [Ph_even_sizes, b_even_sizes, e2, e5, e6]
end
end Hd
end

/-! part: K23f -/
section
set_option Elab.async false
set_option linter.all false
set_option maxRecDepth 100000
set_option maxHeartbeats 400000
namespace Hd
open PySem PySem.Spec Q
/-! ### the least pair -/
def lt2r (p q : Int × List Int) : Bool := if p.1 = q.1 then decide (p.2 < q.2) else decide (p.1 < q.1)
def pr (p : Int × List Int) : D := .tuple [.int p.1, rT p.2]
theorem lin_2r : Lin lt2r := lin_pair lin_int lin_rows
theorem nice_2r : Nice 2 pr := nice_pair (nice_int.up (by decide)) (nice_tup nice_int)
theorem ordd_2r : Ordd pr lt2r := ordd_pair (nice_int.up (by decide : 0 ≤ 1)) (nice_tup nice_int) ordd_int ordd_rows (fun a => lin_rows.irr a)
theorem sort_first {α : Type} {lt : α → α → Bool} (h : Lin lt) (l : List α) (z : α) (hz : z ∈ l) (hm : ∀ y ∈ l, lt y z = false) : (l.mergeSort fun a b => !lt b a).head? = some z := by
  have hp := List.mergeSort_perm l fun a b => !lt b a
  have hw := h.pw l
  generalize (l.mergeSort fun a b => !lt b a) = S at *
  cases S with
  | nil => have := hp.mem_iff.mpr hz; cases this
  | cons x t =>
    have hx := hm x (hp.mem_iff.mp List.mem_cons_self)
    rcases List.mem_cons.mp (hp.mem_iff.mpr hz) with e | e
    · rw [e]; rfl
    · have := (List.pairwise_cons.mp hw).1 z e
      rw [h.tot x z hx this]
      rfl
def bst (g : List Int → Int) (L : List (List Int)) : Option (Int × List Int) := L.foldl (fun b r => match b with
  | none => some (g r, r)
  | some p => if g r < p.1 then some (g r, r) else some p) none
theorem bst_snoc (g : List Int → Int) (L : List (List Int)) (a : List Int) : bst g (L ++ [a]) = match bst g L with
  | none => some (g a, a)
  | some p => if g a < p.1 then some (g a, a) else some p := by
  unfold bst
  rw [List.foldl_append]
  rfl
theorem bst_ok (g : List Int → Int) (L : List (List Int)) : L.Pairwise (· < ·) → (bst g L = none ↔ L = []) ∧ ∀ p, bst g L = some p → p.2 ∈ L ∧ p.1 = g p.2 ∧ ∀ r ∈ L, lt2r (g r, r) p = false := by
  refine snoc_ind (p := fun L => L.Pairwise (· < ·) → (bst g L = none ↔ L = []) ∧ ∀ p, bst g L = some p → p.2 ∈ L ∧ p.1 = g p.2 ∧ ∀ r ∈ L, lt2r (g r, r) p = false) (fun _ => ⟨⟨fun _ => rfl, fun _ => rfl⟩, fun p hp => by cases hp⟩) (fun L a ih hw => ?_) L
  obtain ⟨w1, _, w3⟩ := List.pairwise_append.mp hw
  obtain ⟨h1, h2⟩ := ih w1
  rw [bst_snoc]
  cases hb : bst g L with
  | none =>
    have hL := h1.mp hb
    subst hL
    refine ⟨⟨fun z => by simp at z, fun z => by simp at z⟩, fun p hp => ?_⟩
    cases hp
    refine ⟨by simp, rfl, fun r hr => ?_⟩
    have : r = a := by simpa using hr
    rw [this]
    exact lin_2r.irr _
  | some q =>
    obtain ⟨q1, q2, q3⟩ := h2 q hb
    by_cases c : g a < q.1
    · simp only [if_pos c]
      refine ⟨⟨fun z => by simp at z, fun z => by simp at z⟩, fun p hp => ?_⟩
      cases hp
      refine ⟨by simp, rfl, fun r hr => ?_⟩
      rcases List.mem_append.mp hr with hr | hr
      · have := q3 r hr
        unfold lt2r at this ⊢
        by_cases e : g r = q.1
        · have e2 : ¬ g r = g a := by omega
          simp only [if_neg e2, decide_eq_false_iff_not]
          omega
        · simp only [if_neg e, decide_eq_false_iff_not] at this
          have e2 : ¬ g r = g a := by omega
          simp only [if_neg e2, decide_eq_false_iff_not]
          omega
      · rw [List.mem_singleton.mp hr]
        exact lin_2r.irr _
    · simp only [if_neg c]
      refine ⟨⟨fun z => by simp at z, fun z => by simp at z⟩, fun p hp => ?_⟩
      cases hp
      refine ⟨List.mem_append_left _ q1, q2, fun r hr => ?_⟩
      rcases List.mem_append.mp hr with hr | hr
      · exact q3 r hr
      · rw [List.mem_singleton.mp hr]
        have hlt := w3 _ q1 a (by simp)
        unfold lt2r
        by_cases e : g a = q.1
        · simp only [if_pos e, decide_eq_false_iff_not]
          exact List.lt_asymm hlt
        · simp only [if_neg e, decide_eq_false_iff_not]
          omega
def rnk (g : List Int → Int) (L : List (List Int)) : List (Int × List Int) := (L.map fun r => (g r, r)).mergeSort fun a b => !lt2r b a
theorem rnk_head (g : List Int → Int) (L : List (List Int)) (hw : L.Pairwise (· < ·)) : (rnk g L).head? = bst g L := by
  obtain ⟨h1, h2⟩ := bst_ok g L hw
  cases hb : bst g L with
  | none =>
    rw [h1.mp hb]
    simp [rnk]
  | some p =>
    obtain ⟨q1, q2, q3⟩ := h2 p hb
    refine sort_first lin_2r _ p (List.mem_map.mpr ⟨p.2, q1, by rw [← q2]⟩) fun y hy => ?_
    obtain ⟨r, hr, rfl⟩ := List.mem_map.mp hy
    exact q3 r hr
theorem rnk_filter (g : List Int → Int) (q : List Int → Bool) (L : List (List Int)) : (rnk g L).filter (fun p => q p.2) = rnk g (L.filter q) := by
  refine lin_2r.uniq ?_ ((lin_2r.pw _).sublist List.filter_sublist) (lin_2r.pw _)
  have h1 := (List.mergeSort_perm (L.map fun r => (g r, r)) fun a b => !lt2r b a).filter fun p => q p.2
  have h2 := List.mergeSort_perm ((L.filter q).map fun r => (g r, r)) fun a b => !lt2r b a
  have e : (L.map fun r => (g r, r)).filter (fun p => q p.2) = (L.filter q).map fun r => (g r, r) := by
    rw [List.filter_map]
    rfl
  rw [e] at h1
  exact h1.trans h2.symm
/-- how many have the least -/
def mnyE (g : List Int → Int) (L : List (List Int)) : Nat := match bst g L with
  | none => 0
  | some p => (L.map g).count p.1
theorem mn_least (l : List Int) (m : Int) (hm : m ∈ l) (h : ∀ x ∈ l, m ≤ x) : mnL l = m := by
  cases l with
  | nil => cases hm
  | cons a l =>
    show l.foldl min a = m
    have key : ∀ (l : List Int) (a : Int), (l.foldl min a = a ∨ l.foldl min a ∈ l) ∧ l.foldl min a ≤ a ∧ ∀ x ∈ l, l.foldl min a ≤ x := fun l => by
      induction l with
      | nil => exact fun a => ⟨.inl rfl, Int.le_refl _, fun x hx => by cases hx⟩
      | cons b l ih =>
        intro a
        rw [List.foldl_cons]
        obtain ⟨k1, k2, k3⟩ := ih (min a b)
        refine ⟨?_, by omega, fun x hx => ?_⟩
        · rcases k1 with k1 | k1
          · rw [k1]
            by_cases c : a ≤ b
            · left; omega
            · right; rw [Int.min_eq_right (by omega)]; exact List.mem_cons_self
          · exact .inr (List.mem_cons_of_mem _ k1)
        · rcases List.mem_cons.mp hx with rfl | hx
          · omega
          · exact k3 x hx
    obtain ⟨k1, k2, k3⟩ := key l a
    have g1 : m ≤ l.foldl min a := by
      rcases k1 with k1 | k1
      · rw [k1]; exact h a List.mem_cons_self
      · exact h _ (List.mem_cons_of_mem _ k1)
    have g2 : l.foldl min a ≤ m := by
      rcases List.mem_cons.mp hm with rfl | hm
      · exact k2
      · exact k3 m hm
    omega
theorem splits_pw (size teams : Nat) (hs : 2 ≤ size ∧ size ≤ 6) (ht : 2 ≤ teams ∧ teams ≤ 3) : (splits size teams).Pairwise (· < ·) := by
  have : ∀ s ∈ [2, 3, 4, 5, 6], ∀ t ∈ [2, 3], (splits s t).Pairwise (· < ·) := by decide +kernel
  exact this size (by simp; omega) teams (by simp; omega)
end Hd
end

/-! part: K23g -/
section
set_option Elab.async false
set_option linter.all false
set_option maxRecDepth 100000
set_option maxHeartbeats 400000
namespace Hd
open PySem PySem.Spec Q
def optP : Option (Int × List Int) → D
  | none => .none
  | some p => pr p
section
variable {size teams : Nat} (hs : 2 ≤ size ∧ size ≤ 6) (ht : 2 ≤ teams ∧ teams ≤ 3) {S : List Int} (hS : okK size S)
include hs ht hS
theorem e_best_split (L : List (List Int)) (hL : ∀ r ∈ L, r ∈ splits size teams) : Ph_best_split [rT S, .list (L.map rT)] = some (optP (bst (fun r => gp S r teams) L)) := by
  simp -implicitDefEqProofs [Ph_best_split, b_best_split]
  obtain ⟨ρ', h1, x3, x4, h2⟩ := forL_all (step := turnD (sN 3) L_best_split_1) (xs := L) (mk := rT) (fun pre (ρ : Rho) => ∃ x3 x4, ρ = [.im (rT S), .im (.list (L.map rT)), .im (optP (bst (fun r => gp S r teams) pre)), x3, x4])
    [.im (rT S), .im (.list (L.map rT)), .im .none, .un, .un] ⟨.un, .un, rfl⟩ (by
    rintro pre post ρ r ⟨_, _, rfl⟩ hx
    have hr := hL r (split_mem hx)
    have e := e_gap_of hs ht hS hr
    refine ⟨[.im (rT S), .im (.list (L.map rT)), .im (optP (bst (fun r => gp S r teams) (pre ++ [r]))), .im (rT r), .im (.int (gp S r teams))], .inl ?_, _, _, rfl⟩
    rw [bst_snoc]
    cases h : bst (fun r => gp S r teams) pre with
    | none =>
      simp -implicitDefEqProofs [L_best_split_1, e, optP, pr]
    | some p =>
      have i0 : L2.atI [PyData.int p.1, rT p.2] 0 = some (.int p.1) := rfl
      by_cases c : gp S r teams < p.1
      · simp -implicitDefEqProofs [L_best_split_1, e, optP, pr, i0, c]
      · simp -implicitDefEqProofs [L_best_split_1, e, optP, pr, i0, c])
  rw [h1]
  subst h2
  simp -implicitDefEqProofs
theorem e_even (d : D) (hd : d = rT S ∨ d = lT S) : Ph_even [d, .int teams] = some (optP (bst (fun r => gp S r teams) (splits size teams))) := by
  have hn := hS.n
  have e1 := e_to_skills hs hS d hd
  have e2 := e_need_within (.int 2) (teams : Int) 2 4 (by omega)
  have e4 : Ph_need [.int 1, rT S] = some (rT S) := e_need_t _ _
  have e5 := e_splits_into size teams hs ht
  have e6 := e_best_split hs ht hS (splits size teams) fun r hr => hr
  simp -implicitDefEqProofs [Ph_even, b_even, e1, e2, e4, hn, e5, e6]
theorem e_alike (d : D) (hd : d = rT S ∨ d = lT S) : Ph_alike [d, .int teams] = some (optP (bst (fun r => gp S r teams) ((splits size teams).filter szB))) := by
  have hn := hS.n
  have e1 := e_to_skills hs hS d hd
  have e2 := e_need_within (.int 2) (teams : Int) 2 4 (by omega)
  have e4 : Ph_need [.int 1, rT S] = some (rT S) := e_need_t _ _
  have e5 := e_splits_into size teams hs ht
  have e6 := e_best_split hs ht hS ((splits size teams).filter szB) fun r hr => (List.mem_filter.mp hr).1
  have hsm := splits_small size teams hs ht
  have hfl := List.length_filter_le szB (splits size teams)
  simp -implicitDefEqProofs [Ph_alike, b_alike, e1, e2, e4, hn, e5]
  rw [lcL_map (p := szB) (g := rT) (fun r hr => by
    have e := e_sizes_alike hs ht hr
    simp -implicitDefEqProofs [e]) (fun r hr _ => by simp), Option.bind_some, lcB_small (by rw [List.length_map]; omega)]
  simp -implicitDefEqProofs [e6]
theorem e_many_even (d : D) (hd : d = rT S ∨ d = lT S) : Ph_many_even [d, .int teams] = some (.int (mnyE (fun r => gp S r teams) (splits size teams) : Nat)) := by
  have hn := hS.n
  have e1 := e_to_skills hs hS d hd
  have e2 := e_need_within (.int 2) (teams : Int) 2 4 (by omega)
  have e4 : Ph_need [.int 1, rT S] = some (rT S) := e_need_t _ _
  have e5 := e_splits_into size teams hs ht
  have hsm := splits_small size teams hs ht
  have hpw := splits_pw size teams hs ht
  simp -implicitDefEqProofs [Ph_many_even, b_many_even, e1, e2, e4, hn, e5]
  rw [lcL_all (g := fun r => .int (gp S r teams)) (by simp) (fun r hr => by
    have e := e_gap_of hs ht hS hr
    simp -implicitDefEqProofs [e]), Option.bind_some, lcB_small (by rw [List.length_map]; omega)]
  obtain ⟨b1, b2⟩ := bst_ok (fun r => gp S r teams) (splits size teams) hpw
  unfold mnyE
  generalize splits size teams = L at *
  have hm : (L.map fun r => PyData.int (gp S r teams)) = (L.map fun r => gp S r teams).map .int := by rw [List.map_map]; rfl
  rw [hm]
  cases hb : bst (fun r => gp S r teams) L with
  | none =>
    rw [b1.mp hb]
    simp -implicitDefEqProofs
  | some p =>
    obtain ⟨q1, q2, q3⟩ := b2 p hb
    have hne : L.map (fun r => gp S r teams) ≠ [] := by
      intro z
      rw [List.map_eq_nil_iff.mp z] at q1
      cases q1
    have e3 := min_d hne _ (.inr rfl)
    rw [mn_least _ p.1 (List.mem_map.mpr ⟨p.2, q1, q2.symm⟩) (fun x hx => by
      obtain ⟨r, hr, rfl⟩ := List.mem_map.mp hx
      have := q3 r hr
      unfold lt2r at this
      by_cases e : gp S r teams = p.1
      · omega
      · simp only [if_neg e, decide_eq_false_iff_not] at this
        omega)] at e3
    have hc := nice_int.cnt_l (by decide) p.1 (L.map fun r => gp S r teams)
    generalize L.map (fun r => gp S r teams) = G at *
    unfold lT at e3
    cases G with
    | nil => exact absurd rfl hne
    | cons a G => 
      simp -implicitDefEqProofs at e3 hc
      simp -implicitDefEqProofs [e3, hc]
end
end Hd
end

/-! part: K23h -/
section
set_option Elab.async false
set_option linter.all false
set_option maxRecDepth 100000
set_option maxHeartbeats 400000
namespace Hd
open PySem PySem.Spec Q
/-! ### the chart -/
theorem at_m1 (ds : List D) (x : D) : L2.atI (ds ++ [x]) (-1) = some x := by
  unfold L2.atI L2.ixN
  rw [if_neg (by omega), List.length_append, List.length_singleton, if_pos (by omega), Option.bind_some]
  have e : (-1 + ((ds.length + 1 : Nat) : Int)).toNat = ds.length := by omega
  rw [e]
  simp
theorem sI_eq (ns : List Int) : sI ns = ns.mergeSort fun a b => !decide (b < a) := by
  have h := srt_nice ordd_int ns
  rw [srt_sI] at h
  have e := congrArg intsOf h
  rw [intsOf_m, intsOf_m] at e
  exact Option.some.inj e
theorem sI_perm (ns : List Int) : (sI ns).Perm ns := by rw [sI_eq]; exact List.mergeSort_perm _ _
theorem sI_lt {ns : List Int} (h : ns.Nodup) : (sI ns).Pairwise (· < ·) := by
  have n2 : (sI ns).Nodup := (sI_perm ns).nodup_iff.mpr h
  have p := lin_int.pw ns
  rw [← sI_eq] at p
  exact L2.lt_of_le_nodup _ (p.imp fun h => by simp only [decide_eq_false_iff_not] at h; omega) n2
theorem ssI_len (ns : List Int) : (ssI ns).length ≤ ns.length := by
  unfold ssI
  rw [List.length_mergeSort]
  induction ns with
  | nil => exact Nat.le_refl _
  | cons n ns ih =>
    unfold dedupI
    split <;> simp <;> omega
def stp (s : List (List Int) × List Int) (x : Int) : List (List Int) × List Int := (s.1 ++ [s.2], ssI (s.2 ++ s.2.map (· + x)))
theorem told_rows (T U : List (List Int)) (d : D) (hd : d = .tuple (T.map rT) ∨ d = .list (T.map lT)) (h1 : T.length ≤ 1000) (h2 : ∀ r ∈ T, r.length ≤ 1000) : Ph_is_told 4 [d, .tuple (U.map rT)] = some (.bool (decide (T = U))) := by
  rcases hd with rfl | rfl
  · exact told_seq [] 3 rT rT T U (fun a ha b => told_seq 0 2 .int .int a b (fun x _ y => e_told_i 1 x y) _ (h2 a ha) (.inl rfl)) _ h1 (.inl rfl)
  · exact told_seq [] 3 lT rT T U (fun a ha b => told_seq 0 2 .int .int a b (fun x _ y => e_told_i 1 x y) _ (h2 a ha) (.inr rfl)) _ h1 (.inr rfl)

def stC (s0 : Int) (w : List Int) : List (List Int) × List Int := w.foldl stp ([], [s0])
def tabC (s0 : Int) (w : List Int) : List (List Int) := (stC s0 w).1 ++ [(stC s0 w).2]
theorem stC_snoc (s0 : Int) (w : List Int) (x : Int) : stC s0 (w ++ [x]) = stp (stC s0 w) x := by unfold stC; rw [List.foldl_append]; rfl
theorem stC_len (s0 : Int) (w : List Int) : (stC s0 w).1.length = w.length ∧ (stC s0 w).2.length ≤ 2 ^ w.length ∧ (stC s0 w).2.Pairwise (· < ·) ∧ (stC s0 w).2 ≠ [] := by
  refine snoc_ind (p := fun w => (stC s0 w).1.length = w.length ∧ (stC s0 w).2.length ≤ 2 ^ w.length ∧ (stC s0 w).2.Pairwise (· < ·) ∧ (stC s0 w).2 ≠ []) ⟨rfl, Nat.le_refl _, List.pairwise_singleton _ _, List.cons_ne_nil _ _⟩ (fun w x ih => ?_) w
  rw [stC_snoc]
  obtain ⟨h1, h2, h3, h4⟩ := ih
  refine ⟨by simp [stp, h1], ?_, ssI_lt _, fun e => ?_⟩
  · have := ssI_len ((stC s0 w).2 ++ (stC s0 w).2.map (· + x))
    simp only [List.length_append, List.length_map, List.length_singleton, Nat.pow_succ, stp] at *
    omega
  · obtain ⟨a, t, e2⟩ := List.exists_cons_of_ne_nil h4
    have : a ∈ ssI ((stC s0 w).2 ++ (stC s0 w).2.map (· + x)) := by rw [ssI_mem, e2]; simp
    have e' : ssI ((stC s0 w).2 ++ (stC s0 w).2.map (· + x)) = [] := e
    rw [e'] at this
    cases this
theorem tab_ne (s0 : Int) (w : List Int) : ∀ r ∈ tabC s0 w, r ≠ [] := by
  have : ∀ r ∈ (stC s0 w).1, r ≠ [] := by
    refine snoc_ind (p := fun w => ∀ r ∈ (stC s0 w).1, r ≠ []) (fun r hr => by cases hr) (fun w x ih r hr => ?_) w
    rw [stC_snoc] at hr
    rcases List.mem_append.mp hr with hr | hr
    · exact ih r hr
    · rw [List.mem_singleton.mp hr]; exact (stC_len s0 w).2.2.2
  intro r hr
  rcases List.mem_append.mp hr with hr | hr
  · exact this r hr
  · rw [List.mem_singleton.mp hr]; exact (stC_len s0 w).2.2.2
theorem tab_len (s0 : Int) (w : List Int) : (tabC s0 w).length = w.length + 1 := by simp [tabC, (stC_len s0 w).1]
theorem tab_small (s0 : Int) (w : List Int) : ∀ r ∈ tabC s0 w, r.length ≤ 2 ^ w.length := by
  have : ∀ r ∈ (stC s0 w).1, r.length ≤ 2 ^ w.length := by
    refine snoc_ind (p := fun w => ∀ r ∈ (stC s0 w).1, r.length ≤ 2 ^ w.length) (fun r hr => by cases hr) (fun w x ih r hr => ?_) w
    rw [stC_snoc] at hr
    rw [List.length_append, List.length_singleton, Nat.pow_succ]
    rcases List.mem_append.mp hr with hr | hr
    · have := ih r hr; omega
    · rw [List.mem_singleton.mp hr]; have := (stC_len s0 w).2.1; omega
  intro r hr
  rcases List.mem_append.mp hr with hr | hr
  · exact this r hr
  · rw [List.mem_singleton.mp hr]; exact (stC_len s0 w).2.1
theorem e_chart (s0 : Int) (w : List Int) (hw : w.length ≤ 5) {size : Nat} (hs : 2 ≤ size ∧ size ≤ 6) (hS : okK size (s0 :: w)) (d : D) (hd : d = rT (s0 :: w) ∨ d = lT (s0 :: w)) : Ph_chart [d] = some (.tuple ((tabC s0 w).map rT)) := by
  have e1 := e_to_skills hs hS d hd
  have e4 : Ph_need [.int 1, rT (s0 :: w)] = some (rT (s0 :: w)) := e_need_t _ _
  have i0 : L2.atI ((s0 :: w).map PyData.int) 0 = some (.int s0) := atI_nat (n := 0) (by simp)
  have c1 : cutL ((s0 :: w).map PyData.int) (some 1) none = w.map .int := by rw [cutL_from _ (by omega)]; rfl
  generalize hSk : s0 :: w = S at *
  simp -implicitDefEqProofs [Ph_chart, b_chart, e1, e4, i0, c1]
  obtain ⟨ρ', h1, x3, h2⟩ := forL_all (step := turnD (sN 3) L_chart_1) (xs := w) (mk := .int) (fun pre (ρ : Rho) => ∃ x3, ρ = [.im (rT S), .im (lT (stC s0 pre).2), .ow (.list ((tabC s0 pre).map rT)), x3, .un])
    [.im (rT S), .im (.list [.int s0]), .ow (.list [.tuple [.int s0]]), .un, .un] ⟨.un, rfl⟩ (by
    rintro pre post ρ x ⟨_, rfl⟩ hx
    have hlt := split_len hx
    obtain ⟨k1, k2, _, _⟩ := stC_len s0 pre
    have hpow : 2 ^ pre.length ≤ 2 ^ 9 := Nat.pow_le_pow_right (by decide) (by omega)
    refine ⟨[.im (rT S), .im (lT (stC s0 (pre ++ [x])).2), .ow (.list ((tabC s0 (pre ++ [x])).map rT)), .im (.int x), .un], .inl ?_, _, rfl⟩
    unfold tabC
    rw [stC_snoc]
    generalize stC s0 pre = s at *
    obtain ⟨T, l⟩ := s
    have hb := line_ge
    simp only at k1 k2
    have e1 : (l.map PyData.int ++ l.map fun t => PyData.int (t + x)) = (l ++ l.map (· + x)).map .int := by simp
    have e2 : l.length + l.length ≤ sizeLine := by omega
    have e3 : T.length + 1 < sizeLine := by omega
    have e4 := srtSetI_l (ns := l ++ l.map (· + x)) (by simp; omega)
    simp -implicitDefEqProofs [L_chart_1]
    rw [lcL_all (g := fun t => .int (t + x)) (by simp) (fun t ht => by simp), Option.bind_some, lcB_small (by rw [List.length_map]; omega)]
    simp -implicitDefEqProofs [e1, e2, e3, stp]
    simp -implicitDefEqProofs at e4
    simp -implicitDefEqProofs [e4, e3])
  rw [h1]
  subst h2
  simp -implicitDefEqProofs
theorem e_chart_holds (s0 : Int) (w : List Int) (hw : w.length ≤ 5) {size : Nat} (hs : 2 ≤ size ∧ size ≤ 6) (hS : okK size (s0 :: w)) (d : D) : Ph_chart_holds [rT (s0 :: w), d] = Ph_is_told 4 [d, .tuple ((tabC s0 w).map rT)] := by
  have e := e_chart s0 w hw hs hS _ (.inl rfl)
  generalize s0 :: w = S at *
  simp -implicitDefEqProofs [Ph_chart_holds, b_chart_holds, e]
  cases Ph_is_told 4 [d, .tuple ((tabC s0 w).map rT)] <;> simp
theorem e_law_chart (s0 : Int) (w : List Int) (hw : w.length ≤ 5) : Ph__law_chart [rT (s0 :: w)] = some (.tuple ((tabC s0 w).map rT)) := by
  have i0 : L2.atI ((s0 :: w).map PyData.int) 0 = some (.int s0) := atI_nat (n := 0) (by simp)
  have c1 : cutL ((s0 :: w).map PyData.int) (some 1) none = w.map .int := by rw [cutL_from _ (by omega)]; rfl
  generalize hSk : s0 :: w = S at *
  simp -implicitDefEqProofs [Ph__law_chart, b__law_chart, i0, c1]
  obtain ⟨ρ', h1, x2, x3, h2⟩ := forL_all (step := turnD (sN 2) L__law_chart_1) (xs := w) (mk := .int) (fun pre (ρ : Rho) => ∃ x2 x3, ρ = [.im (rT S), .ow (.list ((tabC s0 pre).map lT)), x2, x3, .un, .un])
    [.im (rT S), .ow (.list [.list [.int s0]]), .un, .un, .un, .un] ⟨.un, .un, rfl⟩ (by
    rintro pre post ρ x ⟨_, _, rfl⟩ hx
    have hlt := split_len hx
    obtain ⟨k1, k2, k3, _⟩ := stC_len s0 pre
    have hpow : 2 ^ pre.length ≤ 2 ^ 9 := Nat.pow_le_pow_right (by decide) (by omega)
    unfold tabC
    generalize hst : stC s0 pre = s at *
    obtain ⟨T, l⟩ := s
    have hb := line_ge
    simp only at k1 k2 k3
    have e0 := at_m1 (T.map lT) (lT l)
    have nl : l.Nodup := k3.imp fun h => by omega
    have hfl := List.length_filter_le (fun t => !decide (t + x ∈ l)) l
    have es : sI (l ++ (l.filter fun t => !decide (t + x ∈ l)).map (· + x)) = ssI (l ++ l.map (· + x)) := lt_uniq (sI_lt (by
      rw [List.nodup_append]
      refine ⟨nl, ?_, fun a ha b hb z => ?_⟩
      · exact List.Pairwise.map _ (fun a b h => by omega) ((nl.filter _))
      · obtain ⟨t, ht, rfl⟩ := List.mem_map.mp hb
        have h2 := (List.mem_filter.mp ht).2
        simp only [Bool.not_eq_true', decide_eq_false_iff_not] at h2
        exact h2 (z ▸ ha))) (ssI_lt _) fun k => by
      rw [(sI_perm _).mem_iff, ssI_mem, List.mem_append, List.mem_append, List.mem_map, List.mem_map]
      constructor
      · rintro (h | ⟨y, h, e⟩)
        · exact .inl h
        · exact .inr ⟨y, (List.mem_filter.mp h).1, e⟩
      · rintro (h | ⟨y, h, e⟩)
        · exact .inl h
        · by_cases c : y + x ∈ l
          · left; rw [← e]; exact c
          · exact .inr ⟨y, List.mem_filter.mpr ⟨h, by simp [c]⟩, e⟩
    refine ⟨[.im (rT S), .ow (.list ((tabC s0 (pre ++ [x])).map lT)), .im (.int x), .im (lT (l ++ (l.filter fun t => !decide (t + x ∈ l)).map (· + x))), .un, .un], .inl ?_, _, _, rfl⟩
    unfold tabC
    rw [stC_snoc, hst]
    have e3 : T.length + 1 < sizeLine := by omega
    have e2 : l.length + (l.filter fun t => !decide (t + x ∈ l)).length ≤ sizeLine := by omega
    have e1 : (l.map PyData.int ++ (l.filter fun t => !decide (t + x ∈ l)).map fun t => PyData.int (t + x)) = (l ++ (l.filter fun t => !decide (t + x ∈ l)).map (· + x)).map .int := by simp
    simp -implicitDefEqProofs [L__law_chart_1, e0]
    rw [lcL_map (p := fun t => !decide (t + x ∈ l)) (g := fun t => .int (t + x)) (fun t ht => by simp) (fun t ht _ => by simp), Option.bind_some, lcB_small (by rw [List.length_map]; omega)]
    generalize (l.filter fun t => !decide (t + x ∈ l)) = G at *
    simp -implicitDefEqProofs only [Option.bind_some]
    have srt := sorted_li (l ++ G.map (· + x))
    rw [es] at srt
    rw [← e1] at srt
    simp -implicitDefEqProofs [e2, e3, stp, srt]
    done)
  rw [h1]
  subst h2
  obtain ⟨k1, k2, _, _⟩ := stC_len s0 w
  simp -implicitDefEqProofs
  rw [lcL_all (g := rT) (by simp) (fun t ht => by simp), Option.bind_some, lcB_small (by simp [tabC]; omega)]
  simp -implicitDefEqProofs
end Hd
end

/-! part: K23i -/
section
set_option Elab.async false
set_option linter.all false
set_option maxRecDepth 100000
set_option maxHeartbeats 400000
namespace Hd
open PySem PySem.Spec Q
/-! ### likings and picks -/
theorem nodup_le : ∀ {xs ys : List Int}, xs.Nodup → (∀ x ∈ xs, x ∈ ys) → xs.length ≤ ys.length
  | [], _, _, _ => Nat.zero_le _
  | x :: xs, ys, h, hs => by
    obtain ⟨h1, h2⟩ := List.nodup_cons.mp h
    have hx := hs x List.mem_cons_self
    have := nodup_le (ys := ys.erase x) h2 fun y hy => by
      have hne : y ≠ x := fun z => h1 (by rw [← z]; exact hy)
      rw [List.mem_erase_of_ne hne]
      exact hs y (List.mem_cons_of_mem _ hy)
    rw [List.length_erase_of_mem hx] at this
    have := List.length_pos_of_mem hx
    simp only [List.length_cons]
    omega
structure okL (n : Nat) (l : List Int) : Prop where
  len : l.length = n
  m : ∀ x, x ∈ l ↔ 0 ≤ x ∧ x < n
  d : l.Nodup
theorem plc_pw (n : Nat) : (plc n).Pairwise (· < ·) := by
  unfold plc
  exact List.Pairwise.map _ (fun a b h => by omega) List.pairwise_lt_range
theorem sI_liking {n : Nat} {l : List Int} (h : okL n l) : sI l = plc n := lt_uniq (sI_lt h.d) (plc_pw n) fun k => by
  rw [(sI_perm l).mem_iff, h.m, plc_mem]
abbrev Lk := List Int × List Int
def lk (L : Lk) (c : Int) : List Int := if c = 0 then L.1 else L.2
structure okLL (n : Nat) (L : Lk) : Prop where
  sz : n = 2 ∨ n = 4 ∨ n = 6
  a : okL n L.1
  b : okL n L.2
theorem okLL.at {n : Nat} {L : Lk} (h : okLL n L) (c : Int) : okL n (lk L c) := by
  unfold lk
  split
  · exact h.a
  · exact h.b
def lkT (L : Lk) : D := .tuple [rT L.1, rT L.2]
def lkL (L : Lk) : D := .list [lT L.1, lT L.2]
section
variable {n : Nat} {L : Lk} (hL : okLL n L)
include hL
theorem e_to_liking (l : List Int) (h : okL n l) (d : D) (hd : d = rT l ∨ d = lT l) : Ph_to_liking [d] = some (rT l) := by
  have hn := h.len
  have hn2 := hL.sz
  have hv : ∀ x ∈ l, 0 ≤ x ∧ x ≤ 9 := fun x hx => by have := (h.m x).mp hx; omega
  have e1 : Ph_to_ints [d, .int 0, .int 9, .int 2, .int 10] = some (rT l) := by
    rcases hd with rfl | rfl
    · exact e_to_ints_t l 0 9 2 10 (by omega) (by omega) hv
    · exact e_to_ints_l l 0 9 2 10 (by omega) (by omega) hv
  have e2 := sorted_ti l
  rw [sI_liking h] at e2
  have h16 : (n : Int) ≤ 16777216 := by omega
  have hrg : rgD 0 n = (plc n).map .int := by rw [lr1_n (by omega), plc, List.map_map]; rfl
  have e3 : neD (.list ((plc n).map .int)) (.list ((plc n).map .int)) = some (.bool false) := by
    have := (nice_lst nice_int).ne (by decide) (plc n) (plc n)
    simpa using this
  have hm : ((n : Int) % 2 == 0) = true := by
    rw [beq_iff_eq]
    omega
  have hm2 : (n : Int) % 2 = 0 := by omega
  simp -implicitDefEqProofs [Ph_to_liking, b_to_liking, e1, hn, e2, h16, hrg, e3, hm, hm2]
theorem e_to_likings (d : D) (hd : d = lkT L ∨ d = lkL L) : Ph_to_likings [d] = some (lkT L) := by
  have ha := hL.a
  have hb := hL.b
  have na := ha.len
  have nb := hb.len
  rcases hd with rfl | rfl
  · have e1 : Ph_to_pair [.tuple [rT L.1, rT L.2]] = some (.tuple [rT L.1, rT L.2]) := by
      have := e_to_row_t [rT L.1, rT L.2] 2 2 (by simp)
      simp -implicitDefEqProofs [Ph_to_pair, b_to_pair, this]
    have e2 := e_to_liking hL L.1 ha _ (.inl rfl)
    have e3 := e_to_liking hL L.2 hb _ (.inl rfl)
    have i0 : L2.atI [rT L.1, rT L.2] 0 = some (rT L.1) := rfl
    have i1 : L2.atI [rT L.1, rT L.2] 1 = some (rT L.2) := rfl
    simp -implicitDefEqProofs [Ph_to_likings, b_to_likings, lkT, e1, i0, i1, e2, e3, na, nb]
  · have e1 : Ph_to_pair [.list [lT L.1, lT L.2]] = some (.tuple [lT L.1, lT L.2]) := by
      have := e_to_row_l [lT L.1, lT L.2] 2 2 (by simp)
      simp -implicitDefEqProofs [Ph_to_pair, b_to_pair, this]
    have e2 := e_to_liking hL L.1 ha _ (.inr rfl)
    have e3 := e_to_liking hL L.2 hb _ (.inr rfl)
    have i0 : L2.atI [lT L.1, lT L.2] 0 = some (lT L.1) := rfl
    have i1 : L2.atI [lT L.1, lT L.2] 1 = some (lT L.2) := rfl
    simp -implicitDefEqProofs [Ph_to_likings, b_to_likings, lkT, lkL, e1, i0, i1, e2, e3, na, nb]
end
/-- those left -/
def lft (base P : List Int) : List Int := base.filter fun x => !decide (x ∈ P)
theorem lft_snoc (base P : List Int) (b : Int) : lft base (P ++ [b]) = (lft base P).filter fun x => !(x == b) := by
  unfold lft
  rw [List.filter_filter]
  refine List.filter_congr fun x _ => ?_
  rw [Bool.eq_iff_iff]
  simp only [List.mem_append, List.mem_singleton, Bool.not_eq_true', decide_eq_false_iff_not, Bool.and_eq_true, beq_eq_false_iff_ne]
  constructor
  · intro z; exact ⟨fun e => z (.inr e), fun e => z (.inl e)⟩
  · rintro ⟨z1, z2⟩ e; exact e.elim z2 z1
def pk (L : Lk) (P : List Int) (c : Int) : Int := (lft (lk L c) P).headD 0
structure okPk (n : Nat) (P : List Int) : Prop where
  m : ∀ x ∈ P, 0 ≤ x ∧ x < n
  d : P.Nodup
section
variable {n : Nat} {L : Lk} (hL : okLL n L)
include hL
theorem lft_ne {l : List Int} (hl : okL n l) {P : List Int} (hP : P.length < n) : ∃ a t, lft l P = a :: t := by
  cases h : lft l P with
  | cons a t => exact ⟨a, t, rfl⟩
  | nil =>
    have := nodup_le (xs := l) (ys := P) hl.d fun x hx => by
      apply Decidable.byContradiction
      intro c
      have : x ∈ lft l P := List.mem_filter.mpr ⟨hx, by simp [c]⟩
      rw [h] at this
      cases this
    rw [hl.len] at this
    omega
theorem pk_ok {P : List Int} (hP : P.length < n) (c : Int) : ∃ t, lft (lk L c) P = pk L P c :: t ∧ 0 ≤ pk L P c ∧ pk L P c < n ∧ ¬ pk L P c ∈ P := by
  obtain ⟨a, t, e⟩ := lft_ne hL (hL.at c) hP
  have ea : pk L P c = a := by unfold pk; rw [e]; rfl
  have hm : a ∈ lft (lk L c) P := by rw [e]; exact List.mem_cons_self
  obtain ⟨m1, m2⟩ := List.mem_filter.mp hm
  have := ((hL.at c).m a).mp m1
  rw [ea]
  exact ⟨t, e, this.1, this.2, by simpa using m2⟩
omit hL in
theorem okPk.snoc {P : List Int} (h : okPk n P) {b : Int} (h1 : 0 ≤ b ∧ b < n) (h2 : ¬ b ∈ P) : okPk n (P ++ [b]) := by
  refine ⟨fun x hx => ?_, ?_⟩
  · rcases List.mem_append.mp hx with hx | hx
    · exact h.m x hx
    · rw [List.mem_singleton.mp hx]; exact h1
  · rw [List.nodup_append]
    exact ⟨h.d, by simp, fun a ha c hc => by rw [List.mem_singleton.mp hc]; intro z; exact h2 (z ▸ ha)⟩
theorem lft_in {l : List Int} (hl : okL n l) (P : List Int) (x : Int) (c : Int) (hx : x ∈ lk L c) : decide (x ∈ lft l P) = !decide (x ∈ P) := by
  have h1 := ((hL.at c).m x).mp hx
  have h2 := (hl.m x).mpr h1
  by_cases q : x ∈ P
  · have : ¬ x ∈ lft l P := fun z => by
      have := (List.mem_filter.mp z).2
      simp [q] at this
    rw [decide_eq_false this, decide_eq_true q]
    rfl
  · have : x ∈ lft l P := List.mem_filter.mpr ⟨h2, by simp [q]⟩
    rw [decide_eq_true this, decide_eq_false q]
    rfl
/-- the first of a liking that is left -/
theorem best_list {l : List Int} (hl : okL n l) {P : List Int} (hP : P.length < n) (c : Int) (tt : D → Option Bool) (te : D → Option D) (h1 : ∀ x ∈ lk L c, tt (.int x) = some (decide (x ∈ lft l P))) (h2 : ∀ x, te (.int x) = some (.int x)) :
    ∃ t : List Int, (lcL tt te ((lk L c).map .int)).bind lcB = some (.list ((pk L P c :: t).map .int)) := by
  obtain ⟨t, e, _⟩ := pk_ok hL hP c
  have hn := (hL.at c).len
  have hn2 := hL.sz
  have hfl := List.length_filter_le (fun x => !decide (x ∈ P)) (lk L c)
  refine ⟨t, ?_⟩
  rw [lcL_map (p := fun x => !decide (x ∈ P)) (g := .int) (fun x hx => by rw [h1 x hx, lft_in hL hl P x c hx]) (fun x _ _ => h2 x), Option.bind_some, lcB_small (by rw [List.length_map]; omega), ← e]
  rfl
theorem e_best_left {l : List Int} (hl : okL n l) {P : List Int} (hP : P.length < n) (c : Int) : Ph_best_left [rT (lk L c), lT (lft l P)] = some (.int (pk L P c)) := by
  obtain ⟨t, e⟩ := best_list hL hl hP c (fun d => (inD d (lT (lft l P))).bind boolD) (fun d => some d) (fun x hx => by simp) (fun x => rfl)
  simp -implicitDefEqProofs [Ph_best_left, b_best_left]
  rw [e]
  have i0 : L2.atI ((pk L P c :: t).map PyData.int) 0 = some (.int (pk L P c)) := atI_nat (n := 0) (by simp)
  generalize (pk L P c :: t) = T at *
  simp -implicitDefEqProofs [i0]
end
end Hd
end

/-! part: K23j -/
section
set_option Elab.async false
set_option linter.all false
set_option maxRecDepth 100000
set_option maxHeartbeats 400000
namespace Hd
open PySem PySem.Spec Q
/-! ### picks by turns -/
structure Rn where
  g0 : List Int
  g1 : List Int
  P : List Int
def rstep (L : Lk) (s : Rn) (c : Int) : Rn := if c = 0 then ⟨s.g0 ++ [pk L s.P c], s.g1, s.P ++ [pk L s.P c]⟩ else ⟨s.g0, s.g1 ++ [pk L s.P c], s.P ++ [pk L s.P c]⟩
def rnL (L : Lk) (ts : List Int) : Rn := ts.foldl (rstep L) ⟨[], [], []⟩
theorem rnL_snoc (L : Lk) (ts : List Int) (c : Int) : rnL L (ts ++ [c]) = rstep L (rnL L ts) c := by unfold rnL; rw [List.foldl_append]; rfl
theorem rstep_P (L : Lk) (s : Rn) (c : Int) : (rstep L s c).P = s.P ++ [pk L s.P c] := by unfold rstep; split <;> rfl
structure okRn (n : Nat) (s : Rn) : Prop where
  p : okPk n s.P
  a : okPk n s.g0
  b : okPk n s.g1
  ap : ∀ x ∈ s.g0, x ∈ s.P
  bp : ∀ x ∈ s.g1, x ∈ s.P
theorem okPk.le {n : Nat} {P : List Int} (h : okPk n P) : P.length ≤ n := by
  have := nodup_le (ys := plc n) h.d fun x hx => (plc_mem n x).mpr (h.m x hx)
  rwa [plc_len] at this
section
variable {n : Nat} {L : Lk} (hL : okLL n L)
include hL
theorem rnL_ok (ts : List Int) : ts.length ≤ n → okRn n (rnL L ts) ∧ (rnL L ts).P.length = ts.length := by
  refine snoc_ind (p := fun ts => ts.length ≤ n → okRn n (rnL L ts) ∧ (rnL L ts).P.length = ts.length) (fun _ => ⟨⟨⟨fun x hx => (by cases hx), List.nodup_nil⟩, ⟨fun x hx => (by cases hx), List.nodup_nil⟩, ⟨fun x hx => (by cases hx), List.nodup_nil⟩, fun x hx => (by cases hx), fun x hx => (by cases hx)⟩, rfl⟩) (fun ts c ih hl => ?_) ts
  rw [List.length_append, List.length_singleton] at hl
  obtain ⟨h, hp⟩ := ih (by omega)
  obtain ⟨t, e1, e2, e3, e4⟩ := pk_ok hL (P := (rnL L ts).P) (by omega) c
  rw [rnL_snoc]
  generalize rnL L ts = s at *
  refine ⟨?_, by rw [rstep_P]; simp [hp]⟩
  have hp2 := h.p.snoc ⟨e2, e3⟩ e4
  unfold rstep
  generalize pk L s.P c = b at *
  split
  · refine ⟨hp2, h.a.snoc ⟨e2, e3⟩ (fun z => e4 (h.ap _ z)), h.b, fun x hx => ?_, fun x hx => List.mem_append_left _ (h.bp x hx)⟩
    rcases List.mem_append.mp hx with hx | hx
    · exact List.mem_append_left _ (h.ap x hx)
    · exact List.mem_append_right _ hx
  · refine ⟨hp2, h.a, h.b.snoc ⟨e2, e3⟩ (fun z => e4 (h.bp _ z)), fun x hx => List.mem_append_left _ (h.ap x hx), fun x hx => ?_⟩
    rcases List.mem_append.mp hx with hx | hx
    · exact List.mem_append_left _ (h.bp x hx)
    · exact List.mem_append_right _ hx
omit hL in
theorem at20 {α : Type} (a b : α) : L2.atI [a, b] 0 = some a := rfl
omit hL in
theorem at21 {α : Type} (a b : α) : L2.atI [a, b] 1 = some b := rfl
omit hL in
theorem ix0 : L2.ixN 2 0 = some 0 := rfl
omit hL in
theorem ix1 : L2.ixN 2 1 = some 1 := rfl
theorem plc_okL : okL n (plc n) := ⟨plc_len n, plc_mem n, (plc_pw n).imp fun h => by omega⟩
omit hL in
theorem at_lk (c : Int) (hc : c = 0 ∨ c = 1) : L2.atI [rT L.1, rT L.2] c = some (rT (lk L c)) := by
  rcases hc with rfl | rfl <;> rfl
theorem e_law_honest (ts : List Int) (hts : ts.length ≤ n) (hv : ∀ c ∈ ts, c = 0 ∨ c = 1) (d : D) (hd : d = rT ts ∨ d = lT ts) : Ph__law_honest [lkT L, d] = some (.tuple [rT (rnL L ts).g0, rT (rnL L ts).g1]) := by
  have hw : walkD d = some (ts.map .int) := by rcases hd with rfl | rfl <;> rfl
  have e2 := sorted_ti L.1
  rw [sI_liking hL.a] at e2
  have i0 : L2.atI [rT L.1, rT L.2] 0 = some (rT L.1) := rfl
  have hn2 := hL.sz
  have h0 : plc n = lft (plc n) [] := (List.filter_eq_self.mpr fun _ _ => rfl).symm
  have hb := line_ge
  rw [h0] at e2
  simp -implicitDefEqProofs [Ph__law_honest, b__law_honest, lkT, i0, e2, hw]
  obtain ⟨ρ', h1, x4, x5, h2⟩ := forL_all (step := turnD (sN 4) L__law_honest_1) (xs := ts) (mk := .int) (fun pre (ρ : Rho) => ∃ x4 x5, ρ = [.im (lkT L), .im d, .im (lT (lft (plc n) (rnL L pre).P)), .dp (.l, [(rnL L pre).g0.map .int, (rnL L pre).g1.map .int]), x4, x5, .un])
    [.im (lkT L), .im d, .im (lT (lft (plc n) [])), .dp (.l, [[], []]), .un, .un, .un] ⟨.un, .un, rfl⟩ (by
    rintro pre post ρ c ⟨_, _, rfl⟩ hx
    have hlt := split_len hx
    have hc := hv c (split_mem hx)
    obtain ⟨ok, hP⟩ := rnL_ok hL pre (by omega)
    rw [rnL_snoc]
    generalize rnL L pre = s at *
    have hat := at_lk (L := L) c hc
    obtain ⟨t, e⟩ := best_list hL (plc_okL hL) (P := s.P) (by omega) c (fun d => (inD d (lT (lft (plc n) s.P))).bind boolD) (fun d => some d) (fun x hx => by simp) (fun x => rfl)
    have i0 : L2.atI ((pk L s.P c :: t).map PyData.int) 0 = some (.int (pk L s.P c)) := atI_nat (n := 0) (by simp)
    have hfl := List.length_filter_le (fun x => !(x == pk L s.P c)) (lft (plc n) s.P)
    have hfl2 := List.length_filter_le (fun x => !decide (x ∈ s.P)) (plc n)
    rw [plc_len] at hfl2
    have hll : (lft (plc n) s.P).length ≤ n := hfl2
    have la := ok.a.le
    have lb := ok.b.le
    refine ⟨[.im (lkT L), .im d, .im (lT (lft (plc n) (rstep L s c).P)), .dp (.l, [(rstep L s c).g0.map .int, (rstep L s c).g1.map .int]), .im (.int c), .im (.int (pk L s.P c)), .un], .inl ?_, _, _, rfl⟩
    have hl1 : s.g0.length < sizeLine := by omega
    have hl2 : s.g1.length < sizeLine := by omega
    rw [rstep_P, lft_snoc]
    unfold rstep
    generalize lft (plc n) s.P = LF at *
    generalize (pk L s.P c :: t) = T at *
    generalize pk L s.P c = b at *
    simp -implicitDefEqProofs only [L__law_honest_1]
    rcases hc with rfl | rfl
    · simp -implicitDefEqProofs [lkT, hat]
      rw [e]
      simp -implicitDefEqProofs [i0, hl1, ix0]
      rw [lcL_map (p := fun x => !(x == b)) (g := .int) (fun x hx => by simp [bne]) (fun x hx _ => by simp), Option.bind_some, lcB_small (by rw [List.length_map]; omega)]
      simp
    · simp -implicitDefEqProofs [lkT, hat]
      rw [e]
      simp -implicitDefEqProofs [i0, hl2, ix1]
      rw [lcL_map (p := fun x => !(x == b)) (g := .int) (fun x hx => by simp [bne]) (fun x hx _ => by simp), Option.bind_some, lcB_small (by rw [List.length_map]; omega)]
      simp)
  unfold lkT at h1
  try simp -implicitDefEqProofs at h1
  rw [h1]
  subst h2
  simp -implicitDefEqProofs [at20, at21]
omit hL in
theorem erase_f {xs : List Int} (h : xs.Nodup) (b : Int) : xs.erase b = xs.filter fun x => !(x == b) := by
  rw [h.erase_eq_filter]
  refine List.filter_congr fun x _ => rfl
theorem e_picks_by (ts : List Int) (hts : ts.length ≤ n) (hv : ∀ c ∈ ts, c = 0 ∨ c = 1) (d : D) (hd : d = rT ts ∨ d = lT ts) : Ph_picks_by [lkT L, d] = some (.tuple [rT (rnL L ts).g0, rT (rnL L ts).g1]) := by
  have hw : walkD d = some (ts.map .int) := by rcases hd with rfl | rfl <;> rfl
  have i0 : L2.atI [rT L.1, rT L.2] 0 = some (rT L.1) := rfl
  have hn2 := hL.sz
  have hn3 := hL.a.len
  have h0 : L.1 = lft L.1 [] := (List.filter_eq_self.mpr fun _ _ => rfl).symm
  have hb := line_ge
  have hd1 : lstD [rT L.1] = some (.list ((lft L.1 []).map .int)) := by rw [← h0]; rfl
  simp -implicitDefEqProofs [Ph_picks_by, b_picks_by, lkT, i0, hd1, hw]
  obtain ⟨ρ', h1, x4, x5, h2⟩ := forL_all (step := turnD (sN 4) L_picks_by_1) (xs := ts) (mk := .int) (fun pre (ρ : Rho) => ∃ x4 x5, ρ = [.im (lkT L), .im d, .dp (.t, [(rnL L pre).g0.map .int, (rnL L pre).g1.map .int]), .ow (lT (lft L.1 (rnL L pre).P)), x4, x5])
    [.im (lkT L), .im d, .dp (.t, [[], []]), .ow (lT (lft L.1 [])), .un, .un] ⟨.un, .un, rfl⟩ (by
    rintro pre post ρ c ⟨_, _, rfl⟩ hx
    have hlt := split_len hx
    have hc := hv c (split_mem hx)
    obtain ⟨ok, hP⟩ := rnL_ok hL pre (by omega)
    rw [rnL_snoc]
    generalize rnL L pre = s at *
    have hat := at_lk (L := L) c hc
    have e := e_best_left hL hL.a (P := s.P) (by omega) c
    obtain ⟨t, q1, q2, q3, q4⟩ := pk_ok hL (P := s.P) (by omega) c
    have hmem : pk L s.P c ∈ lft L.1 s.P := List.mem_filter.mpr ⟨(hL.a.m _).mpr ⟨q2, q3⟩, by simp [q4]⟩
    have her := erase_f (hL.a.d.filter fun x => !decide (x ∈ s.P)) (pk L s.P c)
    have her2 : (lft L.1 s.P).erase (pk L s.P c) = lft L.1 (s.P ++ [pk L s.P c]) := by rw [lft_snoc]; exact her
    have la := ok.a.le
    have lb := ok.b.le
    have hl1 : s.g0.length < sizeLine := by omega
    have hl2 : s.g1.length < sizeLine := by omega
    have okI : okR .fz (.int (pk L s.P c)) = true := rfl
    refine ⟨[.im (lkT L), .im d, .dp (.t, [(rstep L s c).g0.map .int, (rstep L s c).g1.map .int]), .ow (lT (lft L.1 (rstep L s c).P)), .im (.int c), .im (.int (pk L s.P c))], .inl ?_, _, _, rfl⟩
    rw [rstep_P, ← her2]
    unfold rstep
    generalize lft L.1 s.P = LF at *
    generalize pk L s.P c = b at *
    rcases hc with rfl | rfl
    · simp -implicitDefEqProofs [L_picks_by_1, lkT, hat, e, okI, hl1, ix0, bRem, hmem]
    · simp -implicitDefEqProofs [L_picks_by_1, lkT, hat, e, okI, hl2, ix1, bRem, hmem])
  unfold lkT at h1
  try simp -implicitDefEqProofs at h1
  rw [h1]
  subst h2
  simp -implicitDefEqProofs [at20, at21]
end
end Hd
end

/-! part: K23k -/
section
set_option Elab.async false
set_option linter.all false
set_option maxRecDepth 100000
set_option maxHeartbeats 400000
namespace Hd
open PySem PySem.Spec Q
/-! ### honest, picked, worth -/
def alt (n : Nat) : List Int := (List.range n).map fun (i : Nat) => (i : Int) % 2
def gotD (s : Rn) : D := .tuple [rT s.g0, rT s.g1]
def wth (l g : List Int) : Int := (g.map fun x => (l.length : Int) - 1 - (l.idxOf x : Nat)).sum
section
variable {n : Nat} {L : Lk} (hL : okLL n L)
include hL
theorem e_honest (d : D) (hd : d = lkT L ∨ d = lkL L) : Ph_honest [d] = some (gotD (rnL L (alt n))) := by
  have e1 := e_to_likings hL d hd
  have e2 : Ph_need [.int 1, lkT L] = some (lkT L) := e_need_t _ _
  have i0 : ixD (lkT L) (.int 0) = some (rT L.1) := rfl
  have hn := hL.a.len
  have hn2 := hL.sz
  have rg := rg1_n (k := n) (by omega)
  have e3 := e_picks_by hL (alt n) (by simp [alt]) (fun c hc => by
    obtain ⟨i, _, rfl⟩ := List.mem_map.mp hc
    omega) _ (.inr rfl)
  simp -implicitDefEqProofs [Ph_honest, b_honest, e1, e2, i0, hn, rg]
  rw [lcL_all (g := fun i : Nat => .int ((i : Int) % 2)) (by simp) (fun i hi => by simp), Option.bind_some, lcB_small (by simp; omega)]
  have hm : ((List.range n).map fun i : Nat => PyData.int ((i : Int) % 2)) = (alt n).map .int := by unfold alt; rw [List.map_map]; rfl
  rw [hm]
  unfold lT at e3
  generalize alt n = A at *
  simp -implicitDefEqProofs [e3, gotD]
theorem e_picked (ts : List Int) (hts : ts.length = n) (hv : ∀ c ∈ ts, c = 0 ∨ c = 1) : Ph_picked [lkT L, lT ts] = some (gotD (rnL L ts)) := by
  have e1 := e_to_likings hL _ (.inl rfl)
  have e2 : Ph_need [.int 1, lkT L] = some (lkT L) := e_need_t _ _
  have e2' : Ph_need [.int 2, rT ts] = some (rT ts) := e_need_t _ _
  have i0 : ixD (lkT L) (.int 0) = some (rT L.1) := rfl
  have hn := hL.a.len
  have hn2 := hL.sz
  have e3 := e_picks_by hL ts (by omega) hv _ (.inl rfl)
  have e4 := e_to_ints_l ts 0 1 (n : Int) (n : Int) (by omega) (by omega) (fun c hc => by have := hv c hc; omega)
  simp -implicitDefEqProofs [Ph_picked, b_picked, e1, e2, i0, hn, e4, e2', e3, gotD]
theorem e_law_worth (l : List Int) (hl : okL n l) (g : List Int) (hg : okPk n g) : Ph__law_worth [rT l, rT g] = some (.int (wth l g)) := by
  have hn := hl.len
  have hn2 := hL.sz
  have hgl := hg.le
  have hidx : ∀ x ∈ g, idxD (rT l) (.int x) = some (.int (l.idxOf x : Nat)) := fun x hx => nice_int.idx_t (by decide) x l ((hl.m x).mpr (hg.m x hx))
  simp -implicitDefEqProofs [Ph__law_worth, b__law_worth]
  rw [lcL_all (g := fun x => .int ((l.length : Int) - 1 - (l.idxOf x : Nat))) (by simp) (fun x hx => by simp [hidx x hx]), Option.bind_some, lcB_small (by rw [List.length_map]; omega)]
  have hs := sum_f (fun x => (l.length : Int) - 1 - (l.idxOf x : Nat)) g
  simp -implicitDefEqProofs [wth, hs]
theorem e_behind (l : List Int) (hl : okL n l) (x : Int) (hx : 0 ≤ x ∧ x < n) : Ph_behind [rT l, .int x] = some (.int ((l.length : Int) - 1 - (l.idxOf x : Nat))) := by
  have hidx : idxD (rT l) (.int x) = some (.int (l.idxOf x : Nat)) := nice_int.idx_t (by decide) x l ((hl.m x).mpr hx)
  simp -implicitDefEqProofs [Ph_behind, b_behind, hidx]
theorem e_worth (l : List Int) (hl : okL n l) (g : List Int) (hg : okPk n g) : Ph_worth [rT l, rT g] = some (.int (wth l g)) := by
  have hn := hl.len
  have hn2 := hL.sz
  have hgl := hg.le
  have e1 := e_to_liking hL l hl _ (.inl rfl)
  have e2 : Ph_need [.int 1, rT l] = some (rT l) := e_need_t _ _
  have e2' : Ph_need [.int 2, rT g] = some (rT g) := e_need_t _ _
  have e4 := e_to_ints_t g 0 ((n : Int) - 1) 0 (n : Int) (by omega) (by omega) (fun c hc => by have := hg.m c hc; omega)
  have hc := fun x : Int => nice_int.cnt_t (by decide) x g
  have hc1 : ∀ x : Int, g.count x ≤ 1 := fun x => List.nodup_iff_count.mp hg.d x
  have hb := fun x hx => e_behind hL l hl x (hg.m x hx)
  simp -implicitDefEqProofs [Ph_worth, b_worth, e1, e2, hn, e4, e2']
  rw [lcL_all (g := fun x => .bool false) (by simp) (fun x hx => by
    have := hc1 x
    have h2 : ¬ (1 : Int) < (g.count x : Nat) := by omega
    simp [hc, h2]), Option.bind_some, lcB_small (by rw [List.length_map]; omega)]
  have hA : (g.any fun _ => false) = false := by simp
  simp -implicitDefEqProofs only [Option.bind_some, any_b, hA]
  simp -implicitDefEqProofs
  rw [lcL_all (g := fun x => .int ((l.length : Int) - 1 - (l.idxOf x : Nat))) (by simp) (fun x hx => by simp [hb x hx]), Option.bind_some, lcB_small (by rw [List.length_map]; omega)]
  have hs := sum_f (fun x => (l.length : Int) - 1 - (l.idxOf x : Nat)) g
  simp -implicitDefEqProofs [wth, hs]
end
end Hd
end

/-! part: K23l -/
section
set_option Elab.async false
set_option linter.all false
set_option maxRecDepth 100000
set_option maxHeartbeats 400000
namespace Hd
open PySem PySem.Spec Q
/-! ### the best reply, plain -/
def bstR (f : Int → Int × List Int) (beh : Int → Int) (xs : List Int) : Option (Int × List Int) := xs.foldl (fun b ch => match b with
  | none => some ((f ch).1 + beh ch, ch :: (f ch).2)
  | some p => if p.1 < (f ch).1 + beh ch then some ((f ch).1 + beh ch, ch :: (f ch).2) else some p) none
theorem bstR_snoc (f : Int → Int × List Int) (beh : Int → Int) (xs : List Int) (ch : Int) : bstR f beh (xs ++ [ch]) = match bstR f beh xs with
  | none => some ((f ch).1 + beh ch, ch :: (f ch).2)
  | some p => if p.1 < (f ch).1 + beh ch then some ((f ch).1 + beh ch, ch :: (f ch).2) else some p := by
  unfold bstR
  rw [List.foldl_append]
  rfl
def bh (l : List Int) (x : Int) : Int := (l.length : Int) - 1 - (l.idxOf x : Nat)
theorem wth_cons (l : List Int) (x : Int) (g : List Int) : wth l (x :: g) = bh l x + wth l g := by
  unfold wth bh
  rw [List.map_cons, List.sum_cons]
structure IsB (l : List Int) (R : List (List Int)) (z : Int × List Int) : Prop where
  m : z.2 ∈ R
  w : z.1 = wth l z.2
  b : ∀ g ∈ R, lt2r (-wth l g, g) (-z.1, z.2) = false
theorem lt2_iff (a b : Int × List Int) : lt2r a b = false ↔ (b.1 < a.1 ∨ a.1 = b.1 ∧ ¬ a.2 < b.2) := by
  unfold lt2r
  by_cases e : a.1 = b.1
  · rw [if_pos e, decide_eq_false_iff_not]
    constructor
    · intro h; exact .inr ⟨e, h⟩
    · rintro (h | ⟨_, h⟩)
      · omega
      · exact h
  · rw [if_neg e, decide_eq_false_iff_not]
    constructor
    · intro h; left; omega
    · rintro (h | ⟨h, _⟩)
      · omega
      · exact absurd h e
theorem bstR_ok (l : List Int) (f : Int → Int × List Int) (R : Int → List (List Int)) (xs : List Int) : xs.Pairwise (· < ·) → (∀ ch ∈ xs, IsB l (R ch) (f ch)) →
    (bstR f (bh l) xs = none ↔ xs = []) ∧ ∀ p, bstR f (bh l) xs = some p → IsB l (xs.flatMap fun ch => (R ch).map (ch :: ·)) p ∧ ∃ a t, a ∈ xs ∧ p.2 = a :: t := by
  refine snoc_ind (p := fun xs => xs.Pairwise (· < ·) → (∀ ch ∈ xs, IsB l (R ch) (f ch)) → (bstR f (bh l) xs = none ↔ xs = []) ∧ ∀ p, bstR f (bh l) xs = some p → IsB l (xs.flatMap fun ch => (R ch).map (ch :: ·)) p ∧ ∃ a t, a ∈ xs ∧ p.2 = a :: t) (fun _ _ => ⟨⟨fun _ => rfl, fun _ => rfl⟩, fun p hp => by cases hp⟩) (fun xs a ih hw hf => ?_) xs
  obtain ⟨w1, _, w3⟩ := List.pairwise_append.mp hw
  obtain ⟨h1, h2⟩ := ih w1 fun ch hch => hf ch (List.mem_append_left _ hch)
  have ha := hf a (by simp)
  have hnew : ∀ g ∈ (R a).map (a :: ·), lt2r (-wth l g, g) (-((f a).1 + bh l a), a :: (f a).2) = false := fun g hg => by
    obtain ⟨g', hg', rfl⟩ := List.mem_map.mp hg
    have := (lt2_iff _ _).mp (ha.b g' hg')
    rw [lt2_iff, wth_cons]
    simp only at this ⊢
    rcases this with h | ⟨h, h3⟩
    · left; omega
    · refine .inr ⟨by omega, fun z => ?_⟩
      rcases List.cons_lt_cons_iff.mp z with z | ⟨_, z⟩
      · exact absurd z (Int.lt_irrefl _)
      · exact h3 z
  have hmem : ∀ g, g ∈ (xs ++ [a]).flatMap (fun ch => (R ch).map (ch :: ·)) ↔ g ∈ xs.flatMap (fun ch => (R ch).map (ch :: ·)) ∨ g ∈ (R a).map (a :: ·) := fun g => by
    rw [List.flatMap_append, List.mem_append, List.flatMap_cons, List.flatMap_nil, List.append_nil]
  have hin : a :: (f a).2 ∈ (R a).map (a :: ·) := List.mem_map_of_mem ha.m
  have hwt : (f a).1 + bh l a = wth l (a :: (f a).2) := by rw [wth_cons, ha.w]; omega
  rw [bstR_snoc]
  cases hb : bstR f (bh l) xs with
  | none =>
    have hL := h1.mp hb
    subst hL
    refine ⟨⟨fun z => by simp at z, fun z => by simp at z⟩, fun p hp => ?_⟩
    cases hp
    refine ⟨⟨(hmem _).mpr (.inr hin), hwt, fun g hg => ?_⟩, a, _, by simp, rfl⟩
    rcases (hmem g).mp hg with hg | hg
    · cases hg
    · exact hnew g hg
  | some q =>
    obtain ⟨q1, b, t, q2, q3⟩ := h2 q hb
    by_cases c : q.1 < (f a).1 + bh l a
    · simp only [if_pos c]
      refine ⟨⟨fun z => by simp at z, fun z => by simp at z⟩, fun p hp => ?_⟩
      cases hp
      refine ⟨⟨(hmem _).mpr (.inr hin), hwt, fun g hg => ?_⟩, a, _, by simp, rfl⟩
      rcases (hmem g).mp hg with hg | hg
      · have := (lt2_iff _ _).mp (q1.b g hg)
        rw [lt2_iff]
        simp only at this ⊢
        left
        omega
      · exact hnew g hg
    · simp only [if_neg c]
      refine ⟨⟨fun z => by simp at z, fun z => by simp at z⟩, fun p hp => ?_⟩
      cases hp
      refine ⟨⟨(hmem _).mpr (.inl q1.m), q1.w, fun g hg => ?_⟩, b, t, List.mem_append_left _ q2, q3⟩
      rcases (hmem g).mp hg with hg | hg
      · exact q1.b g hg
      · have := (lt2_iff _ _).mp (hnew g hg)
        obtain ⟨g', hg', rfl⟩ := List.mem_map.mp hg
        have hlt := w3 b q2 a (by simp)
        rw [lt2_iff]
        simp only at this ⊢
        by_cases e : -wth l (a :: g') = -q.1
        · refine .inr ⟨e, fun z => ?_⟩
          rw [q3] at z
          rcases List.cons_lt_cons_iff.mp z with z | ⟨z, _⟩ <;> omega
        · left
          rcases this with h | ⟨h, _⟩ <;> omega
section
variable (n : Nat) (L : Lk) (cap : Int)
def rpF : List Int → List Int → Int × List Int
  | [], _ => (0, [])
  | c :: t, P => if c = cap then (bstR (fun ch => rpF t (P ++ [ch])) (bh (lk L cap)) (lft (plc n) P)).getD (0, []) else rpF t (P ++ [pk L P c])
def reps : List Int → List Int → List (List Int)
  | [], _ => [[]]
  | c :: t, P => if c = cap then (lft (plc n) P).flatMap fun ch => (reps t (P ++ [ch])).map (ch :: ·) else reps t (P ++ [pk L P c])
theorem lft_pw (P : List Int) : (lft (plc n) P).Pairwise (· < ·) := (plc_pw n).filter _
theorem rp_ok (hL : okLL n L) : ∀ (ts P : List Int), P.length + ts.length ≤ n → IsB (lk L cap) (reps n L cap ts P) (rpF n L cap ts P)
  | [], P, _ => ⟨by simp [reps, rpF], rfl, fun g hg => by
    have : g = [] := by simpa [reps] using hg
    rw [this]
    exact lin_2r.irr _⟩
  | c :: t, P, h => by
    simp only [List.length_cons] at h
    unfold reps rpF
    by_cases e : c = cap
    · rw [if_pos e, if_pos e]
      obtain ⟨k1, k2⟩ := bstR_ok (lk L cap) (fun ch => rpF n L cap t (P ++ [ch])) (fun ch => reps n L cap t (P ++ [ch])) (lft (plc n) P) (lft_pw n P) fun ch _ => rp_ok hL t (P ++ [ch]) (by simp; omega)
      obtain ⟨a, l, e2⟩ := lft_ne hL (plc_okL hL) (P := P) (by omega)
      cases hb : bstR (fun ch => rpF n L cap t (P ++ [ch])) (bh (lk L cap)) (lft (plc n) P) with
      | none => rw [k1.mp hb] at e2; cases e2
      | some p => exact (k2 p hb).1
    · rw [if_neg e, if_neg e]
      exact rp_ok hL t (P ++ [pk L P c]) (by simp; omega)
def rwS (s : List (List Int × List Int)) (c : Int) : List (List Int × List Int) := s.flatMap fun q => if c = cap then (lft (plc n) q.2).map fun ch => (q.1 ++ [ch], q.2 ++ [ch]) else [(q.1, q.2 ++ [pk L q.2 c])]
def rws (ts : List Int) : List (List Int × List Int) := ts.foldl (rwS n L cap) [([], [])]
theorem rws_snoc (ts : List Int) (c : Int) : rws n L cap (ts ++ [c]) = rwS n L cap (rws n L cap ts) c := by unfold rws; rw [List.foldl_append]; rfl
theorem rws_gen : ∀ (ts : List Int) (s : List (List Int × List Int)), (ts.foldl (rwS n L cap) s).map (·.1) = s.flatMap fun q => (reps n L cap ts q.2).map (q.1 ++ ·)
  | [], s => by
    simp only [List.foldl_nil, reps, List.map_cons, List.map_nil, List.append_nil]
    induction s with
    | nil => rfl
    | cons q s ih => rw [List.map_cons, List.flatMap_cons, ih]; rfl
  | c :: t, s => by
    rw [List.foldl_cons, rws_gen t]
    unfold rwS
    rw [List.flatMap_assoc]
    congr 1
    funext q
    conv => rhs; rw [reps]
    by_cases e : c = cap
    · rw [if_pos e, if_pos e]
      generalize lft (plc n) q.2 = X
      induction X with
      | nil => rfl
      | cons x X ih =>
        rw [List.map_cons, List.flatMap_cons, List.flatMap_cons, List.map_append, ih, List.map_map]
        congr 1
        refine List.map_congr_left fun g _ => ?_
        show (q.1 ++ [x]) ++ g = q.1 ++ (x :: g)
        rw [List.append_assoc]
        rfl
    · rw [if_neg e, if_neg e, List.flatMap_cons, List.flatMap_nil, List.append_nil]
theorem rws_eq (ts : List Int) : (rws n L cap ts).map (·.1) = reps n L cap ts [] := by
  unfold rws
  rw [rws_gen]
  simp
end
section
variable {n : Nat} {L : Lk} (hL : okLL n L) (cap : Int)
include hL
theorem rws_ok (ts : List Int) : ts.length ≤ n → ∀ q ∈ rws n L cap ts, okPk n q.2 ∧ q.2.length = ts.length ∧ okPk n q.1 ∧ ∀ x ∈ q.1, x ∈ q.2 := by
  refine snoc_ind (p := fun ts => ts.length ≤ n → ∀ q ∈ rws n L cap ts, okPk n q.2 ∧ q.2.length = ts.length ∧ okPk n q.1 ∧ ∀ x ∈ q.1, x ∈ q.2) (fun _ q hq => ?_) (fun ts c ih hl q hq => ?_) ts
  · have : q = ([], []) := by simpa [rws] using hq
    rw [this]
    exact ⟨⟨fun x hx => (by cases hx), List.nodup_nil⟩, rfl, ⟨fun x hx => (by cases hx), List.nodup_nil⟩, fun x hx => (by cases hx)⟩
  · rw [List.length_append, List.length_singleton] at hl
    rw [rws_snoc] at hq
    obtain ⟨p, hp, hq⟩ := List.mem_flatMap.mp hq
    obtain ⟨p1, p2, p3, p4⟩ := ih (by omega) p hp
    by_cases e : c = cap
    · rw [if_pos e] at hq
      obtain ⟨ch, hch, rfl⟩ := List.mem_map.mp hq
      obtain ⟨c1, c2⟩ := List.mem_filter.mp hch
      have c3 := (plc_mem n ch).mp c1
      have c4 : ¬ ch ∈ p.2 := by simpa using c2
      refine ⟨p1.snoc c3 c4, by simp [p2], p3.snoc c3 (fun z => c4 (p4 _ z)), fun x hx => ?_⟩
      rcases List.mem_append.mp hx with hx | hx
      · exact List.mem_append_left _ (p4 x hx)
      · exact List.mem_append_right _ hx
    · rw [if_neg e] at hq
      have : q = (p.1, p.2 ++ [pk L p.2 c]) := by simpa using hq
      rw [this]
      obtain ⟨t, e1, e2, e3, e4⟩ := pk_ok hL (P := p.2) (by omega) c
      exact ⟨p1.snoc ⟨e2, e3⟩ e4, by simp [p2], p3, fun x hx => List.mem_append_left _ (p4 x hx)⟩
theorem rws_len (ts : List Int) : (rws n L cap ts).length ≤ n ^ ts.length := by
  refine snoc_ind (p := fun ts => (rws n L cap ts).length ≤ n ^ ts.length) (Nat.le_refl _) (fun ts c ih => ?_) ts
  have hn2 := hL.sz
  rw [rws_snoc, List.length_append, List.length_singleton, Nat.pow_succ]
  have : ∀ s : List (List Int × List Int), (rwS n L cap s c).length ≤ s.length * n := fun s => by
    unfold rwS
    induction s with
    | nil => simp
    | cons q s ih =>
      rw [List.flatMap_cons, List.length_append, List.length_cons, Nat.succ_mul]
      have hfl := List.length_filter_le (fun x => !decide (x ∈ q.2)) (plc n)
      rw [plc_len] at hfl
      have hfl' : (lft (plc n) q.2).length ≤ n := hfl
      have hone : (if c = cap then (lft (plc n) q.2).map (fun ch => (q.1 ++ [ch], q.2 ++ [ch])) else [(q.1, q.2 ++ [pk L q.2 c])]).length ≤ n := by
        by_cases e : c = cap
        · rw [if_pos e, List.length_map]; omega
        · rw [if_neg e, List.length_singleton]; omega
      omega
  exact Nat.le_trans (this _) (Nat.mul_le_mul_right _ ih)
end
end Hd
end

/-! part: K23m -/
section
set_option Elab.async false
set_option linter.all false
set_option maxRecDepth 100000
set_option maxHeartbeats 400000
namespace Hd
open PySem PySem.Spec Q
section
variable {n : Nat} {L : Lk} (hL : okLL n L) (cap : Int) (hcap : cap = 0 ∨ cap = 1)
include hL hcap
omit hcap in
theorem lft_comp (P : List Int) (b : Int) (tt : D → Option Bool) (te : D → Option D) (h1 : ∀ x, tt (.int x) = some (!(x == b))) (h2 : ∀ x, te (.int x) = some (.int x)) : (lcL tt te ((lft (plc n) P).map .int)).bind lcB = some (.list ((lft (plc n) (P ++ [b])).map .int)) := by
  have hn2 := hL.sz
  have hfl := List.length_filter_le (fun x => !(x == b)) (lft (plc n) P)
  have hfl2 := List.length_filter_le (fun x => !decide (x ∈ P)) (plc n)
  rw [plc_len] at hfl2
  have hll : (lft (plc n) P).length ≤ n := hfl2
  rw [lcL_map (p := fun x => !(x == b)) (g := .int) (fun x hx => h1 x) (fun x hx _ => h2 x), Option.bind_some, lcB_small (by rw [List.length_map]; omega), lft_snoc]
theorem e_reply : ∀ (ts P : List Int) (k : Nat), ts.length < k → P.length + ts.length ≤ n → okPk n P → (∀ c ∈ ts, c = 0 ∨ c = 1) → Ph_reply_from k [lkT L, rT ts, .int cap, lT (lft (plc n) P)] = some (pr (rpF n L cap ts P))
  | _, _, 0, h, _, _, _ => absurd h (by omega)
  | [], P, k + 1, _, _, _, _ => by
    rw [Ph_reply_from]
    generalize Ph_reply_from k = φ
    simp -implicitDefEqProofs [b_reply_from, rpF, pr]
  | c :: t, P, k + 1, hk, hP, hp, hv => by
    simp only [List.length_cons] at hk hP
    have ih := fun P2 h1 h2 => e_reply t P2 k (by omega) h1 h2 fun x hx => hv x (List.mem_cons_of_mem _ hx)
    have hc := hv c List.mem_cons_self
    have hat := at_lk (L := L) c hc
    have hat2 := at_lk (L := L) cap hcap
    have e := e_best_left hL (plc_okL hL) (P := P) (by omega) c
    obtain ⟨q, q1, q2, q3, q4⟩ := pk_ok hL (P := P) (by omega) c
    have i0 : L2.atI ((c :: t).map PyData.int) 0 = some (.int c) := atI_nat (n := 0) (by simp)
    have c1 : cutL ((c :: t).map PyData.int) (some 1) none = t.map .int := by rw [cutL_from _ (by omega)]; rfl
    have htr : ((c :: t).map PyData.int).isEmpty = false := rfl
    have hln := (hL.at cap).len
    have hlc := fun b => lft_comp hL P b
    have hbh := fun x hx => e_behind hL (lk L cap) (hL.at cap) x hx
    rw [Ph_reply_from]
    generalize Ph_reply_from k = φ at *
    have hne : (c :: t) ≠ [] := by simp
    unfold rpF
    by_cases ec : c = cap
    · subst ec
      rw [if_pos rfl]
      generalize hT : c :: t = T at *
      have htr2 : T ≠ [] := hne
      have hch : ∀ ch ∈ lft (plc n) P, 0 ≤ ch ∧ ch < n ∧ ¬ ch ∈ P := fun ch h => by
        obtain ⟨m1, m2⟩ := List.mem_filter.mp h
        have := (plc_mem n ch).mp m1
        exact ⟨this.1, this.2, by simpa using m2⟩
      have hb := line_ge
      have hlen : ∀ ts P, (rpF n L c ts P).2.length ≤ ts.length := fun ts => by
        induction ts with
        | nil => intro P; exact Nat.le_refl _
        | cons a ts ih =>
          intro P
          unfold rpF
          split
          · cases hb : bstR (fun ch => rpF n L c ts (P ++ [ch])) (bh (lk L c)) (lft (plc n) P) with
            | none => simp
            | some p =>
              have key : ∀ xs : List Int, ∀ p, bstR (fun ch => rpF n L c ts (P ++ [ch])) (bh (lk L c)) xs = some p → p.2.length ≤ ts.length + 1 := fun xs => by
                refine snoc_ind (p := fun xs => ∀ p, bstR (fun ch => rpF n L c ts (P ++ [ch])) (bh (lk L c)) xs = some p → p.2.length ≤ ts.length + 1) (fun p hp => by cases hp) (fun xs a ih2 p hp => ?_) xs
                rw [bstR_snoc] at hp
                have hi := ih (P ++ [a])
                cases hq : bstR (fun ch => rpF n L c ts (P ++ [ch])) (bh (lk L c)) xs with
                | none =>
                  rw [hq] at hp
                  cases hp
                  simp only [List.length_cons]
                  omega
                | some q =>
                  rw [hq] at hp
                  simp only at hp
                  split at hp
                  · cases hp
                    simp only [List.length_cons]
                    omega
                  · cases hp
                    exact ih2 _ hq
              simpa using key _ p hb
          · have := ih (P ++ [pk L P a])
            simp only [List.length_cons]
            omega
      simp -implicitDefEqProofs [b_reply_from, i0, htr2]
      obtain ⟨ρ', h1, x5, x6, x7, h2⟩ := forL_all (step := turnD (sN 5) (L_reply_from_1 φ)) (xs := lft (plc n) P) (mk := .int)
        (fun pre (ρ : Rho) => ∃ x5 x6 x7, ρ = [.im (lkT L), .im (rT T), .im (.int c), .im (lT (lft (plc n) P)), .im (optP (bstR (fun ch => rpF n L c t (P ++ [ch])) (bh (lk L c)) pre)), x5, x6, x7, .un])
        [.im (lkT L), .im (rT T), .im (.int c), .im (lT (lft (plc n) P)), .im .none, .un, .un, .un, .un] ⟨.un, .un, .un, rfl⟩ (by
        rintro pre post ρ ch ⟨_, _, _, rfl⟩ hx
        obtain ⟨b1, b2, b3⟩ := hch ch (split_mem hx)
        have r := ih (P ++ [ch]) (by simp; omega) (hp.snoc ⟨b1, b2⟩ b3)
        have hb := hbh ch ⟨b1, b2⟩
        have hl := hlen t (P ++ [ch])
        rw [bstR_snoc]
        generalize rpF n L c t (P ++ [ch]) = z at *
        obtain ⟨z1, z2⟩ := z
        refine ⟨[.im (lkT L), .im (rT T), .im (.int c), .im (lT (lft (plc n) P)), .im (optP (match bstR (fun ch => rpF n L c t (P ++ [ch])) (bh (lk L c)) pre with
          | none => some (z1 + bh (lk L c) ch, ch :: z2)
          | some p => if p.1 < z1 + bh (lk L c) ch then some (z1 + bh (lk L c) ch, ch :: z2) else some p)), .im (.int ch), .im (pr (z1, z2)), .im (.int (z1 + bh (lk L c) ch)), .un], .inl ?_, _, _, _, rfl⟩
        have hsz : 1 + z2.length ≤ sizeLine := by
          simp only at hl
          have := hL.sz
          omega
        simp -implicitDefEqProofs only [L_reply_from_1]
        simp -implicitDefEqProofs [c1]
        rw [hlc ch _ _ (fun x => by simp [bne]) (fun x => by simp)]
        have hbb : bh (lk L c) ch = (lk L c).length - 1 - ((lk L c).idxOf ch : Nat) := rfl
        rw [← hbb] at hb
        generalize bh (lk L c) ch = bb at *
        have r' := r
        simp -implicitDefEqProofs [lkT] at r'
        have i1 : ∀ a b : D, L2.atI [a, b] 0 = some a := fun _ _ => rfl
        have i2 : ∀ a b : D, L2.atI [a, b] 1 = some b := fun _ _ => rfl
        cases hq : bstR (fun ch => rpF n L c t (P ++ [ch])) (bh (lk L c)) pre with
        | none =>
          simp -implicitDefEqProofs [r, r', lkT, hat, hb, i1, i2, optP, pr, hsz]
        | some p =>
          by_cases cc : p.1 < z1 + bb
          · simp -implicitDefEqProofs [r, r', lkT, hat, hb, i1, i2, optP, pr, hsz, cc]
          · simp -implicitDefEqProofs [r, r', lkT, hat, hb, i1, i2, optP, pr, hsz, cc])
      rw [h1]
      subst h2
      obtain ⟨a, l, e2⟩ := lft_ne hL (plc_okL hL) (P := P) (by omega)
      cases hq : bstR (fun ch => rpF n L c t (P ++ [ch])) (bh (lk L c)) (lft (plc n) P) with
      | none =>
        obtain ⟨k1, _⟩ := bstR_ok (lk L c) (fun ch => rpF n L c t (P ++ [ch])) (fun ch => reps n L c t (P ++ [ch])) (lft (plc n) P) (lft_pw n P) fun ch _ => rp_ok n L c hL t (P ++ [ch]) (by simp; omega)
        rw [k1.mp hq] at e2
        cases e2
      | some p => simp -implicitDefEqProofs [optP]
    · rw [if_neg ec]
      generalize hT : c :: t = T at *
      have htr2 : T ≠ [] := hne
      have ec' : (c == cap) = false := by rw [beq_eq_false_iff_ne]; exact ec
      have r := ih (P ++ [pk L P c]) (by simp; omega) (hp.snoc ⟨q2, q3⟩ q4)
      simp -implicitDefEqProofs [b_reply_from, i0, ec', ec, htr2, lkT, hat, e, c1]
      rw [hlc (pk L P c) _ _ (fun x => by simp [bne]) (fun x => by simp)]
      simp -implicitDefEqProofs [lkT] at r
      simp -implicitDefEqProofs [r]
end
end Hd
end

/-! part: K23n -/
section
set_option Elab.async false
set_option linter.all false
set_option maxRecDepth 100000
set_option maxHeartbeats 1000000
namespace Hd
open PySem PySem.Spec Q
def rwm (n : Nat) (q : List Int × List Int) : D := .tuple [rT q.1, rT (lft (plc n) q.2)]
section
variable {n : Nat} {L : Lk} (hL : okLL n L) (cap : Int) (hcap : cap = 0 ∨ cap = 1)
include hL hcap
theorem e_law_replies (ts : List Int) (hts : ts.length ≤ n) (hv : ∀ c ∈ ts, c = 0 ∨ c = 1) : Ph__law_replies [lkT L, rT ts, .int cap] = some (.list (((reps n L cap ts []).map fun g => (-wth (lk L cap) g, g)).mergeSort (fun a b => !lt2r b a) |>.map pr)) := by
  have hn2 := hL.sz
  have hb := line_ge
  have hb2 : ∀ m ≤ n, n ^ m ≤ 46656 := fun m hm => Nat.le_trans (Nat.pow_le_pow_right (by omega) hm) (by rcases hn2 with rfl | rfl | rfl <;> decide)
  have e2 := sorted_ti L.1
  rw [sI_liking hL.a] at e2
  have h0 : plc n = lft (plc n) [] := (List.filter_eq_self.mpr fun _ _ => rfl).symm
  have i0 : L2.atI [rT L.1, rT L.2] 0 = some (rT L.1) := rfl
  have e3 : sortedD [rT L.1] = some (.list ((lft (plc n) []).map .int)) := by rw [← h0]; exact e2
  have hlc := fun P b => lft_comp hL P b
  simp -implicitDefEqProofs [Ph__law_replies, b__law_replies, lkT, i0, e3]
  obtain ⟨ρ', h1, x4, x5, x6, x7, x8, h2⟩ := forL_all (step := turnD (sN 4) L__law_replies_2) (xs := ts) (mk := .int)
    (fun pre (ρ : Rho) => ∃ x4 x5 x6 x7 x8, ρ = [.im (lkT L), .im (rT ts), .im (.int cap), .im (.list ((rws n L cap pre).map (rwm n))), x4, x5, x6, x7, x8, .un, .un])
    [.im (lkT L), .im (rT ts), .im (.int cap), .im (.list [rwm n ([], [])]), .un, .un, .un, .un, .un, .un, .un] ⟨.un, .un, .un, .un, .un, rfl⟩ (by
    rintro pre post ρ c ⟨y4, y5, y6, y7, y8, rfl⟩ hx
    have hlt := split_len hx
    have hc := hv c (split_mem hx)
    have hat := at_lk (L := L) c hc
    have hok := rws_ok hL cap pre (by omega)
    have hln := rws_len hL cap pre
    have hln2 := rws_len hL cap (pre ++ [c])
    have b1 := hb2 pre.length (by omega)
    have b2 := hb2 (pre ++ [c]).length (by simp; omega)
    rw [rws_snoc] at hln2 ⊢
    generalize rws n L cap pre = R at *
    obtain ⟨ρ'', g1, z6, z7, z8, g2⟩ := forL_all (step := turnD (sT 2 (sCons (sN 6) (sCons (sN 7) (sNil)))) L__law_replies_1) (xs := R) (mk := rwm n)
      (fun pr_ (ρ : Rho) => ∃ z6 z7 z8, ρ = [.im (lkT L), .im (rT ts), .im (.int cap), .im (.list (R.map (rwm n))), .im (.int c), .ow (.list ((rwS n L cap pr_ c).map (rwm n))), z6, z7, z8, .un, .un])
      [.im (lkT L), .im (rT ts), .im (.int cap), .im (.list (R.map (rwm n))), .im (.int c), .ow (.list []), y6, y7, y8, .un, .un] ⟨y6, y7, y8, rfl⟩ (by
      rintro pr_ po ρ q ⟨_, _, z8, rfl⟩ hq
      obtain ⟨o1, o2, o3, _⟩ := hok q (split_mem hq)
      have hlen : (rwS n L cap pr_ c).length + (rwS n L cap [q] c).length ≤ (rwS n L cap R c).length := by
        rw [hq]
        unfold rwS
        rw [List.flatMap_append, List.length_append, List.flatMap_cons, List.length_append, List.flatMap_cons, List.length_append]
        simp
      have hsn : rwS n L cap (pr_ ++ [q]) c = rwS n L cap pr_ c ++ rwS n L cap [q] c := by unfold rwS; rw [List.flatMap_append]
      have ol1 := o1.le
      have ol3 := o3.le
      have hfl2 := List.length_filter_le (fun x => !decide (x ∈ q.2)) (plc n)
      rw [plc_len] at hfl2
      have hll : (lft (plc n) q.2).length ≤ n := hfl2
      by_cases e : c = cap
      · have e' : (c == cap) = true := by rw [e]; exact beq_self_eq_true _
        have hone : rwS n L cap [q] c = (lft (plc n) q.2).map fun ch => (q.1 ++ [ch], q.2 ++ [ch]) := by unfold rwS; rw [List.flatMap_cons, List.flatMap_nil, List.append_nil, if_pos e]
        refine ⟨[.im (lkT L), .im (rT ts), .im (.int cap), .im (.list (R.map (rwm n))), .im (.int c), .ow (.list ((rwS n L cap (pr_ ++ [q]) c).map (rwm n))), .im (rT q.1), .im (rT (lft (plc n) q.2)), z8, .un, .un], .inl ?_, _, _, _, rfl⟩
        rw [hsn]
        have hs1 : (rwS n L cap pr_ c).length + (lft (plc n) q.2).length ≤ sizeLine := by
          rw [hone, List.length_map] at hlen
          omega
        have hmap : (rwS n L cap [q] c).map (rwm n) = (lft (plc n) q.2).map fun ch => .tuple [rT (q.1 ++ [ch]), rT (lft (plc n) (q.2 ++ [ch]))] := by
          rw [hone, List.map_map]
          rfl
        rw [List.map_append, hmap]
        have hWl : ((rwS n L cap pr_ c).map (rwm n)).length = (rwS n L cap pr_ c).length := List.length_map _
        rw [← hWl] at hs1
        generalize (rwS n L cap pr_ c).map (rwm n) = W at *
        have hq1 : q.1.length + 1 ≤ sizeLine := by omega
        simp -implicitDefEqProofs [L__law_replies_1, rwm, e']
        rw [lcL_all (g := fun ch => .tuple [rT (q.1 ++ [ch]), rT (lft (plc n) (q.2 ++ [ch]))]) (by simp) (fun ch hch => by
          simp -implicitDefEqProofs [hq1]
          rw [hlc q.2 ch _ _ (fun x => by simp [bne]) (fun x => by simp)]
          simp), Option.bind_some, lcB_small (by rw [List.length_map]; omega)]
        simp -implicitDefEqProofs [catLD, hs1]
      · have e' : (c == cap) = false := by rw [beq_eq_false_iff_ne]; exact e
        have hone : rwS n L cap [q] c = [(q.1, q.2 ++ [pk L q.2 c])] := by unfold rwS; rw [List.flatMap_cons, List.flatMap_nil, List.append_nil, if_neg e]
        obtain ⟨t, et⟩ := best_list hL (plc_okL hL) (P := q.2) (by omega) c (fun d => (inD d (rT (lft (plc n) q.2))).bind boolD) (fun d => some d) (fun x hx => by simp) (fun x => rfl)
        have j0 : L2.atI ((pk L q.2 c :: t).map PyData.int) 0 = some (.int (pk L q.2 c)) := atI_nat (n := 0) (by simp)
        refine ⟨[.im (lkT L), .im (rT ts), .im (.int cap), .im (.list (R.map (rwm n))), .im (.int c), .ow (.list ((rwS n L cap (pr_ ++ [q]) c).map (rwm n))), .im (rT q.1), .im (rT (lft (plc n) q.2)), .im (.int (pk L q.2 c)), .un, .un], .inl ?_, _, _, _, rfl⟩
        rw [hsn, hone, List.map_append]
        have hs1 : (rwS n L cap pr_ c).length < sizeLine := by
          rw [hone, List.length_singleton] at hlen
          omega
        have hWl : ((rwS n L cap pr_ c).map (rwm n)).length = (rwS n L cap pr_ c).length := List.length_map _
        rw [← hWl] at hs1
        generalize (rwS n L cap pr_ c).map (rwm n) = W at *
        have hll2 := hlc q.2 (pk L q.2 c)
        generalize (pk L q.2 c :: t) = T at *
        generalize pk L q.2 c = b at *
        simp -implicitDefEqProofs [L__law_replies_1, rwm, e', lkT, hat]
        rw [et]
        simp -implicitDefEqProofs [j0]
        rw [hll2 _ _ (fun x => by simp [bne]) (fun x => by simp)]
        simp -implicitDefEqProofs [hs1])
    subst g2
    refine ⟨[.im (lkT L), .im (rT ts), .im (.int cap), .im (.list ((rwS n L cap R c).map (rwm n))), .im (.int c), .im (.list ((rwS n L cap R c).map (rwm n))), z6, z7, z8, .un, .un], .inl ?_, _, _, _, _, _, rfl⟩
    try simp -implicitDefEqProofs at g1
    simp -implicitDefEqProofs [L__law_replies_2, g1]
    try rfl)
  have hrel := rws_eq n L cap ts
  have hln := rws_len hL cap ts
  have b1 := hb2 ts.length (by omega)
  have hok := rws_ok hL cap ts hts
  have hI : rwm n ([], []) = .tuple [.tuple [], .tuple ((plc n).map .int)] := by
    unfold rwm
    rw [← h0]
    rfl
  rw [hI] at h1
  unfold lkT at h1
  rw [← h0]
  rw [h1]
  subst h2
  have es := sorted_tup nice_2r (by decide) ordd_2r (fun a => ⟨_, _, rfl⟩) ((reps n L cap ts []).map fun g => (-wth (lk L cap) g, g)) _ (.inl rfl)
  rw [← hrel] at es ⊢
  obtain ⟨Z, hZ⟩ : ∃ Z, Z = ((rws n L cap ts).map (·.1)).map fun g => (-wth (lk L cap) g, g) := ⟨_, rfl⟩
  rw [← hZ] at es ⊢
  generalize rws n L cap ts = R at *
  have hat2 := at_lk (L := L) cap hcap
  simp -implicitDefEqProofs
  rw [lcL_all (g := fun q => pr (-wth (lk L cap) q.1, q.1)) (fun q hq => by simp [rwm]) (fun q hq => by
    have := e_law_worth hL (lk L cap) (hL.at cap) q.1 (hok q hq).2.2.1
    simp [rwm, lkT, hat2, this, pr]), Option.bind_some, lcB_small (by rw [List.length_map]; omega)]
  have hm : (R.map fun q => pr (-wth (lk L cap) q.1, q.1)) = Z.map pr := by rw [hZ, List.map_map, List.map_map]; rfl
  rw [hm]
  simp -implicitDefEqProofs [es]
theorem e_best_reply (ts : List Int) (hts : ts.length = n) (hv : ∀ c ∈ ts, c = 0 ∨ c = 1) : Ph_best_reply [lkT L, rT ts, .int cap] = some (pr (rpF n L cap ts [])) := by
  have e1 := e_to_likings hL _ (.inl rfl)
  have e2 : Ph_need [.int 1, lkT L] = some (lkT L) := e_need_t _ _
  have e2' : Ph_need [.int 2, rT ts] = some (rT ts) := e_need_t _ _
  have i0 : ixD (lkT L) (.int 0) = some (rT L.1) := rfl
  have hn := hL.a.len
  have hn2 := hL.sz
  have e4 := e_to_ints_t ts 0 1 (n : Int) (n : Int) (by omega) (by omega) (fun c hc => by have := hv c hc; omega)
  have e5 := e_need_within (.int 3) cap 0 1 (by omega)
  have h0 : plc n = lft (plc n) [] := (List.filter_eq_self.mpr fun _ _ => rfl).symm
  have e6 := e_reply hL cap hcap ts [] 8 (by omega) (by simp; omega) ⟨fun x hx => (by cases hx), List.nodup_nil⟩ hv
  rw [← h0] at e6
  have h16 : (n : Int) ≤ 16777216 := by omega
  have h8 : ¬ (8 : Int) < n := by omega
  have hrg : rgD 0 n = (plc n).map .int := by rw [lr1_n (by omega), plc, List.map_map]; rfl
  simp -implicitDefEqProofs [Ph_best_reply, b_best_reply, e1, e2, i0, hn, e4, e2', e5, h8, h16, hrg, e6]
/-- the first of the law's replies is the best reply -/
theorem replies_head (ts : List Int) (hts : ts.length ≤ n) : L2.atI ((((reps n L cap ts []).map fun g => (-wth (lk L cap) g, g)).mergeSort (fun a b => !lt2r b a)).map pr) 0 = some (pr (-(rpF n L cap ts []).1, (rpF n L cap ts []).2)) := by
  have h := rp_ok n L cap hL ts [] (by simp; omega)
  have hs := sort_first lin_2r ((reps n L cap ts []).map fun g => (-wth (lk L cap) g, g)) (-(rpF n L cap ts []).1, (rpF n L cap ts []).2) (List.mem_map.mpr ⟨_, h.m, by rw [h.w]⟩) (fun y hy => by
    obtain ⟨g, hg, rfl⟩ := List.mem_map.mp hy
    exact h.b g hg)
  generalize (((reps n L cap ts []).map fun g => (-wth (lk L cap) g, g)).mergeSort (fun a b => !lt2r b a)) = S at *
  cases S with
  | nil => simp at hs
  | cons y ys =>
    have : y = (-(rpF n L cap ts []).1, (rpF n L cap ts []).2) := by simpa using hs
    rw [this]
    exact atI_nat (n := 0) (by simp)
end
end Hd
end

/-! part: K23o -/
section
set_option Elab.async false
set_option linter.all false
set_option maxRecDepth 100000
set_option maxHeartbeats 1000000
namespace Hd
open PySem PySem.Spec Q
/-! ### the orders that likings are taken from -/
def ordF (n : Nat) : Nat → List (List Int)
  | 0 => [[]]
  | k + 1 => (ordF n k).flatMap fun r => ((plc n).filter fun x => !decide (x ∈ r)).map fun x => r ++ [x]
def cycF (n : Nat) : List (List Int) := (List.range 6).flatMap fun (s : Nat) => (List.range 7).map fun (f : Nat) => ((List.range 7).filter fun (k : Nat) => decide ((k * (s + 1) + f) % 7 < n)).map fun (k : Nat) => (((k * (s + 1) + f) % 7 : Nat) : Int)
def ordL (n : Nat) : List (List Int) := if n < 5 then ordF n n else cycF n
theorem ord_2 : Ph__law_orders [lT (plc 2)] = some (.list ((ordF 2 2).map rT)) := by kernel_rfl
theorem ord_4 : Ph__law_orders [lT (plc 4)] = some (.list ((ordF 4 4).map rT)) := by kernel_rfl
theorem cyc_6 : Ph__law_cycled [.int 6] = some (.list ((cycF 6).map rT)) := by kernel_rfl
def okLB (n : Nat) (r : List Int) : Bool := decide (r.length = n) && decide r.Nodup && r.all (fun x => decide (0 ≤ x ∧ x < n)) && (plc n).all fun x => decide (x ∈ r)
theorem okLB_ok {n : Nat} {r : List Int} (h : okLB n r = true) : okL n r := by
  unfold okLB at h
  simp only [Bool.and_eq_true, decide_eq_true_eq, List.all_eq_true] at h
  obtain ⟨⟨⟨h1, h2⟩, h3⟩, h4⟩ := h
  exact ⟨h1, fun x => ⟨fun hx => h3 x hx, fun hx => h4 x ((plc_mem n x).mpr hx)⟩, h2⟩
theorem ord_ok : ∀ n ∈ [2, 4, 6], (ordL n).all (okLB n) = true ∧ 0 < (ordL n).length := by decide +kernel
theorem ordL_ok {n : Nat} (hn : n = 2 ∨ n = 4 ∨ n = 6) : (∀ r ∈ ordL n, okL n r) ∧ 0 < (ordL n).length := by
  obtain ⟨h1, h2⟩ := ord_ok n (by simp; omega)
  exact ⟨fun r hr => okLB_ok (List.all_eq_true.mp h1 r hr), h2⟩
theorem lkL_listed {n : Nat} {L : Lk} (hL : okLL n L) : Ph__law_listed 4 [lkT L] = some (lkL L) := by
  have ha := hL.a.len
  have hb := hL.b.len
  have hn := hL.sz
  unfold lkT
  rw [e_listed_g 4 _ (tame_two (tame_ints 1 L.1 (by omega)) (tame_ints 1 L.2 (by omega)))]
  have h1 := lstd_ints 1 L.1
  have h2 := lstd_ints 1 L.2
  show some (PyData.list [lstd 3 (.tuple (L.1.map .int)), lstd 3 (.tuple (L.2.map .int))]) = _
  rw [h1, h2]
  rfl
theorem gotD_same {n : Nat} {L : Lk} (hL : okLL n L) (ts : List Int) (h : ts.length ≤ n) : Ph__law_same 4 [gotD (rnL L ts), gotD (rnL L ts)] = some (.bool true) := by
  obtain ⟨ok, _⟩ := rnL_ok hL ts h
  have ha := ok.a.le
  have hb := ok.b.le
  have hn := hL.sz
  exact e_same_r 4 _ (tame_two (tame_ints 1 _ (by omega)) (tame_ints 1 _ (by omega)))
end Hd
end

/-! part: K23p -/
section
set_option Elab.async false
set_option linter.all false
set_option maxRecDepth 100000
set_option maxHeartbeats 1000000
namespace Hd
open PySem PySem.Spec Q
def T10_law : Bd := bSeq (bFor (fI (fTup (aCons (cD (.int 0)) (aCons (cD (.int 1)) (aNil))))) (sN 16) (L_law_2)) (bRet (cD (.bool true)))
def T9_law : Bd := bSeq (bAsg 14 (fB tupD (aCons (fLc (fIs rg1D (aCons (vF 9) (aNil))) (sN 7) (fYes) (f2 modD (fB intD (aCons (f2 fdivD (fB (Ph__law_cell) (aCons (vF 0) (aCons (cD (.int 9)) (aNil)))) (f2 addD (cD (.int 1)) (vF 7))) (aNil))) (cD (.int 2))) [7]) (aNil)))) (bSeq (bAsg 15 (fB (Ph__law_honest) (aCons (vF 11) (aCons (vF 14) (aNil))))) (bSeq (bIf (fNotT (fTr (fB (Ph__law_same 4) (aCons (fB (Ph_picked) (aCons (vF 11) (aCons (fB (Ph__law_listed 4) (aCons (vF 14) (aNil))) (aNil)))) (aCons (vF 15) (aNil)))))) (bRet (cD (.bool false))) (bNext)) (T10_law)))
def T8_law : Bd := bSeq (bAsg 13 (fB (Ph__law_listed 4) (aCons (vF 11) (aNil)))) (bSeq (bIf (fOrT (fNotT (fTr (fB (Ph__law_same 4) (aCons (fB (Ph_honest) (aCons (vF 13) (aNil))) (aCons (fB (Ph__law_honest) (aCons (vF 11) (aCons (vF 12) (aNil)))) (aNil)))))) (fT (f2 neD (vF 13) (fB (Ph__law_listed 4) (aCons (vF 11) (aNil)))))) (bRet (cD (.bool false))) (bNext)) (T9_law))
def T7_law : Bd := bSeq (bAsg 11 (fTup (aCons (f2 ixD (vF 10) (f2 modD (fB (Ph__law_cell) (aCons (vF 0) (aCons (cD (.int 7)) (aNil)))) (fB lenD (aCons (vF 10) (aNil))))) (aCons (f2 ixD (vF 10) (f2 modD (fB (Ph__law_cell) (aCons (vF 0) (aCons (cD (.int 8)) (aNil)))) (fB lenD (aCons (vF 10) (aNil))))) (aNil))))) (bSeq (bAsg 12 (f2 repGD (fTup (aCons (cD (.int 0)) (aCons (cD (.int 1)) (aNil)))) (fB intD (aCons (f2 fdivD (vF 9) (cD (.int 2))) (aNil))))) (T8_law))
def T6_law : Bd := bSeq (bAsg 9 (f2 addD (cD (.int 2)) (f2 mulD (cD (.int 2)) (f2 modD (fB (Ph__law_cell) (aCons (vF 0) (aCons (cD (.int 6)) (aNil)))) (cD (.int 3)))))) (bSeq (bAsg 10 (fIf (fT (f2 ltD (vF 9) (cD (.int 5)))) (fB (Ph__law_orders) (aCons (fLr1 (vF 9)) (aNil))) (fB (Ph__law_cycled) (aCons (vF 9) (aNil))))) (T7_law))
def T5_law : Bd := bSeq (bFor (fI (f2 addD (fSl (vF 3) (oNo) (oIs (cD (.int 2)))) (fSl (vF 3) (oIs (f1 negD (cD (.int 2)))) (oNo)))) (sN 8) (L_law_1)) (T6_law)
def T4_law : Bd := bSeq (bAsg 7 (f2 modD (fB (Ph__law_cell) (aCons (vF 0) (aCons (cD (.int 3)) (aNil)))) (fB lenD (aCons (vF 6) (aNil))))) (bSeq (bIf (fT (f2 neD (fLc (fI (fLst (aCons (cD (.int 7)) (aCons (fSl (vF 6) (oIs (cD (.int 1))) (oNo)) (aCons (f2 addD (f2 addD (fSl (vF 6) (oNo) (oIs (vF 7))) (fTup (aCons (f2 addD (f2 ixD (vF 6) (vF 7)) (fTup (aCons (cD (.int 9999)) (aNil)))) (aNil)))) (fSl (vF 6) (oIs (f2 addD (vF 7) (cD (.int 1)))) (oNo))) (aCons (f2 addD (f2 addD (fSl (vF 6) (oNo) (oIs (vF 7))) (fTup (aCons (fSl (f2 ixD (vF 6) (vF 7)) (oIs (cD (.int 1))) (oNo)) (aNil)))) (fSl (vF 6) (oIs (f2 addD (vF 7) (cD (.int 1)))) (oNo))) (aNil))))))) (sN 25) (fT (f2 notBD (fB (Ph_chart_holds) (aCons (vF 1) (aCons (vF 25) (aNil)))) (cD (.bool false)))) (vF 25) [25]) (fLst (aNil)))) (bRet (cD (.bool false))) (bNext)) (T5_law))
def T3_law : Bd := bSeq (bAsg 6 (fB (Ph__law_chart) (aCons (vF 1) (aNil)))) (bSeq (bIf (fOrT (fNotT (fTr (fB (Ph__law_same 4) (aCons (fB (Ph_chart) (aCons (vF 1) (aNil))) (aCons (vF 6) (aNil)))))) (fT (f2 notBD (fB (Ph_chart_holds) (aCons (vF 1) (aCons (fB (Ph__law_listed 4) (aCons (vF 6) (aNil))) (aNil)))) (cD (.bool true))))) (bRet (cD (.bool false))) (bNext)) (T4_law))
def T2_law : Bd := bSeq (bIf (fNotT (fTr (fB (Ph__law_same 4) (aCons (fB (Ph_many_even) (aCons (vF 1) (aCons (vF 2) (aNil)))) (aCons (fB lenD (aCons (fLc (fI (vF 4)) (sN 23) (fT (f2 eqD (f2 ixD (vF 23) (cD (.int 0))) (f2 ixD (f2 ixD (vF 4) (cD (.int 0))) (cD (.int 0))))) (vF 23) [23]) (aNil))) (aNil)))))) (bRet (cD (.bool false))) (bNext)) (T3_law)
def T1_law : Bd := bSeq (bAsg 4 (fB sortedD (aCons (fLc (fI (vF 3)) (sN 8) (fYes) (fTup (aCons (fB (Ph__law_gap) (aCons (vF 1) (aCons (vF 8) (aCons (vF 2) (aNil))))) (aCons (vF 8) (aNil)))) [8]) (aNil)))) (bSeq (bAsg 5 (fLc (fI (vF 4)) (sN 23) (fTr (fB (Ph__law_sizes) (aCons (f2 ixD (vF 23) (cD (.int 1))) (aNil)))) (vF 23) [23])) (bSeq (bIf (fOrT (fNotT (fTr (fB (Ph__law_same 4) (aCons (fB (Ph_even) (aCons (fB (Ph__law_listed 4) (aCons (vF 1) (aNil))) (aCons (vF 2) (aNil)))) (aCons (fIf (fT (f2 neD (vF 4) (fLst (aNil)))) (f2 ixD (vF 4) (cD (.int 0))) (cD .none)) (aNil)))))) (fNotT (fTr (fB (Ph__law_same 4) (aCons (fB (Ph_alike) (aCons (vF 1) (aCons (vF 2) (aNil)))) (aCons (fIf (fT (f2 neD (vF 5) (fLst (aNil)))) (f2 ixD (vF 5) (cD (.int 0))) (cD .none)) (aNil))))))) (bRet (cD (.bool false))) (bNext)) (T2_law)))
def b_law2 : Bd := bSeq (bAsg 1 (fB tupD (aCons (fLc (fI (fB (Ph__law_numbers) (aCons (vF 0) (aCons (cD (.int 0)) (aCons (f2 addD (cD (.int 2)) (f2 modD (fB (Ph__law_cell) (aCons (vF 0) (aCons (cD (.int 1)) (aNil)))) (cD (.int 5)))) (aNil)))))) (sN 24) (fYes) (f2 modD (fB intD (aCons (vF 24) (aNil))) (cD (.int 15))) [24]) (aNil)))) (bSeq (bAsg 2 (f2 addD (cD (.int 2)) (f2 modD (fB (Ph__law_cell) (aCons (vF 0) (aCons (cD (.int 2)) (aNil)))) (cD (.int 2))))) (bSeq (bAsg 3 (fB (Ph__law_splits) (aCons (fB lenD (aCons (vF 1) (aNil))) (aCons (vF 2) (aNil))))) (T1_law)))
theorem b_law_eq : b_law = b_law2 := rfl
def gAt (s : Rn) (c : Int) : List Int := if c = 0 then s.g0 else s.g1
section
variable {n : Nat} {L : Lk} (hL : okLL n L) {ts : List Int} (hts : ts.length = n) (hv : ∀ c ∈ ts, c = 0 ∨ c = 1)
include hL hts hv
theorem one_cap (cap : Int) (hcap : cap = 0 ∨ cap = 1) (x0 x1 x2 x3 x4 x5 x6 x7 x8 x9 x10 x12 x13 x17 x18 x19 x20 x21 x22 : Sl) :
    L_law_2 [x0, x1, x2, x3, x4, x5, x6, x7, x8, x9, x10, .im (lkT L), x12, x13, .im (rT ts), .im (gotD (rnL L ts)), .im (.int cap), x17, x18, x19, x20, x21, x22, .un, .un, .un, .un, .un]
      = some (.nx [x0, x1, x2, x3, x4, x5, x6, x7, x8, x9, x10, .im (lkT L), x12, x13, .im (rT ts), .im (gotD (rnL L ts)), .im (.int cap), x17, x18, x19, x20, x21, .im (pr (-(rpF n L cap ts []).1, (rpF n L cap ts []).2)), .un, .un, .un, .un, .un]) := by
  have hn2 := hL.sz
  have e1 := e_law_replies hL cap hcap ts (by omega) hv
  have e2 := replies_head hL cap hcap ts (by omega)
  obtain ⟨ok, _⟩ := rnL_ok hL ts (by omega)
  have hat := at_lk (L := L) cap hcap
  have hat2 : L2.atI [rT (rnL L ts).g0, rT (rnL L ts).g1] cap = some (rT (gAt (rnL L ts) cap)) := by rcases hcap with rfl | rfl <;> rfl
  have hg : okPk n (gAt (rnL L ts) cap) := by
    unfold gAt
    split
    · exact ok.a
    · exact ok.b
  have e3 := e_worth hL (lk L cap) (hL.at cap) _ hg
  have e4 := e_law_worth hL (lk L cap) (hL.at cap) _ hg
  have e5 := e_best_reply hL cap hcap ts hts hv
  have hm := (rp_ok n L cap hL ts [] (by simp; omega)).m
  have hlen : ∀ (t P : List Int), ∀ g ∈ reps n L cap t P, g.length ≤ t.length := fun t => by
    induction t with
    | nil => intro P g hg; simp [reps] at hg; simp [hg]
    | cons c t ih =>
      intro P g hg
      unfold reps at hg
      split at hg
      · obtain ⟨ch, _, h2⟩ := List.mem_flatMap.mp hg
        obtain ⟨g', h3, rfl⟩ := List.mem_map.mp h2
        have := ih _ g' h3
        simp only [List.length_cons]
        omega
      · have := ih _ g hg
        simp only [List.length_cons]
        omega
  have hl := hlen ts [] _ hm
  have s1 : Ph__law_same 4 [pr (rpF n L cap ts []), pr (rpF n L cap ts [])] = some (.bool true) := e_same_r 4 _ (tame_two (tame_int 2 _) (tame_ints 1 _ (by omega)))
  generalize rpF n L cap ts [] = z at *
  generalize (((reps n L cap ts []).map fun g => (-wth (lk L cap) g, g)).mergeSort (fun a b => !lt2r b a)).map pr = RL at *
  obtain ⟨z1, z2⟩ := z
  unfold lkT gotD
  unfold lkT at e1 e5
  unfold pr at *
  have i1 : ∀ a b : D, L2.atI [a, b] 0 = some a := fun _ _ => rfl
  have i2 : ∀ a b : D, L2.atI [a, b] 1 = some b := fun _ _ => rfl
  simp only at e2 e5 s1
  simp -implicitDefEqProofs [L_law_2, e1, e2, hat, hat2, e3, e4, e5, i1, i2, s1]
theorem tail10 (x0 x1 x2 x3 x4 x5 x6 x7 x8 x9 x10 x12 x13 x17 x18 x19 x20 x21 : Sl) :
    T10_law [x0, x1, x2, x3, x4, x5, x6, x7, x8, x9, x10, .im (lkT L), x12, x13, .im (rT ts), .im (gotD (rnL L ts)), .un, x17, x18, x19, x20, x21, .un, .un, .un, .un, .un, .un] = some (.rt (.bool true)) := by
  have k0 := fun x22 => one_cap hL hts hv 0 (.inl rfl) x0 x1 x2 x3 x4 x5 x6 x7 x8 x9 x10 x12 x13 x17 x18 x19 x20 x21 x22
  have k1 := fun x22 => one_cap hL hts hv 1 (.inr rfl) x0 x1 x2 x3 x4 x5 x6 x7 x8 x9 x10 x12 x13 x17 x18 x19 x20 x21 x22
  simp -implicitDefEqProofs [T10_law, forL, k0, k1]
end
end Hd
end

/-! part: K23q -/
section
set_option Elab.async false
set_option linter.all false
set_option maxRecDepth 100000
set_option maxHeartbeats 1000000
namespace Hd
open PySem PySem.Spec Q
section
variable {n : Nat} {L : Lk} (hL : okLL n L) (ns : List Int)
include hL
theorem tail9 (x1 x2 x3 x4 x5 x6 x7 x8 x10 x12 x13 x17 x18 x19 x20 x21 : Sl) :
    T9_law [.im (.list (ns.map .int)), x1, x2, x3, x4, x5, x6, x7, x8, .im (.int n), x10, .im (lkT L), x12, x13, .un, .un, .un, x17, x18, x19, x20, x21, .un, .un, .un, .un, .un, .un] = some (.rt (.bool true)) := by
  have hn2 := hL.sz
  have c9 : Ph__law_cell [.list (ns.map .int), .int 9] = some (.int (ns.getD 9 0)) := e_cell ns 9
  have rg := rg1_n (k := n) (by omega)
  obtain ⟨ts, hT⟩ : ∃ ts, ts = (List.range n).map fun (k : Nat) => ns.getD 9 0 / (1 + (k : Int)) % 2 := ⟨_, rfl⟩
  have hl : ts.length = n := by rw [hT]; simp
  have hv : ∀ c ∈ ts, c = 0 ∨ c = 1 := fun c hc => by
    rw [hT] at hc
    obtain ⟨k, _, rfl⟩ := List.mem_map.mp hc
    omega
  have hm : ((List.range n).map fun (k : Nat) => PyData.int (ns.getD 9 0 / (1 + (k : Int)) % 2)) = ts.map .int := by rw [hT, List.map_map]; rfl
  have e1 : Ph__law_honest [lkT L, rT ts] = some (gotD (rnL L ts)) := e_law_honest hL ts (by omega) hv _ (.inl rfl)
  have e2 := e_picked hL ts hl hv
  have e3 : Ph__law_listed 4 [rT ts] = some (lT ts) := e_listed ts (by omega)
  have s1 := gotD_same hL ts (by omega)
  have t := tail10 hL hl hv (.im (.list (ns.map .int))) x1 x2 x3 x4 x5 x6 x7 x8 (.im (.int n)) x10 x12 x13 x17 x18 x19 x20 x21
  generalize gotD (rnL L ts) = G at *
  generalize lkT L = LL at *
  simp -implicitDefEqProofs [T9_law, rg, c9]
  simp only [← List.getD_eq_getElem?_getD]
  rw [lcL_all (g := fun k : Nat => .int (ns.getD 9 0 / (1 + (k : Int)) % 2)) (by simp) (fun k hk => by
    have hk2 := List.mem_range.mp hk
    have f1 : fdivD (.int (ns.getD 9 0)) (.int (1 + (k : Int))) = some (.int (ns.getD 9 0 / (1 + (k : Int)))) := fdiv_pos (by omega) (by omega)
    simp only [List.getD_eq_getElem?_getD] at f1 ⊢
    simp -implicitDefEqProofs [f1]), Option.bind_some, lcB_small (by simp; omega), hm]
  simp -implicitDefEqProofs [e1, e3, e2, s1]
  exact t
theorem tail8 (x1 x2 x3 x4 x5 x6 x7 x8 x10 x17 x18 x19 x20 x21 : Sl) :
    T8_law [.im (.list (ns.map .int)), x1, x2, x3, x4, x5, x6, x7, x8, .im (.int n), x10, .im (lkT L), .im (rT (alt n)), .un, .un, .un, .un, x17, x18, x19, x20, x21, .un, .un, .un, .un, .un, .un] = some (.rt (.bool true)) := by
  have e0 := lkL_listed hL
  have e1 := e_honest hL _ (.inr rfl)
  have e2 : Ph__law_honest [lkT L, rT (alt n)] = some (gotD (rnL L (alt n))) := e_law_honest hL (alt n) (by simp [alt]) (fun c hc => by
    obtain ⟨i, _, rfl⟩ := List.mem_map.mp hc
    omega) _ (.inl rfl)
  have s1 := gotD_same hL (alt n) (by simp [alt])
  have n1 : neD (lkL L) (lkL L) = some (.bool false) := by
    have := (nice_lst (nice_lst nice_int)).ne (by decide) [L.1, L.2] [L.1, L.2]
    simpa [lkL] using this
  have t := tail9 hL ns x1 x2 x3 x4 x5 x6 x7 x8 x10 (.im (rT (alt n))) (.im (lkL L)) x17 x18 x19 x20 x21
  generalize gotD (rnL L (alt n)) = G at *
  generalize rT (alt n) = A at *
  generalize lkT L = LL at *
  generalize lkL L = LK at *
  simp -implicitDefEqProofs [T8_law, e0, e1, e2, s1, n1]
  exact t
end
theorem alt_rep {n : Nat} (hn : n = 2 ∨ n = 4 ∨ n = 6) : repGD (.tuple [.int 0, .int 1]) (.int ((n : Int) / 2)) = some (rT (alt n)) := by
  rcases hn with rfl | rfl | rfl <;> kernel_rfl
theorem tail7 (ns : List Int) {n : Nat} (hn : n = 2 ∨ n = 4 ∨ n = 6) (x1 x2 x3 x4 x5 x6 x7 x8 x17 x18 x19 x20 x21 : Sl) :
    T7_law [.im (.list (ns.map .int)), x1, x2, x3, x4, x5, x6, x7, x8, .im (.int n), .im (.list ((ordL n).map rT)), .un, .un, .un, .un, .un, .un, x17, x18, x19, x20, x21, .un, .un, .un, .un, .un, .un] = some (.rt (.bool true)) := by
  obtain ⟨h1, h2⟩ := ordL_ok hn
  have c7 : Ph__law_cell [.list (ns.map .int), .int 7] = some (.int (ns.getD 7 0)) := e_cell ns 7
  have c8 : Ph__law_cell [.list (ns.map .int), .int 8] = some (.int (ns.getD 8 0)) := e_cell ns 8
  have ar := alt_rep hn
  have t := fun L hL => tail8 (n := n) (L := L) hL ns x1 x2 x3 x4 x5 x6 x7 x8 (.im (.list ((ordL n).map rT))) x17 x18 x19 x20 x21
  generalize ordL n = O at *
  obtain ⟨a, ha1, ha2⟩ := mod_nat (ns.getD 7 0) (m := (O.length : Int)) (by omega)
  obtain ⟨b, hb1, hb2⟩ := mod_nat (ns.getD 8 0) (m := (O.length : Int)) (by omega)
  have m7 : modD (.int (ns.getD 7 0)) (.int (O.length : Int)) = some (.int a) := by rw [mod_pos (by omega), ha1]
  have m8 : modD (.int (ns.getD 8 0)) (.int (O.length : Int)) = some (.int b) := by rw [mod_pos (by omega), hb1]
  have hal : a < O.length := by omega
  have hbl : b < O.length := by omega
  have a7 : L2.atI (O.map rT) (a : Int) = some (rT O[a]) := by rw [atI_nat (by simpa using hal)]; simp [hal]
  have a8 : L2.atI (O.map rT) (b : Int) = some (rT O[b]) := by rw [atI_nat (by simpa using hbl)]; simp [hbl]
  have k7 := h1 _ (List.getElem_mem hal)
  have k8 := h1 _ (List.getElem_mem hbl)
  have tt := t (O[a], O[b]) ⟨hn, k7, k8⟩
  have f1 : fdivD (.int (n : Int)) (.int 2) = some (.int ((n : Int) / 2)) := fdiv_pos (by omega) (by omega)
  generalize O[a] = la at *
  generalize O[b] = lb at *
  generalize rT (alt n) = A at *
  simp only [List.getD_eq_getElem?_getD] at c7 c8 m7 m8
  simp -implicitDefEqProofs [T7_law, c7, m7, a7, c8, m8, a8, f1, ar]
  exact tt
theorem tail6 (ns : List Int) (x1 x2 x3 x4 x5 x6 x7 x8 x17 x18 x19 x20 x21 : Sl) :
    T6_law [.im (.list (ns.map .int)), x1, x2, x3, x4, x5, x6, x7, x8, .un, .un, .un, .un, .un, .un, .un, .un, x17, x18, x19, x20, x21, .un, .un, .un, .un, .un, .un] = some (.rt (.bool true)) := by
  have c6 : Ph__law_cell [.list (ns.map .int), .int 6] = some (.int (ns.getD 6 0)) := e_cell ns 6
  obtain ⟨a, ha1, ha2⟩ := mod_nat (ns.getD 6 0) (m := 3) (by decide)
  have m6 : modD (.int (ns.getD 6 0)) (.int 3) = some (.int a) := by rw [mod_pos (by decide), ha1]
  have ha : a = 0 ∨ a = 1 ∨ a = 2 := by omega
  have t := fun n hn => tail7 ns (n := n) hn x1 x2 x3 x4 x5 x6 x7 x8 x17 x18 x19 x20 x21
  simp only [List.getD_eq_getElem?_getD] at c6 m6
  have mu : mulI 2 (a : Int) = some (.int (2 * (a : Int))) := if_pos (.inl ⟨by omega, by omega⟩)
  have l2 : rgD 0 2 = (plc 2).map .int := rfl
  have l4 : rgD 0 4 = (plc 4).map .int := rfl
  have o2 := ord_2
  have o4 := ord_4
  have o6 := cyc_6
  rcases ha with rfl | rfl | rfl
  · have tt := t 2 (by decide)
    rw [show ordL 2 = ordF 2 2 from rfl] at tt
    generalize ordF 2 2 = O at *
    generalize plc 2 = P at *
    simp -implicitDefEqProofs [T6_law, c6, m6, l2, o2]
    exact tt
  · have tt := t 4 (by decide)
    rw [show ordL 4 = ordF 4 4 from rfl] at tt
    generalize ordF 4 4 = O at *
    generalize plc 4 = P at *
    simp -implicitDefEqProofs [T6_law, c6, m6, l4, o4]
    exact tt
  · have tt := t 6 (by decide)
    rw [show ordL 6 = cycF 6 from rfl] at tt
    generalize cycF 6 = O at *
    simp -implicitDefEqProofs [T6_law, c6, m6, o6]
    exact tt
end Hd
end

/-! part: K23r -/
section
set_option Elab.async false
set_option linter.all false
set_option maxRecDepth 100000
set_option maxHeartbeats 1000000
namespace Hd
open PySem PySem.Spec Q
theorem hi_mem (l : List Int) : hi l = -1 ∨ hi l ∈ l := by
  refine snoc_ind (p := fun l => hi l = -1 ∨ hi l ∈ l) (.inl rfl) (fun l a ih => ?_) l
  rw [hi_snoc]
  by_cases c : a ≤ hi l
  · rw [Int.max_eq_left c]
    exact ih.imp id fun h => List.mem_append_left _ h
  · rw [Int.max_eq_right (by omega)]
    exact .inr (by simp)
theorem hi_le {l l' : List Int} (h : ∀ x ∈ l, x ∈ l') : hi l ≤ hi l' := by
  rcases hi_mem l with e | e
  · rw [e]; exact (hi_ge l').1
  · exact (hi_ge l').2 _ (h _ e)
theorem hi_rev (l : List Int) : hi l.reverse = hi l := Int.le_antisymm (hi_le fun x hx => List.mem_reverse.mp hx) (hi_le fun x hx => List.mem_reverse.mpr hx)
theorem same_r (l : List Int) (h : l.length ≤ 1000) : Ph__law_same 4 [rT l, rT l] = some (.bool true) := e_same_r 4 _ (tame_ints 2 l h)
theorem same_b (b : Bool) : Ph__law_same 4 [.bool b, .bool b] = some (.bool true) := e_same_r 4 _ (by cases b <;> rfl)
theorem ne_bb (a b : Bool) : neD (.bool a) (.bool b) = some (.bool (!(a == b))) := by cases a <;> cases b <;> kernel_rfl
theorem swp_eq (r : List Int) (i j : Nat) (hi' : i < r.length) (hj : j < r.length) (hij : i ≠ j) : (List.range r.length).map (fun k : Nat => if (k : Int) = i then r.getD j 0 else if (k : Int) = j then r.getD i 0 else r.getD k 0) = swpL r i j := by
  unfold swpL
  apply List.ext_getElem
  · simp
  · intro k h1 h2
    simp only [List.length_map, List.length_range] at h1
    rw [List.getElem_map, List.getElem_range, List.getElem_set, List.getElem_set]
    by_cases c1 : k = i
    · subst c1
      have : ¬ j = k := fun z => hij z.symm
      rw [if_pos rfl, if_neg this, if_pos rfl]
    · have c1' : ¬ (k : Int) = i := by omega
      have c1'' : ¬ i = k := fun z => c1 z.symm
      rw [if_neg c1']
      by_cases c2 : k = j
      · subst c2
        rw [if_pos rfl, if_pos rfl]
      · have c2' : ¬ (k : Int) = j := by omega
        have c2'' : ¬ j = k := fun z => c2 z.symm
        rw [if_neg c2', if_neg c2'', if_neg c1'', List.getD_eq_getElem?_getD, List.getElem?_eq_getElem h1]
        rfl
section
variable {size teams : Nat} (hs : 2 ≤ size ∧ size ≤ 6) (ht : 2 ≤ teams ∧ teams ≤ 3) {S : List Int} (hS : okK size S) (ns : List Int)
include hs ht hS
theorem one_split (r : List Int) (hr : r ∈ splits size teams) (x4 x5 x6 x7 x17 x18 x19 x20 x21 : Sl) :
    ∃ y17 y18 y19 y20 y21, L_law_1 [.im (.list (ns.map .int)), .im (rT S), .im (.int teams), .im (.list ((splits size teams).map rT)), x4, x5, x6, x7, .im (rT r), .un, .un, .un, .un, .un, .un, .un, .un, x17, x18, x19, x20, x21, .un, .un, .un, .un, .un, .un]
      = some (.nx [.im (.list (ns.map .int)), .im (rT S), .im (.int teams), .im (.list ((splits size teams).map rT)), x4, x5, x6, x7, .im (rT r), .un, .un, .un, .un, .un, .un, .un, .un, y17, y18, y19, y20, y21, .un, .un, .un, .un, .un, .un]) := by
  obtain ⟨h1, h2, h3⟩ := (splits_mem size teams hs ht r).mp hr
  have hn := hS.n
  have hV : okV size teams r := ⟨h1, h2.lo⟩
  have hVr : okV size teams r.reverse := ⟨by rw [List.length_reverse]; exact h1, fun x hx => h2.lo x (List.mem_reverse.mp hx)⟩
  have e0 : Ph__law_listed 4 [rT r] = some (lT r) := e_listed r (by omega)
  have e1 := e_is_split hs ht hV hS h3 _ (.inr rfl)
  simp only [hr, decide_true] at e1
  have e2 := e_is_split hs ht hVr hS (by rw [hi_rev]; exact h3) _ (.inl rfl)
  have e3 := nice_r.in_l (by decide) r.reverse (splits size teams)
  have e4 := e_strengths hs ht hS hr _ rfl
  have e5 := e_law_sums hs ht hS hr
  have e6 := e_even_sizes hs ht hr
  have e7 := e_law_sizes hs ht hr
  have sl : (sms S r teams).length ≤ 1000 := by simp [sms]; omega
  have s1 := same_r (sms S r teams) sl
  have s2 := same_b (szB r)
  have c4 : Ph__law_cell [.list (ns.map .int), .int 4] = some (.int (ns.getD 4 0)) := e_cell ns 4
  have c5 : Ph__law_cell [.list (ns.map .int), .int 5] = some (.int (ns.getD 5 0)) := e_cell ns 5
  obtain ⟨i, hi1, hi2⟩ := mod_nat (ns.getD 4 0) (m := (size : Int)) (by omega)
  obtain ⟨q, hq1, hq2⟩ := mod_nat (ns.getD 5 0) (m := (size : Int) - 1) (by omega)
  obtain ⟨j, hj1, hj2⟩ := mod_nat ((i : Int) + 1 + q) (m := (size : Int)) (by omega)
  have m4 : modD (.int (ns.getD 4 0)) (.int (size : Int)) = some (.int i) := by rw [mod_pos (by omega), hi1]
  have m5 : modD (.int (ns.getD 5 0)) (.int ((size : Int) - 1)) = some (.int q) := by rw [mod_pos (by omega), hq1]
  have m6 : modD (.int ((i : Int) + 1 + q)) (.int (size : Int)) = some (.int j) := by rw [mod_pos (by omega), hj1]
  have hil : i < size := by omega
  have hjl : j < size := by omega
  have hij : i ≠ j := by
    intro z
    subst z
    have : size = 2 ∨ size = 3 ∨ size = 4 ∨ size = 5 ∨ size = 6 := by omega
    rcases this with rfl | rfl | rfl | rfl | rfl <;> omega
  have rg := rg1_n (k := size) (by omega)
  have at_ : ∀ k : Nat, k < size → L2.atI (r.map PyData.int) (k : Int) = some (.int (r.getD k 0)) := fun k hk => by
    have := at_i r (i := (k : Int)) (by omega) (by omega)
    simpa using this
  have ai := at_ i hil
  have aj := at_ j hjl
  -- turned
  obtain ⟨tu, htu⟩ : ∃ tu, tu = r.map fun t => (teams : Int) - 1 - t := ⟨_, rfl⟩
  have hVt : okV size teams tu := ⟨by rw [htu, List.length_map]; exact h1, fun x hx => by
    rw [htu] at hx
    obtain ⟨y, hy, rfl⟩ := List.mem_map.mp hx
    have := h2.lo y hy
    omega⟩
  have mtu : (r.map fun t => PyData.int ((teams : Int) - 1 - t)) = tu.map .int := by rw [htu, List.map_map]; rfl
  have f1 := e_renamed hs ht hVt
  have f2 := e_law_named tu (by have := hVt.n; omega)
  have s3 := same_r (nmd tu) (by unfold nmd; rw [List.length_map]; have := hVt.n; omega)
  -- swapped
  have f3 := e_swapped hs ht hr i j hil hjl
  have hswl : (swpL r i j).length = size := by unfold swpL; simp [h1]
  have f4 := e_law_named (swpL r i j) (by omega)
  have s4 := same_r (nmd (swpL r i j)) (by unfold nmd; rw [List.length_map]; omega)
  have msw : ((List.range size).map fun k : Nat => PyData.int (if (k : Int) = i then r.getD j 0 else if (k : Int) = j then r.getD i 0 else r.getD k 0)) = (swpL r i j).map .int := by
    rw [← swp_eq r i j (by omega) (by omega) hij, h1, List.map_map]
    rfl
  -- joined
  have f5 := e_joined hs ht hr
  obtain ⟨wh, hwh⟩ : ∃ wh, wh = r.map fun t => if t = (teams : Int) - 1 then 0 else t := ⟨_, rfl⟩
  rw [← hwh] at f5
  have hwl : wh.length = size := by rw [hwh, List.length_map]; exact h1
  have f6 := e_law_named wh (by omega)
  have s5 := same_r (nmd wh) (by unfold nmd; rw [List.length_map]; omega)
  have mwh : (r.map fun t => PyData.int (if t = (teams : Int) - 1 then 0 else t)) = wh.map .int := by rw [hwh, List.map_map]; rfl
  have hrev : (r.map PyData.int).reverse = r.reverse.map .int := List.map_reverse.symm
  refine ⟨.im (rT tu), .im (.int i), .im (.int j), .im (rT (swpL r i j)), .im (rT wh), ?_⟩
  have n1 := ne_bb (decide (r.reverse ∈ splits size teams)) (decide (r.reverse ∈ splits size teams))
  have e3' : inD (rT r.reverse) (.list ((splits size teams).map rT)) = some (.bool (decide (r.reverse ∈ splits size teams))) := by
    by_cases c : r.reverse ∈ splits size teams
    · simp only [c, decide_true] at e3 ⊢
      exact e3
    · simp only [c, decide_false] at e3 ⊢
      exact e3
  generalize decide (r.reverse ∈ splits size teams) = bb at *
  generalize splits size teams = SP at *
  generalize swpL r i j = sw at *
  generalize sms S r teams = sm at *
  generalize r.reverse = rr at *
  have hR : rT rr = .tuple (rr.map .int) := rfl
  simp only [List.getD_eq_getElem?_getD] at c4 c5 m4 m5
  simp -implicitDefEqProofs only [L_law_1]
  simp -implicitDefEqProofs [e0, e1, hrev, e2, e3', n1, e4, e5, s1, e6, e7, s2]
  rw [lcL_all (g := fun t => .int ((teams : Int) - 1 - t)) (by simp) (fun t _ => by simp), Option.bind_some, lcB_small (by rw [List.length_map]; omega), mtu]
  simp -implicitDefEqProofs [c4, c5, h1, m4, m5, m6, rg]
  rw [lcL_all (g := fun k : Nat => .int (if (k : Int) = i then r.getD j 0 else if (k : Int) = j then r.getD i 0 else r.getD k 0)) (by simp) (fun k hk => by
    have hk2 := List.mem_range.mp hk
    have ak := at_ k hk2
    simp only [List.getD_eq_getElem?_getD] at ai aj ak ⊢
    by_cases d1 : (k : Int) = i
    · simp -implicitDefEqProofs [d1, aj]
    · by_cases d2 : (k : Int) = j
      · have d1' : ¬ (j : Int) = i := by omega
        simp -implicitDefEqProofs [d2, d1', ai]
      · simp -implicitDefEqProofs [d1, d2, ak]), Option.bind_some, lcB_small (by simp; omega), msw]
  simp -implicitDefEqProofs
  rw [lcL_all (g := fun t => .int (if t = (teams : Int) - 1 then 0 else t)) (by simp) (fun t _ => by
    by_cases c : t = (teams : Int) - 1 <;> simp [c]), Option.bind_some, lcB_small (by rw [List.length_map]; omega), mwh]
  simp -implicitDefEqProofs [f1, f2, s3, f3, f4, s4, f5, f6, s5]
end
end Hd
end

/-! part: K23s -/
section
set_option Elab.async false
set_option linter.all false
set_option maxRecDepth 100000
set_option maxHeartbeats 1000000
namespace Hd
open PySem PySem.Spec Q
section
variable {size teams : Nat} (hs : 2 ≤ size ∧ size ≤ 6) (ht : 2 ≤ teams ∧ teams ≤ 3) {S : List Int} (hS : okK size S) (ns : List Int)
include hs ht hS
theorem tail5 (x4 x5 x6 x7 : Sl) :
    T5_law [.im (.list (ns.map .int)), .im (rT S), .im (.int teams), .im (.list ((splits size teams).map rT)), x4, x5, x6, x7, .un, .un, .un, .un, .un, .un, .un, .un, .un, .un, .un, .un, .un, .un, .un, .un, .un, .un, .un, .un] = some (.rt (.bool true)) := by
  have k1 := fun r hr => one_split hs ht hS ns r hr x4 x5 x6 x7
  have t := fun x8 x17 x18 x19 x20 x21 => tail6 ns (.im (rT S)) (.im (.int teams)) (.im (.list ((splits size teams).map rT))) x4 x5 x6 x7 x8 x17 x18 x19 x20 x21
  have hsm := splits_small size teams hs ht
  generalize hSP : splits size teams = SP at *
  have c1 : cutL (SP.map rT) none (some 2) = (SP.take 2).map rT := by rw [cutL_to _ (by decide), List.map_take]; rfl
  have c2 : cutL (SP.map rT) (some (-2)) none = (SP.drop (-2 + (SP.length : Int)).toNat).map rT := by rw [cutL_last _ (by decide), List.map_drop, List.length_map]
  have hsz : (SP.take 2).length + (SP.drop (-2 + (SP.length : Int)).toNat).length ≤ sizeLine := by
    have := line_ge
    rw [List.length_drop]
    have := List.length_take_le 2 SP
    omega
  have hsub : ∀ r ∈ SP.take 2 ++ SP.drop (-2 + (SP.length : Int)).toNat, r ∈ SP := fun r hr => by
    rcases List.mem_append.mp hr with h | h
    · exact List.mem_of_mem_take h
    · exact List.mem_of_mem_drop h
  generalize SP.take 2 = A at *
  generalize SP.drop (-2 + (SP.length : Int)).toNat = B at *
  obtain ⟨ρ', h1, y8, y17, y18, y19, y20, y21, h2⟩ := forL_all (step := turnD (sN 8) L_law_1) (xs := A ++ B) (mk := rT)
    (fun _ (ρ : Rho) => ∃ y8 y17 y18 y19 y20 y21, ρ = [.im (.list (ns.map .int)), .im (rT S), .im (.int teams), .im (.list (SP.map rT)), x4, x5, x6, x7, y8, .un, .un, .un, .un, .un, .un, .un, .un, y17, y18, y19, y20, y21, .un, .un, .un, .un, .un, .un])
    [.im (.list (ns.map .int)), .im (rT S), .im (.int teams), .im (.list (SP.map rT)), x4, x5, x6, x7, .un, .un, .un, .un, .un, .un, .un, .un, .un, .un, .un, .un, .un, .un, .un, .un, .un, .un, .un, .un] ⟨.un, .un, .un, .un, .un, .un, rfl⟩ (by
    rintro pre post ρ r ⟨y8, y17, y18, y19, y20, y21, rfl⟩ hx
    have hr := hsub r (by rw [hx]; simp)
    obtain ⟨z17, z18, z19, z20, z21, e⟩ := k1 r hr y17 y18 y19 y20 y21
    refine ⟨[.im (.list (ns.map .int)), .im (rT S), .im (.int teams), .im (.list (SP.map rT)), x4, x5, x6, x7, .im (rT r), .un, .un, .un, .un, .un, .un, .un, .un, z17, z18, z19, z20, z21, .un, .un, .un, .un, .un, .un], .inl ?_, _, _, _, _, _, _, rfl⟩
    simp -implicitDefEqProofs [e])
  have h3 : (A ++ B).map rT = A.map rT ++ B.map rT := List.map_append
  rw [h3] at h1
  simp -implicitDefEqProofs [T5_law, c1, c2, hsz, h1]
  subst h2
  simp -implicitDefEqProofs [t]
theorem tail4 (s0 : Int) (w : List Int) (hw : s0 :: w = S) (x4 x5 : Sl) :
    T4_law [.im (.list (ns.map .int)), .im (rT S), .im (.int teams), .im (.list ((splits size teams).map rT)), x4, x5, .im (.tuple ((tabC s0 w).map rT)), .un, .un, .un, .un, .un, .un, .un, .un, .un, .un, .un, .un, .un, .un, .un, .un, .un, .un, .un, .un, .un] = some (.rt (.bool true)) := by
  have t := fun x7 => tail5 hs ht hS ns x4 x5 (.im (.tuple ((tabC s0 w).map rT))) x7
  have hw5 : w.length ≤ 5 := by have := hS.n; rw [← hw] at this; simp at this; omega
  have c3 : Ph__law_cell [.list (ns.map .int), .int 3] = some (.int (ns.getD 3 0)) := e_cell ns 3
  have hl := tab_len s0 w
  obtain ⟨k, hk1, hk2⟩ := mod_nat (ns.getD 3 0) (m := ((tabC s0 w).length : Int)) (by omega)
  have hmod : modD (.int (ns.getD 3 0)) (.int ((tabC s0 w).length : Int)) = some (.int k) := by rw [mod_pos (by omega), hk1]
  have hrows : ∀ r ∈ tabC s0 w, r.length ≤ 32 := fun r hr => Nat.le_trans (tab_small s0 w r hr) (Nat.pow_le_pow_right (n := 2) (by decide) hw5)
  have hne := tab_ne s0 w
  have hold := fun d => e_chart_holds s0 w hw5 hs (hw.symm ▸ hS) d
  rw [hw] at hold
  have hno : ∀ T : List (List Int), T.length ≤ 1000 → (∀ r ∈ T, r.length ≤ 1000) → T ≠ tabC s0 w → Ph_chart_holds [rT S, .tuple (T.map rT)] = some (.bool false) := fun T h1 h2 h3 => by
    rw [hold, told_rows T (tabC s0 w) _ (.inl rfl) h1 h2]
    simp [h3]
  have h7 : Ph_chart_holds [rT S, .int 7] = some (.bool false) := by rw [hold, told_7]
  generalize tabC s0 w = T at *
  have hkT : k < T.length := by omega
  have gm : T.getD k [] ∈ T := by
    rw [List.getD_eq_getElem?_getD, List.getElem?_eq_getElem hkT]
    exact List.getElem_mem hkT
  have hsp : T = T.take k ++ T.getD k [] :: T.drop (k + 1) := by
    rw [List.getD_eq_getElem?_getD, List.getElem?_eq_getElem hkT]
    simp
  generalize hr : T.getD k [] = r at *
  have hrl := hrows r gm
  have hrn := hne r gm
  have hat : L2.atI (T.map rT) (k : Int) = some (rT r) := by rw [← hr]; exact at_mk T [] hkT
  have ct : cutL (T.map rT) none (some (k : Int)) = (T.take k).map rT := by rw [cutL_to _ (by omega), List.map_take]; rfl
  have cd : cutL (T.map rT) (some ((k : Int) + 1)) none = (T.drop (k + 1)).map rT := by
    rw [cutL_from _ (by omega), List.map_drop]
    have : ((k : Int) + 1).toNat = k + 1 := by omega
    rw [this]
  have c1 : cutL (T.map rT) (some 1) none = (T.drop 1).map rT := by rw [cutL_from _ (by omega), List.map_drop]; rfl
  have c1r : cutL (r.map .int) (some 1) none = (r.drop 1).map .int := by rw [cutL_from _ (by omega), List.map_drop]; rfl
  have f1 : Ph_chart_holds [rT S, .tuple ((T.drop 1).map rT)] = some (.bool false) := hno _ (by simp; omega) (fun x hx => Nat.le_trans (hrows x (List.mem_of_mem_drop hx)) (by decide)) fun z => by
    have := congrArg List.length z
    simp at this
    omega
  have alt : ∀ r' : List Int, r'.length ≤ 1000 → r' ≠ r → Ph_chart_holds [rT S, .tuple ((T.take k ++ r' :: T.drop (k + 1)).map rT)] = some (.bool false) := fun r' h1 h2 => hno _ (by simp; omega) (fun x hx => by
      rcases List.mem_append.mp hx with hx | hx
      · exact Nat.le_trans (hrows x (List.mem_of_mem_take hx)) (by decide)
      · rcases List.mem_cons.mp hx with rfl | hx
        · exact h1
        · exact Nat.le_trans (hrows x (List.mem_of_mem_drop hx)) (by decide)) fun z => by
    have z2 := List.append_cancel_left (z.trans hsp)
    exact h2 (by injection z2)
  have f2 := alt (r ++ [9999]) (by simp; omega) (fun z => by have := congrArg List.length z; simp at this)
  have f3 := alt (r.drop 1) (by simp; omega) (fun z => by
    have := congrArg List.length z
    have hp : 0 < r.length := List.length_pos_iff.mpr hrn
    simp at this
    omega)
  have hb := line_ge
  have s1 : r.length + 1 ≤ sizeLine := by omega
  have s2 : min k T.length + 1 ≤ sizeLine := by omega
  have s3 : min k T.length + 1 + (T.length - (k + 1)) ≤ sizeLine := by omega
  simp -implicitDefEqProofs at f1 f2 f3
  rw [show rT (r ++ [9999]) = .tuple (r.map .int ++ [.int 9999]) from by simp] at f2
  rw [show rT r.tail = .tuple (r.map .int).tail from by rw [rT, List.map_tail]] at f3
  generalize splits size teams = SP at *
  simp -implicitDefEqProofs [T4_law, c3]
  simp only [List.getD_eq_getElem?_getD] at hmod
  simp -implicitDefEqProofs [hmod, hat, ct, cd, c1, c1r, s1, s2, s3]
  rw [lcL_no (fun d hd => by
    simp only [List.mem_cons, List.not_mem_nil, or_false] at hd
    rcases hd with rfl | rfl | rfl | rfl
    · simp [h7]
    · simp [f1]
    · show ((Ph_chart_holds [rT S, _]).bind fun x => notBD x (.bool false)).bind boolD = _
      rw [f2]
      rfl
    · show ((Ph_chart_holds [rT S, _]).bind fun x => notBD x (.bool false)).bind boolD = _
      rw [f3]
      rfl)]
  have l0 : lcB [] = some (.list []) := lcB_small (by simp)
  have l1 : neD (.list []) (.list []) = some (.bool false) := ne_l0 []
  simp -implicitDefEqProofs [l0, l1]
  exact t _
theorem tail3 (x4 x5 : Sl) :
    T3_law [.im (.list (ns.map .int)), .im (rT S), .im (.int teams), .im (.list ((splits size teams).map rT)), x4, x5, .un, .un, .un, .un, .un, .un, .un, .un, .un, .un, .un, .un, .un, .un, .un, .un, .un, .un, .un, .un, .un, .un] = some (.rt (.bool true)) := by
  have hn := hS.n
  obtain ⟨s0, w, hw⟩ : ∃ s0 w, s0 :: w = S := by
    cases S with
    | nil => simp at hn; omega
    | cons a l => exact ⟨a, l, rfl⟩
  have t := tail4 hs ht hS ns s0 w hw x4 x5
  have hw5 : w.length ≤ 5 := by rw [← hw] at hn; simp at hn; omega
  have e1 := e_law_chart s0 w hw5
  have e2 := e_chart s0 w hw5 hs (hw.symm ▸ hS) _ (.inl rfl)
  have hold := fun d => e_chart_holds s0 w hw5 hs (hw.symm ▸ hS) d
  have hl := tab_len s0 w
  have hrows : ∀ r ∈ tabC s0 w, r.length ≤ 32 := fun r hr => Nat.le_trans (tab_small s0 w r hr) (Nat.pow_le_pow_right (n := 2) (by decide) hw5)
  have tm : tame 4 (.tuple ((tabC s0 w).map rT)) = true := by
    simp only [tame, List.length_map, Bool.and_eq_true, decide_eq_true_eq, List.all_eq_true]
    refine ⟨by omega, fun d hd => ?_⟩
    obtain ⟨r, hr, rfl⟩ := List.mem_map.mp hd
    exact tame_ints 1 r (by have := hrows r hr; omega)
  have e4 : Ph__law_listed 4 [.tuple ((tabC s0 w).map rT)] = some (.list ((tabC s0 w).map lT)) := by rw [e_listed_g 4 _ tm, lstd_mk fun r => lstd_ints 1 r]
  have hs1 := e_same_r 4 _ tm
  have e5 : Ph_chart_holds [rT (s0 :: w), .list ((tabC s0 w).map lT)] = some (.bool true) := by
    rw [hold, told_rows (tabC s0 w) (tabC s0 w) _ (.inr rfl) (by omega) (fun r hr => Nat.le_trans (hrows r hr) (by decide))]
    simp
  rw [hw] at e1 e2 e5
  generalize tabC s0 w = T at *
  generalize splits size teams = SP at *
  simp -implicitDefEqProofs [T3_law, e1, e2, hs1, e4, e5]
  exact t
end
end Hd
end

/-! part: K23t -/
section
set_option Elab.async false
set_option linter.all false
set_option maxRecDepth 100000
set_option maxHeartbeats 1000000
namespace Hd
open PySem PySem.Spec Q
theorem ne_2r (l : List (Int × List Int)) : neD (.list (l.map pr)) (.list []) = some (.bool (!decide (l = []))) := (nice_lst nice_2r).ne (by decide) l []
theorem rnk_mem (g : List Int → Int) (L : List (List Int)) : ∀ p ∈ rnk g L, p.2 ∈ L ∧ p.1 = g p.2 := fun p hp => by
  unfold rnk at hp
  rw [List.mem_mergeSort] at hp
  obtain ⟨r, hr, rfl⟩ := List.mem_map.mp hp
  exact ⟨hr, rfl⟩
theorem rnk_len (g : List Int → Int) (L : List (List Int)) : (rnk g L).length = L.length := by unfold rnk; rw [List.length_mergeSort, List.length_map]
theorem rnk_cnt (g : List Int → Int) (L : List (List Int)) (m : Int) : ((rnk g L).filter fun p => p.1 == m).length = (L.map g).count m := by
  unfold rnk
  have h := ((List.mergeSort_perm (L.map fun r => (g r, r)) fun a b => !lt2r b a).filter fun p => p.1 == m).length_eq
  rw [h, List.filter_map, List.length_map, List.count_eq_countP, List.countP_map, List.countP_eq_length_filter]
  rfl
theorem pr_i0 (p : Int × List Int) : ixD (pr p) (.int 0) = some (.int p.1) := rfl
theorem pr_i1 (p : Int × List Int) : ixD (pr p) (.int 1) = some (rT p.2) := rfl
section
variable {size teams : Nat} (hs : 2 ≤ size ∧ size ≤ 6) (ht : 2 ≤ teams ∧ teams ≤ 3) {S : List Int} (hS : okK size S) (ns : List Int)
include hs ht hS
theorem tail2 (x5 : Sl) :
    T2_law [.im (.list (ns.map .int)), .im (rT S), .im (.int teams), .im (.list ((splits size teams).map rT)), .im (.list ((rnk (fun r => gp S r teams) (splits size teams)).map pr)), x5, .un, .un, .un, .un, .un, .un, .un, .un, .un, .un, .un, .un, .un, .un, .un, .un, .un, .un, .un, .un, .un, .un] = some (.rt (.bool true)) := by
  have t := tail3 hs ht hS ns (.im (.list ((rnk (fun r => gp S r teams) (splits size teams)).map pr))) x5
  have e1 := e_many_even hs ht hS _ (.inl rfl)
  have hh := rnk_head (fun r => gp S r teams) (splits size teams) (splits_pw size teams hs ht)
  have hc := rnk_cnt (fun r => gp S r teams) (splits size teams)
  have hsm := splits_small size teams hs ht
  have hl := rnk_len (fun r => gp S r teams) (splits size teams)
  have hs1 := fun m : Nat => e_same_r 4 (.int (m : Int)) rfl
  have hmn : mnyE (fun r => gp S r teams) (splits size teams) = match (rnk (fun r => gp S r teams) (splits size teams)).head? with
    | none => 0
    | some p => ((rnk (fun r => gp S r teams) (splits size teams)).filter fun q => q.1 == p.1).length := by
    rw [hh]
    unfold mnyE
    cases bst (fun r => gp S r teams) (splits size teams) with
    | none => rfl
    | some p => exact (hc p.1).symm
  rw [hmn] at e1
  clear hmn hc hh
  generalize rnk (fun r => gp S r teams) (splits size teams) = RK at *
  generalize splits size teams = SP at *
  cases RK with
  | nil =>
    have l0 : lcB [] = some (.list []) := lcB_small (by simp)
    have := hs1 0
    simp -implicitDefEqProofs at e1 this t
    simp -implicitDefEqProofs [T2_law, e1, lcL, l0, this]
    exact t
  | cons p ps =>
    have i0 : L2.atI ((p :: ps).map pr) 0 = some (pr p) := atI_nat (n := 0) (by simp)
    have hfl := List.length_filter_le (fun q : Int × List Int => q.1 == p.1) (p :: ps)
    have hs2 := hs1 ((p :: ps).filter fun q => q.1 == p.1).length
    rw [List.head?_cons] at e1
    generalize hR : (p :: ps) = RK at *
    simp -implicitDefEqProofs only [T2_law]
    simp -implicitDefEqProofs [e1]
    rw [lcL_map (p := fun q => q.1 == p.1) (g := pr) (fun q hq => by simp -implicitDefEqProofs [pr_i0, i0]) (fun q hq _ => by simp), Option.bind_some, lcB_small (by rw [List.length_map]; omega)]
    simp -implicitDefEqProofs [hs2]
    exact t
theorem tail1 :
    T1_law [.im (.list (ns.map .int)), .im (rT S), .im (.int teams), .im (.list ((splits size teams).map rT)), .un, .un, .un, .un, .un, .un, .un, .un, .un, .un, .un, .un, .un, .un, .un, .un, .un, .un, .un, .un, .un, .un, .un, .un] = some (.rt (.bool true)) := by
  have hn := hS.n
  have t := fun x5 => tail2 hs ht hS ns x5
  have hh := rnk_head (fun r => gp S r teams) (splits size teams) (splits_pw size teams hs ht)
  have hh2 := rnk_head (fun r => gp S r teams) ((splits size teams).filter szB) ((splits_pw size teams hs ht).filter _)
  have hf := rnk_filter (fun r => gp S r teams) szB (splits size teams)
  have hsm := splits_small size teams hs ht
  have hl := rnk_len (fun r => gp S r teams) (splits size teams)
  have hmem := rnk_mem (fun r => gp S r teams) (splits size teams)
  have es := sorted_tup nice_2r (by decide) ordd_2r (fun a => ⟨_, _, rfl⟩) ((splits size teams).map fun r => (gp S r teams, r)) _ (.inl rfl)
  have hrk : (((splits size teams).map fun r => (gp S r teams, r)).mergeSort fun a b => !lt2r b a) = rnk (fun r => gp S r teams) (splits size teams) := rfl
  rw [hrk] at es
  have hmap : ((splits size teams).map fun r => pr (gp S r teams, r)) = ((splits size teams).map fun r => (gp S r teams, r)).map pr := by rw [List.map_map]; rfl
  rw [← hmap] at es
  have e0 : Ph__law_listed 4 [rT S] = some (lT S) := e_listed S (by omega)
  have e1 := e_even hs ht hS _ (.inr rfl)
  have e2 := e_alike hs ht hS _ (.inl rfl)
  rw [← hh] at e1
  rw [← hh2, ← hf] at e2
  have e3 := fun r (hr : r ∈ splits size teams) => e_law_gap hs ht hS hr
  have e4 := fun r (hr : r ∈ splits size teams) => e_law_sizes hs ht hr
  have hlen : ∀ p ∈ rnk (fun r => gp S r teams) (splits size teams), p.2.length ≤ 6 := fun p hp => by
    have := ((splits_mem size teams hs ht p.2).mp (hmem p hp).1).1
    omega
  have smP : ∀ o : Option (Int × List Int), (∀ p, o = some p → p.2.length ≤ 6) → Ph__law_same 4 [optP o, optP o] = some (.bool true) := fun o ho => e_same_r 4 _ (by
    cases o with
    | none => rfl
    | some p => exact tame_two (tame_int 2 _) (tame_ints 1 _ (by have := ho p rfl; omega)))
  have ho : ∀ l : List (Int × List Int), (if (!decide (l = [])) = true then L2.atI (l.map pr) 0 else some .none) = some (optP l.head?) := fun l => by
    cases l with
    | nil => rfl
    | cons p ps =>
      have i0 : L2.atI (pr p :: ps.map pr) 0 = some (pr p) := atI_nat (n := 0) (by simp)
      simpa [optP] using i0
  clear hh hh2 hf
  simp -implicitDefEqProofs only [T1_law]
  simp -implicitDefEqProofs
  rw [lcL_all (g := fun r => pr (gp S r teams, r)) (by simp) (fun r hr => by simp [e3 r hr, pr]), Option.bind_some, lcB_small (by rw [List.length_map]; omega)]
  simp -implicitDefEqProofs only [Option.bind_some]
  rw [es]
  simp -implicitDefEqProofs
  rw [lcL_map (p := fun p => szB p.2) (g := pr) (fun p hp => by
    have := e4 _ (hmem p hp).1
    simp -implicitDefEqProofs [pr_i1, this]) (fun p hp _ => by simp), Option.bind_some, lcB_small (by
      rw [List.length_map]
      have := List.length_filter_le (fun p : Int × List Int => szB p.2) (rnk (fun r => gp S r teams) (splits size teams))
      omega)]
  have hlf : ∀ p ∈ (rnk (fun r => gp S r teams) (splits size teams)).filter (fun p => szB p.2), p.2.length ≤ 6 := fun p hp => hlen p (List.mem_filter.mp hp).1
  generalize (rnk (fun r => gp S r teams) (splits size teams)).filter (fun p => szB p.2) = FR at *
  generalize rnk (fun r => gp S r teams) (splits size teams) = RK at *
  have s1 := smP RK.head? fun p hp => hlen p (List.mem_of_mem_head? hp)
  have s2 := smP FR.head? fun p hp => hlf p (List.mem_of_mem_head? hp)
  have n1 := ne_2r RK
  have n2 := ne_2r FR
  have o1 := ho RK
  have o2 := ho FR
  generalize splits size teams = SP at *
  have tt := t (.im (.list (FR.map pr)))
  cases RK with
  | nil =>
    cases FR with
    | nil =>
      simp -implicitDefEqProofs [optP] at e1 e2 s1 s2 n1 n2
      simp -implicitDefEqProofs [e0, e1, n1, s1, e2, n2, s2]
      exact tt
    | cons q qs =>
      have i0 : L2.atI (pr q :: qs.map pr) 0 = some (pr q) := atI_nat (n := 0) (by simp)
      simp -implicitDefEqProofs [optP] at e1 e2 s1 s2 n1 n2
      simp -implicitDefEqProofs [e0, e1, n1, s1, e2, n2, s2, i0]
      exact tt
  | cons p ps =>
    have j0 : L2.atI (pr p :: ps.map pr) 0 = some (pr p) := atI_nat (n := 0) (by simp)
    cases FR with
    | nil =>
      simp -implicitDefEqProofs [optP] at e1 e2 s1 s2 n1 n2
      simp -implicitDefEqProofs [e0, e1, n1, s1, e2, n2, s2, j0]
      exact tt
    | cons q qs =>
      have i0 : L2.atI (pr q :: qs.map pr) 0 = some (pr q) := atI_nat (n := 0) (by simp)
      simp -implicitDefEqProofs [optP] at e1 e2 s1 s2 n1 n2
      simp -implicitDefEqProofs [e0, e1, n1, s1, e2, n2, s2, i0, j0]
      exact tt
end
theorem e_law (ns : List Int) : Ph_law [.list (ns.map .int)] = some (.bool true) := by
  have c1 : Ph__law_cell [.list (ns.map .int), .int 1] = some (.int (ns.getD 1 0)) := e_cell ns 1
  have c2 : Ph__law_cell [.list (ns.map .int), .int 2] = some (.int (ns.getD 2 0)) := e_cell ns 2
  obtain ⟨a, ha1, ha2⟩ := mod_nat (ns.getD 1 0) (m := 5) (by decide)
  obtain ⟨b, hb1, hb2⟩ := mod_nat (ns.getD 2 0) (m := 2) (by decide)
  have m1 : modD (.int (ns.getD 1 0)) (.int 5) = some (.int a) := by rw [mod_pos (by decide), ha1]
  have m2 : modD (.int (ns.getD 2 0)) (.int 2) = some (.int b) := by rw [mod_pos (by decide), hb1]
  have ea : ((2 + a : Nat) : Int) = 2 + (a : Int) := by omega
  have eb : ((2 + b : Nat) : Int) = 2 + (b : Int) := by omega
  obtain ⟨l, hl1, hl2⟩ := e_numbers ns 0 (2 + a) (by omega)
  rw [ea] at hl2
  have hl3 : Ph__law_numbers [.list (ns.map .int), .int 0, .int (2 + (a : Int))] = some (.list (l.map .int)) := hl2
  obtain ⟨S, hS⟩ : ∃ S, S = l.map fun n => n % 15 := ⟨_, rfl⟩
  have hSl : S.length = 2 + a := by rw [hS, List.length_map, hl1]
  have hK : okK (2 + a) S := ⟨hSl, fun x hx => by
    rw [hS] at hx
    obtain ⟨n, _, rfl⟩ := List.mem_map.mp hx
    omega⟩
  have mS : (l.map fun n => PyData.int (n % 15)) = S.map .int := by rw [hS, List.map_map]; rfl
  have t := tail1 (size := 2 + a) (by omega) (teams := 2 + b) (by omega) hK ns
  have e1 := e_law_splits (2 + a) (2 + b) (by omega) (by omega)
  rw [ea, eb] at e1
  rw [eb] at t
  simp only [List.getD_eq_getElem?_getD] at c1 c2 m1 m2
  generalize splits (2 + a) (2 + b) = SP at *
  have hSI : (S.length : Int) = 2 + (a : Int) := by rw [hSl, ea]
  rw [Ph_law, b_law_eq]
  simp -implicitDefEqProofs [b_law2, c1, m1, hl3]
  rw [lcL_all (g := fun n : Int => .int (n % 15)) (by simp) (fun n hn => by simp), Option.bind_some, lcB_small (by rw [List.length_map]; omega), mS]
  simp -implicitDefEqProofs [c2, m2, hSI, e1, t]
end Hd
end

theorem PySem.Challenge.cw_playground_k23_teams_even_and_picked_holds : PySem.Challenge.rw_playground_k23_teams_even_and_picked.Holds := by
  exact law_from fun ns _ => Hd.e_law ns
