import PyProof.Rows.All
import Wide.All
import OpenK.AllK
import Wide.FinOn
import HandS.ForMost
import HandS.ForExc
import HandS.TupAny
import HandS.Style
import HandS.IsInst
import HandS.ExcValue
import HandS.Wide
import KE.DataMinMax
import KE.DataFind
import KE.SortData
import HandS.Defaults
import HandS.HeadHook2
import HandS.Head0
import HandS.Head1
import HandS.Head2
import HandS.HeadEnd
import HandS.HeadHook1
import HandS.HeadHook3
import HandS.HeadHook4
import KE.Datum
import KE.DatumOrd
import HandS.ExcIs
import KE.KIndexOf
import HandS.Flt
import HandS.Iter
import KE.GoesZip
import KE.GoesEnum
import HandS.Conv
import HandS.OwnEq
import HandS.More
import HandS.FStr
import HandS.Codes
import HandS.RaiseMore
import KE.KUnpackStar
import HandS.ReplaceLit
import PyProof.StrLawsReplace
import PySem.Challenge.RW_fourbars_k73_saved_benches
set_option Elab.async false
set_option linter.all false
set_option maxRecDepth 100000
set_option maxHeartbeats 4000000
/-! Fb.A: plain data D, cells, and how the abstract heap bears them. -/
namespace Fb
open PySem PySem.Spec PyProof.Rows L2

/-- plain data: what a name may hold. lst: a list that nobody changes any more; ref: the cell k; gl: what the module's name x holds; exc: an exception of the class of this name -/
inductive D where
  | non | bl (b : Bool) | int (i : Int) | str (s : Str) | tup (ds : List D) | lst (ds : List D) | ref (k : Nat) | gl (x : Str) | ty (n : String) | exc (x : Str)
/-- a thing that may change: a list, an instance, a dict -/
inductive Cell where
  | lst (ds : List D) | ins (c : Str) (fs : List (Str × D)) | dct (kvs : List (Key × D))
abbrev Env := List (Option D)
abbrev Sto := List Cell
/-- how an expression ends -/
inductive R (α : Type) where
  | ok (a : α) (st : Sto) | exc (x : Str) (st : Sto) | bad
def R.bind {α β : Type} (r : R α) (g : α → Sto → R β) : R β := match r with
  | .ok a st => g a st
  | .exc x st => .exc x st
  | .bad => .bad
/-- how a statement ends -/
inductive RS where
  | nx (env : Env) (st : Sto) | rt (d : D) (st : Sto) | exc (x : Str) (env : Env) (st : Sto) | bad
def RS.bind (r : RS) (g : Env → Sto → RS) : RS := match r with
  | .nx env st => g env st
  | .rt d st => .rt d st
  | .exc x env st => .exc x env st
  | .bad => .bad
abbrev Fe := Env → Sto → R D
abbrev Fa := Env → Sto → R (List D)
abbrev Ft := Env → Sto → R Bool
abbrev Fs := Env → Sto → RS

/-- c: where the cells stand; b: addresses that no value may be (a list that grows in a comprehension) -/
structure Mp where
  c : List Addr
  b : List Addr
def Mp.av (M : Mp) (a : Addr) : Prop := a ∉ M.c ∧ a ∉ M.b

def WrT (K : PySem.W.Frag) (a : Addr) (xs : List V) : Prop := ∃ (o : Obj) (its : Array Value) (n : Nat), K.lookup a = some o ∧ o.cls = .type "tuple" ∧ o.data = .seq its n ∧ its.size ≤ sizeLine ∧ Vals xs its.toList
def TrL (M : Mp) (H : Hp) (a : Addr) (xs : List V) : Prop := Rd H a (.lst xs) ∧ M.av a
/-- a tuple; none of ours has a dict -/
def TrT (K : PySem.W.Frag) (M : Mp) (H : Hp) (a : Addr) (xs : List V) : Prop := (∃ o : Obj, o.dict = none ∧ H a = some (.frz o (.tup xs)) ∧ M.av a) ∨ (WrT K a xs ∧ ∃ o, K.lookup a = some o ∧ o.dict = none)
theorem TrL.sq {K : PySem.W.Frag} {M : Mp} {H : Hp} {a : Addr} {xs : List V} (h : TrL M H a xs) : SqL K H a xs := .inl h.1
theorem TrT.sq {K : PySem.W.Frag} {M : Mp} {H : Hp} {a : Addr} {xs : List V} (h : TrT K M H a xs) : SqT K H a xs := h.elim (fun ⟨o, _, z, _⟩ => .inl (.inr ⟨o, z⟩)) fun z => .inr z.1

/-- a caught exception of the class cls, at a -/
def ExD (cls : Value) (a : Addr) : HO := .ext fun h => ∃ (oe : Obj) (vs : Array Value), h.get? a = some oe ∧ Zc cls none oe ∧ oe.data = .fields vs
mutual
inductive RV (K : PySem.W.Frag) (mg : Str → Option Value) (M : Mp) (H : Hp) : D → V → Prop
  | non : RV K mg M H .non .non
  | bl (b : Bool) : RV K mg M H (.bl b) (.bl b)
  | int (i : Int) : RV K mg M H (.int i) (.int i)
  | str (s : Str) : RV K mg M H (.str s) (.str s)
  | tup {a : Addr} {xs : List V} {ds : List D} : TrT K M H a xs → RVs K mg M H ds xs → RV K mg M H (.tup ds) (.ref a)
  | lst {a : Addr} {xs : List V} {ds : List D} : TrL M H a xs → RVs K mg M H ds xs → RV K mg M H (.lst ds) (.ref a)
  | ref {k : Nat} {a : Addr} : M.c[k]? = some a → RV K mg M H (.ref k) (.ref a)
  | gl {x : Str} {u : Value} {v : V} : mg x = some u → RelV v u → RV K mg M H (.gl x) v
  | ty (n : String) : RV K mg M H (.ty n) (.ty n)
  | exc {x : Str} {C a : Addr} : mg x = some (.ref C) → H a = some (ExD (.ref C) a) → M.av a → RV K mg M H (.exc x) (.ref a)
inductive RVs (K : PySem.W.Frag) (mg : Str → Option Value) (M : Mp) (H : Hp) : List D → List V → Prop
  | nil : RVs K mg M H [] []
  | cons {d : D} {ds : List D} {v : V} {vs : List V} : RV K mg M H d v → RVs K mg M H ds vs → RVs K mg M H (d :: ds) (v :: vs)
end

section
variable {K : PySem.W.Frag} {mg : Str → Option Value}

/-- from here to there: cells came in, all but the cells stands -/
structure Ext (M : Mp) (H : Hp) (M' : Mp) (H' : Hp) : Prop where
  b : ∃ B : List Addr, M'.b = B ++ M.b ∧ ∀ a ∈ B, H a = none
  c : ∃ N : List Addr, M'.c = M.c ++ N ∧ ∀ a ∈ N, H a = none
  keep : ∀ a o, H a = some o → a ∉ M.c → H' a = some o
  live : ∀ a o, H a = some o → ∃ o', H' a = some o'
theorem Ext.refl (M : Mp) (H : Hp) : Ext M H M H := ⟨⟨[], rfl, fun _ h => nomatch h⟩, ⟨[], by simp, fun _ h => nomatch h⟩, fun _ _ h _ => h, fun _ o h => ⟨o, h⟩⟩
theorem Ext.trans {M M1 M2 : Mp} {H H1 H2 : Hp} (x : Ext M H M1 H1) (y : Ext M1 H1 M2 H2) : Ext M H M2 H2 := by
  obtain ⟨N1, e1, n1⟩ := x.c
  obtain ⟨N2, e2, n2⟩ := y.c
  have hn : ∀ a, H1 a = none → H a = none := fun a h => by
    cases q : H a with
    | none => rfl
    | some o =>
      obtain ⟨o', q'⟩ := x.live a o q
      rw [h] at q'
      cases q'
  obtain ⟨B1, f1, m1⟩ := x.b
  obtain ⟨B2, f2, m2⟩ := y.b
  refine ⟨⟨B2 ++ B1, by rw [f2, f1, List.append_assoc], fun a ha => (List.mem_append.mp ha).elim (fun z => hn a (m2 a z)) (m1 a)⟩, ⟨N1 ++ N2, by rw [e2, e1, List.append_assoc], fun a ha => ?_⟩, fun a o h ha => ?_, fun a o h => ?_⟩
  · rcases List.mem_append.mp ha with ha | ha
    · exact n1 a ha
    · exact hn a (n2 a ha)
  · refine y.keep a o (x.keep a o h ha) fun hm => ?_
    rw [e1] at hm
    rcases List.mem_append.mp hm with hm | hm
    · exact ha hm
    · rw [n1 a hm] at h
      cases h
  · obtain ⟨o', h'⟩ := x.live a o h
    exact y.live a o' h'
theorem Ext.get {M M' : Mp} {H H' : Hp} {k : Nat} {a : Addr} (x : Ext M H M' H') (h : M.c[k]? = some a) : M'.c[k]? = some a := by
  obtain ⟨N, e, _⟩ := x.c
  rw [e, List.getElem?_append_left (List.getElem?_eq_some_iff.mp h).1]
  exact h
theorem Ext.av {M M' : Mp} {H H' : Hp} {a : Addr} {o : HO} (x : Ext M H M' H') (h : H a = some o) (ha : M.av a) : M'.av a := by
  obtain ⟨N, e, n⟩ := x.c
  obtain ⟨B, f, m⟩ := x.b
  refine ⟨fun hm => ?_, fun hm => ?_⟩
  · rw [e] at hm
    rcases List.mem_append.mp hm with hm | hm
    · exact ha.1 hm
    · rw [n a hm] at h
      cases h
  · rw [f] at hm
    rcases List.mem_append.mp hm with hm | hm
    · rw [m a hm] at h
      cases h
    · exact ha.2 hm
theorem Ext.rd {M M' : Mp} {H H' : Hp} {a : Addr} {u : HO} (x : Ext M H M' H') (h : Rd H a u ∧ M.av a) : Rd H' a u ∧ M'.av a := by
  obtain ⟨h | ⟨o, h⟩, ha⟩ := h
  · exact ⟨.inl (x.keep _ _ h ha.1), x.av h ha⟩
  · exact ⟨.inr ⟨o, x.keep _ _ h ha.1⟩, x.av h ha⟩
theorem TrL.mono {M M' : Mp} {H H' : Hp} {a : Addr} {xs : List V} (x : Ext M H M' H') (h : TrL M H a xs) : TrL M' H' a xs := x.rd h
theorem TrT.mono {M M' : Mp} {H H' : Hp} {a : Addr} {xs : List V} (x : Ext M H M' H') (h : TrT K M H a xs) : TrT K M' H' a xs := h.imp (fun ⟨o, d, z, v⟩ => ⟨o, d, x.keep _ _ z v.1, x.av z v⟩) id
mutual
theorem RV.mono {M M' : Mp} {H H' : Hp} (x : Ext M H M' H') : ∀ {d : D} {v : V}, RV K mg M H d v → RV K mg M' H' d v
  | _, _, .non => .non
  | _, _, .bl b => .bl b
  | _, _, .int i => .int i
  | _, _, .str s => .str s
  | _, _, .tup t r => .tup (t.mono x) (RVs.mono x r)
  | _, _, .lst t r => .lst (t.mono x) (RVs.mono x r)
  | _, _, .ref h => .ref (x.get h)
  | _, _, .gl h r => .gl h r
  | _, _, .ty n => .ty n
  | _, _, .exc h e a => .exc h (x.keep _ _ e a.1) (x.av e a)
theorem RVs.mono {M M' : Mp} {H H' : Hp} (x : Ext M H M' H') : ∀ {ds : List D} {vs : List V}, RVs K mg M H ds vs → RVs K mg M' H' ds vs
  | _, _, .nil => .nil
  | _, _, .cons h r => .cons (RV.mono x h) (RVs.mono x r)
end
theorem RVs.length {M : Mp} {H : Hp} : ∀ {ds : List D} {vs : List V}, RVs K mg M H ds vs → ds.length = vs.length
  | _, _, .nil => rfl
  | _, _, .cons _ r => by rw [List.length_cons, List.length_cons, RVs.length r]
theorem RVs.get {M : Mp} {H : Hp} : ∀ {ds : List D} {vs : List V} {i : Nat} {d : D}, RVs K mg M H ds vs → ds[i]? = some d → ∃ v, vs[i]? = some v ∧ RV K mg M H d v
  | _, _, _, _, .nil, e => by simp at e
  | _, _, 0, _, .cons h _, e => by simp at e; subst e; exact ⟨_, rfl, h⟩
  | _, _, i + 1, _, .cons _ r, e => RVs.get (i := i) r (by simpa using e)
theorem RVs.get' {M : Mp} {H : Hp} : ∀ {ds : List D} {vs : List V} {i : Nat} {v : V}, RVs K mg M H ds vs → vs[i]? = some v → ∃ d, ds[i]? = some d ∧ RV K mg M H d v
  | _, _, _, _, .nil, e => by simp at e
  | _, _, 0, _, .cons h _, e => by simp at e; subst e; exact ⟨_, rfl, h⟩
  | _, _, i + 1, _, .cons _ r, e => RVs.get' (i := i) r (by simpa using e)
theorem RVs.append {M : Mp} {H : Hp} : ∀ {ds es : List D} {vs ws : List V}, RVs K mg M H ds vs → RVs K mg M H es ws → RVs K mg M H (ds ++ es) (vs ++ ws)
  | _, _, _, _, .nil, s => s
  | _, _, _, _, .cons h r, s => .cons h (RVs.append r s)
theorem RVs.take {M : Mp} {H : Hp} : ∀ {ds : List D} {vs : List V} (n : Nat), RVs K mg M H ds vs → RVs K mg M H (ds.take n) (vs.take n)
  | _, _, 0, _ => .nil
  | _, _, _ + 1, .nil => .nil
  | _, _, n + 1, .cons h r => .cons h (RVs.take n r)
theorem RVs.drop {M : Mp} {H : Hp} : ∀ {ds : List D} {vs : List V} (n : Nat), RVs K mg M H ds vs → RVs K mg M H (ds.drop n) (vs.drop n)
  | _, _, 0, r => r
  | _, _, _ + 1, .nil => .nil
  | _, _, n + 1, .cons _ r => RVs.drop n r
theorem RVs.reverse {M : Mp} {H : Hp} {ds : List D} {vs : List V} (h : RVs K mg M H ds vs) : RVs K mg M H ds.reverse vs.reverse := by
  induction ds generalizing vs with
  | nil => cases h; exact .nil
  | cons d ds ih =>
    cases h with
    | cons h r =>
      rw [List.reverse_cons, List.reverse_cons]
      exact (ih r).append (.cons h .nil)
theorem RVs.set {M : Mp} {H : Hp} {d : D} {v : V} (h : RV K mg M H d v) : ∀ {ds : List D} {vs : List V} (i : Nat), RVs K mg M H ds vs → RVs K mg M H (ds.set i d) (vs.set i v)
  | _, _, _, .nil => .nil
  | _, _, 0, .cons _ r => .cons h r
  | _, _, i + 1, .cons q r => .cons q (RVs.set h i r)

/-- the same, but the barred addresses may have changed too -/
structure ExtW (M : Mp) (H : Hp) (M' : Mp) (H' : Hp) : Prop where
  b : ∃ B : List Addr, M'.b = B ++ M.b ∧ ∀ a ∈ B, H a = none
  c : ∃ N : List Addr, M'.c = M.c ++ N ∧ ∀ a ∈ N, H a = none
  keep : ∀ a o, H a = some o → a ∉ M.c → a ∉ M.b → H' a = some o
  live : ∀ a o, H a = some o → ∃ o', H' a = some o'
theorem Ext.w {M M' : Mp} {H H' : Hp} (x : Ext M H M' H') : ExtW M H M' H' := ⟨x.b, x.c, fun a o h h1 _ => x.keep a o h h1, x.live⟩
theorem ExtW.trans {M M1 M2 : Mp} {H H1 H2 : Hp} (x : ExtW M H M1 H1) (y : ExtW M1 H1 M2 H2) : ExtW M H M2 H2 := by
  obtain ⟨N1, e1, n1⟩ := x.c
  obtain ⟨N2, e2, n2⟩ := y.c
  have hn : ∀ a, H1 a = none → H a = none := fun a h => by
    cases q : H a with
    | none => rfl
    | some o =>
      obtain ⟨o', q'⟩ := x.live a o q
      rw [h] at q'
      cases q'
  obtain ⟨B1, f1, m1⟩ := x.b
  obtain ⟨B2, f2, m2⟩ := y.b
  refine ⟨⟨B2 ++ B1, by rw [f2, f1, List.append_assoc], fun a ha => (List.mem_append.mp ha).elim (fun z => hn a (m2 a z)) (m1 a)⟩, ⟨N1 ++ N2, by rw [e2, e1, List.append_assoc], fun a ha => ?_⟩, fun a o h ha hb => ?_, fun a o h => ?_⟩
  · rcases List.mem_append.mp ha with ha | ha
    · exact n1 a ha
    · exact hn a (n2 a ha)
  · refine y.keep a o (x.keep a o h ha hb) (fun hm => ?_) fun hm => ?_
    · rw [e1] at hm
      rcases List.mem_append.mp hm with hm | hm
      · exact ha hm
      · rw [n1 a hm] at h
        cases h
    · rw [f1] at hm
      rcases List.mem_append.mp hm with hm | hm
      · rw [m1 a hm] at h
        cases h
      · exact hb hm
  · obtain ⟨o', h'⟩ := x.live a o h
    exact y.live a o' h'
theorem ExtW.get {M M' : Mp} {H H' : Hp} {k : Nat} {a : Addr} (x : ExtW M H M' H') (h : M.c[k]? = some a) : M'.c[k]? = some a := by
  obtain ⟨N, e, _⟩ := x.c
  rw [e, List.getElem?_append_left (List.getElem?_eq_some_iff.mp h).1]
  exact h
theorem ExtW.av {M M' : Mp} {H H' : Hp} {a : Addr} {o : HO} (x : ExtW M H M' H') (h : H a = some o) (ha : M.av a) : M'.av a := by
  obtain ⟨N, e, n⟩ := x.c
  obtain ⟨B, f, m⟩ := x.b
  refine ⟨fun hm => ?_, fun hm => ?_⟩
  · rw [e] at hm
    rcases List.mem_append.mp hm with hm | hm
    · exact ha.1 hm
    · rw [n a hm] at h
      cases h
  · rw [f] at hm
    rcases List.mem_append.mp hm with hm | hm
    · rw [m a hm] at h
      cases h
    · exact ha.2 hm
theorem ExtW.rd {M M' : Mp} {H H' : Hp} {a : Addr} {u : HO} (x : ExtW M H M' H') (h : Rd H a u ∧ M.av a) : Rd H' a u ∧ M'.av a := by
  obtain ⟨h | ⟨o, h⟩, ha⟩ := h
  · exact ⟨.inl (x.keep _ _ h ha.1 ha.2), x.av h ha⟩
  · exact ⟨.inr ⟨o, x.keep _ _ h ha.1 ha.2⟩, x.av h ha⟩
theorem TrL.monoW {M M' : Mp} {H H' : Hp} {a : Addr} {xs : List V} (x : ExtW M H M' H') (h : TrL M H a xs) : TrL M' H' a xs := x.rd h
theorem TrT.monoW {M M' : Mp} {H H' : Hp} {a : Addr} {xs : List V} (x : ExtW M H M' H') (h : TrT K M H a xs) : TrT K M' H' a xs := h.imp (fun ⟨o, d, z, v⟩ => ⟨o, d, x.keep _ _ z v.1 v.2, x.av z v⟩) id
mutual
theorem RV.monoW {M M' : Mp} {H H' : Hp} (x : ExtW M H M' H') : ∀ {d : D} {v : V}, RV K mg M H d v → RV K mg M' H' d v
  | _, _, .non => .non
  | _, _, .bl b => .bl b
  | _, _, .int i => .int i
  | _, _, .str s => .str s
  | _, _, .tup t r => .tup (t.monoW x) (RVs.monoW x r)
  | _, _, .lst t r => .lst (t.monoW x) (RVs.monoW x r)
  | _, _, .ref h => .ref (x.get h)
  | _, _, .gl h r => .gl h r
  | _, _, .ty n => .ty n
  | _, _, .exc h e a => .exc h (x.keep _ _ e a.1 a.2) (x.av e a)
theorem RVs.monoW {M M' : Mp} {H H' : Hp} (x : ExtW M H M' H') : ∀ {ds : List D} {vs : List V}, RVs K mg M H ds vs → RVs K mg M' H' ds vs
  | _, _, .nil => .nil
  | _, _, .cons h r => .cons (RV.monoW x h) (RVs.monoW x r)
end

/-- fewer addresses are barred -/
def Mp.Less (M M' : Mp) : Prop := M'.c = M.c ∧ ∀ a, M.av a → M'.av a
theorem TrL.less {M M' : Mp} {H : Hp} {a : Addr} {xs : List V} (l : M.Less M') (h : TrL M H a xs) : TrL M' H a xs := ⟨h.1, l.2 a h.2⟩
theorem TrT.less {M M' : Mp} {H : Hp} {a : Addr} {xs : List V} (l : M.Less M') (h : TrT K M H a xs) : TrT K M' H a xs := h.imp (fun ⟨o, d, z, v⟩ => ⟨o, d, z, l.2 a v⟩) id
mutual
theorem RV.less {M M' : Mp} {H : Hp} (l : M.Less M') : ∀ {d : D} {v : V}, RV K mg M H d v → RV K mg M' H d v
  | _, _, .non => .non
  | _, _, .bl b => .bl b
  | _, _, .int i => .int i
  | _, _, .str s => .str s
  | _, _, .tup t r => .tup (t.less l) (RVs.less l r)
  | _, _, .lst t r => .lst (t.less l) (RVs.less l r)
  | _, _, .ref h => .ref (by rw [l.1]; exact h)
  | _, _, .gl h r => .gl h r
  | _, _, .ty n => .ty n
  | _, _, .exc h e a => .exc h e (l.2 _ a)
theorem RVs.less {M M' : Mp} {H : Hp} (l : M.Less M') : ∀ {ds : List D} {vs : List V}, RVs K mg M H ds vs → RVs K mg M' H ds vs
  | _, _, .nil => .nil
  | _, _, .cons h r => .cons (RV.less l h) (RVs.less l r)
end

/-- fields -/
inductive RFs {κ : Type} (K : PySem.W.Frag) (mg : Str → Option Value) (M : Mp) (H : Hp) : List (κ × D) → List (κ × V) → Prop
  | nil : RFs K mg M H [] []
  | cons {x : κ} {d : D} {v : V} {fs : List (κ × D)} {gs : List (κ × V)} : RV K mg M H d v → RFs K mg M H fs gs → RFs K mg M H ((x, d) :: fs) ((x, v) :: gs)
theorem RFs.mono {κ : Type} {M M' : Mp} {H H' : Hp} (x : Ext M H M' H') {fs : List (κ × D)} {gs : List (κ × V)} (h : RFs K mg M H fs gs) : RFs K mg M' H' fs gs := by
  induction h with
  | nil => exact .nil
  | cons a _ ih => exact .cons (a.mono x) ih
theorem RFs.less {κ : Type} {M M' : Mp} {H : Hp} (l : M.Less M') {fs : List (κ × D)} {gs : List (κ × V)} (h : RFs K mg M H fs gs) : RFs K mg M' H fs gs := by
  induction h with
  | nil => exact .nil
  | cons a _ ih => exact .cons (a.less l) ih
/-- what stands in a cell -/
def CellOk (K : PySem.W.Frag) (mg : Str → Option Value) (M : Mp) (H : Hp) : Cell → Addr → Prop
  | .lst ds, a => ∃ vs, H a = some (.lst vs) ∧ RVs K mg M H ds vs
  | .ins c fs, a => ∃ C dx gs, mg c = some (.ref C) ∧ H a = some (.ins C dx gs) ∧ RFs K mg M H fs gs
  | .dct kvs, a => ∃ ws, H a = some (.dK ws) ∧ RFs K mg M H kvs ws
structure RelH (K : PySem.W.Frag) (mg : Str → Option Value) (M : Mp) (st : Sto) (H : Hp) : Prop where
  len : M.c.length = st.length
  nd : M.c.Nodup
  cell : ∀ (k : Nat) (c : Cell) (a : Addr), st[k]? = some c → M.c[k]? = some a → CellOk K mg M H c a
  blk : ∀ a ∈ M.b, a ∉ M.c ∧ ∃ o, H a = some o
structure RelE (K : PySem.W.Frag) (mg : Str → Option Value) (M : Mp) (env : Env) (σ : L2.St) (H : Hp) : Prop where
  len : env.length = σ.length
  get : ∀ (i : Nat) (d : D), env[i]? = some (some d) → ∃ v, σ[i]? = some (some v) ∧ RV K mg M H d v
structure Rel (K : PySem.W.Frag) (mg : Str → Option Value) (M : Mp) (env : Env) (st : Sto) (σ : L2.St) (H : Hp) : Prop where
  h : RelH K mg M st H
  e : RelE K mg M env σ H
theorem RelE.mono {M M' : Mp} {env : Env} {σ : L2.St} {H H' : Hp} (x : Ext M H M' H') (h : RelE K mg M env σ H) : RelE K mg M' env σ H' :=
  ⟨h.len, fun i d e => let ⟨v, a, r⟩ := h.get i d e; ⟨v, a, r.mono x⟩⟩
theorem RelE.monoW {M M' : Mp} {env : Env} {σ : L2.St} {H H' : Hp} (x : ExtW M H M' H') (h : RelE K mg M env σ H) : RelE K mg M' env σ H' :=
  ⟨h.len, fun i d e => let ⟨v, a, r⟩ := h.get i d e; ⟨v, a, r.monoW x⟩⟩
theorem CellOk.live {M : Mp} {H : Hp} {c : Cell} {a : Addr} (h : CellOk K mg M H c a) : ∃ o, H a = some o := by
  cases c with
  | lst ds => obtain ⟨_, e, _⟩ := h; exact ⟨_, e⟩
  | ins c fs => obtain ⟨_, _, _, _, e, _⟩ := h; exact ⟨_, e⟩
  | dct kvs => obtain ⟨_, e, _⟩ := h; exact ⟨_, e⟩
theorem RelH.live {M : Mp} {st : Sto} {H : Hp} (r : RelH K mg M st H) {a : Addr} (ha : a ∈ M.c) : ∃ o, H a = some o := by
  obtain ⟨k, hk, e⟩ := List.getElem_of_mem ha
  have hs : k < st.length := by rw [← r.len]; exact hk
  exact (r.cell k st[k] a (List.getElem?_eq_getElem hs) (by rw [List.getElem?_eq_getElem hk, e])).live
/-- a new address is none of the known ones -/
theorem RelH.fresh {M : Mp} {st : Sto} {H : Hp} (r : RelH K mg M st H) {p : Addr} (hp : H p = none) : M.av p := by
  refine ⟨fun h => ?_, fun h => ?_⟩
  · obtain ⟨o, e⟩ := r.live h
    rw [hp] at e
    cases e
  · obtain ⟨_, o, e⟩ := r.blk p h
    rw [hp] at e
    cases e
theorem CellOk.mono {M M' : Mp} {H H' : Hp} {c : Cell} {a : Addr} (x : Ext M H M' H') (e : H' a = H a) (h : CellOk K mg M H c a) : CellOk K mg M' H' c a := by
  cases c with
  | lst ds => obtain ⟨vs, q, r⟩ := h; exact ⟨vs, e.trans q, r.mono x⟩
  | ins c fs => obtain ⟨C, dx, gs, m, q, r⟩ := h; exact ⟨C, dx, gs, m, e.trans q, r.mono x⟩
  | dct kvs => obtain ⟨ws, q, r⟩ := h; exact ⟨ws, e.trans q, r.mono x⟩
theorem CellOk.less {M M' : Mp} {H : Hp} {c : Cell} {a : Addr} (l : M.Less M') (h : CellOk K mg M H c a) : CellOk K mg M' H c a := by
  cases c with
  | lst ds => obtain ⟨vs, q, r⟩ := h; exact ⟨vs, q, r.less l⟩
  | ins c fs => obtain ⟨C, dx, gs, m, q, r⟩ := h; exact ⟨C, dx, gs, m, q, r.less l⟩
  | dct kvs => obtain ⟨ws, q, r⟩ := h; exact ⟨ws, q, r.less l⟩
/-- a new object laid that is no cell -/
theorem Ext.new {M : Mp} {H : Hp} {p : Addr} {o : HO} (h : H p = none) : Ext M H M (upd H p o) := by
  refine ⟨⟨[], rfl, fun _ h => nomatch h⟩, ⟨[], by simp, fun _ h => nomatch h⟩, fun a u e _ => ?_, fun a u e => ⟨u, ?_⟩⟩ <;> rw [upd_ne (ne_of_none e h)] <;> exact e
theorem RelH.new {M : Mp} {st : Sto} {H : Hp} {p : Addr} {o : HO} (r : RelH K mg M st H) (h : H p = none) : RelH K mg M st (upd H p o) := by
  have x : Ext M H M (upd H p o) := Ext.new h
  refine ⟨r.len, r.nd, fun k c a e1 e2 => (r.cell k c a e1 e2).mono x ?_, fun a ha => ⟨(r.blk a ha).1, ?_⟩⟩
  · obtain ⟨o', q⟩ := (r.cell k c a e1 e2).live
    rw [upd_ne (ne_of_none q h)]
  · obtain ⟨o', q⟩ := (r.blk a ha).2
    exact x.live a o' q
/-- a new cell -/
def Mp.push (M : Mp) (p : Addr) : Mp := ⟨M.c ++ [p], M.b⟩
theorem Ext.push {M : Mp} {H : Hp} {p : Addr} {o : HO} (h : H p = none) : Ext M H (M.push p) (upd H p o) := by
  refine ⟨⟨[], rfl, fun _ h => nomatch h⟩, ⟨[p], rfl, fun a ha => by rw [List.mem_singleton.mp ha]; exact h⟩, fun a u e _ => ?_, fun a u e => ⟨u, ?_⟩⟩ <;> rw [upd_ne (ne_of_none e h)] <;> exact e
theorem RelH.push {M : Mp} {st : Sto} {H : Hp} {p : Addr} {o : HO} {c : Cell} (r : RelH K mg M st H) (h : H p = none) (hc : CellOk K mg (M.push p) (upd H p o) c p) : RelH K mg (M.push p) (st ++ [c]) (upd H p o) := by
  have x : Ext M H (M.push p) (upd H p o) := Ext.push h
  have fr := r.fresh h
  refine ⟨by show (M.c ++ [p]).length = (st ++ [c]).length; rw [List.length_append, List.length_append, r.len]; rfl, ?_, fun k c' a e1 e2 => ?_, fun a ha => ⟨fun hm => ?_, ?_⟩⟩
  · show (M.c ++ [p]).Nodup
    rw [List.nodup_append]
    refine ⟨r.nd, by simp, fun a ha b hb e => ?_⟩
    rw [List.mem_singleton] at hb
    subst hb e
    exact fr.1 ha
  · have e2' : (M.c ++ [p])[k]? = some a := e2
    by_cases hk : k < M.c.length
    · rw [List.getElem?_append_left hk] at e2'
      rw [List.getElem?_append_left (by rw [← r.len]; exact hk)] at e1
      have q := r.cell k c' a e1 e2'
      obtain ⟨o', q'⟩ := q.live
      exact q.mono x (by rw [upd_ne (ne_of_none q' h)])
    · rw [List.getElem?_append_right (by omega)] at e2'
      rw [List.getElem?_append_right (by rw [← r.len]; omega), ← r.len] at e1
      have h0 : k - M.c.length = 0 := by
        have := (List.getElem?_eq_some_iff.mp e2').1
        simp at this
        omega
      rw [h0] at e1 e2'
      cases e1
      cases e2'
      exact hc
  · rcases List.mem_append.mp hm with hm | hm
    · exact (r.blk a ha).1 hm
    · rw [List.mem_singleton.mp hm] at ha
      exact fr.2 ha
  · obtain ⟨o', q⟩ := (r.blk a ha).2
    exact x.live a o' q
theorem nodup_ixA {N : List Addr} (hN : N.Nodup) {i j : Nat} {x : Addr} (a : N[i]? = some x) (b : N[j]? = some x) : i = j := by
  obtain ⟨h1, e1⟩ := List.getElem?_eq_some_iff.mp a
  obtain ⟨h2, e2⟩ := List.getElem?_eq_some_iff.mp b
  exact (List.getElem_inj hN).mp (e1.trans e2.symm)
/-- a cell written -/
theorem Ext.wr {M : Mp} {st : Sto} {H : Hp} {k : Nat} {a : Addr} {o : HO} (r : RelH K mg M st H) (h : M.c[k]? = some a) : Ext M H M (upd H a o) := by
  have hm : a ∈ M.c := List.mem_of_getElem? h
  refine ⟨⟨[], rfl, fun _ h => nomatch h⟩, ⟨[], by simp, fun _ h => nomatch h⟩, fun b u e hb => ?_, fun b u e => ?_⟩
  · rw [upd_ne (fun z : b = a => hb (by rw [z]; exact hm))]
    exact e
  · by_cases z : b = a
    · subst z
      exact ⟨o, upd_same⟩
    · exact ⟨u, by rw [upd_ne z]; exact e⟩
theorem RelH.wr {M : Mp} {st : Sto} {H : Hp} {k : Nat} {a : Addr} {o : HO} {c : Cell} (r : RelH K mg M st H) (h : M.c[k]? = some a) (hc : CellOk K mg M (upd H a o) c a) : RelH K mg M (st.set k c) (upd H a o) := by
  have x : Ext M H M (upd H a o) := Ext.wr r h
  refine ⟨by rw [List.length_set]; exact r.len, r.nd, fun j c' b e1 e2 => ?_, fun b hb => ⟨(r.blk b hb).1, ?_⟩⟩
  · by_cases z : j = k
    · subst z
      rw [h] at e2
      cases e2
      rw [List.getElem?_set_self (by rw [← r.len]; exact (List.getElem?_eq_some_iff.mp h).1)] at e1
      cases e1
      exact hc
    · rw [List.getElem?_set_ne (Ne.symm z)] at e1
      refine (r.cell j c' b e1 e2).mono x ?_
      have hab : b ≠ a := fun q => z (by
        subst q
        exact nodup_ixA r.nd e2 h)
      rw [upd_ne hab]
  · obtain ⟨o', q⟩ := (r.blk b hb).2
    exact x.live b o' q

/-! ### what is wanted of an end -/
def Post {α β : Type} (K : PySem.W.Frag) (mg : Str → Option Value) (Rp : Mp → Hp → α → β → Prop) (W : WX) (M : Mp) (σ : L2.St) (H : Hp) (r : R α) (Q : β → Hp → Prop) : Prop := match r with
  | .ok d st => ∀ M' v H', Ext M H M' H' → RelH K mg M' st H' → Rp M' H' d v → Q v H'
  | .exc x st => ∀ M' H' C, Ext M H M' H' → RelH K mg M' st H' → mg x = some (.ref C) → W (.ref C) none σ H'
  | .bad => False
theorem Post.bind {α β α' β' : Type} {Rp : Mp → Hp → α → β → Prop} {Rp' : Mp → Hp → α' → β' → Prop} {W : WX} {M : Mp} {σ : L2.St} {H : Hp} {r : R α} {g : α → Sto → R α'} {Q : β' → Hp → Prop} {Q' : β → Hp → Prop}
    (h : Post K mg Rp' W M σ H (r.bind g) Q) (k : ∀ M1 d st1 v H1, r = .ok d st1 → Ext M H M1 H1 → RelH K mg M1 st1 H1 → Rp M1 H1 d v → Post K mg Rp' W M1 σ H1 (g d st1) Q → Q' v H1) : Post K mg Rp W M σ H r Q' := by
  cases r with
  | ok d st =>
    intro M' v H' x rh rv
    refine k M' d st v H' rfl x rh rv ?_
    show Post K mg Rp' W M' σ H' (g d st) Q
    have h' : Post K mg Rp' W M σ H (g d st) Q := h
    cases e : g d st with
    | ok d2 st2 => rw [e] at h'; exact fun M2 v2 H2 y => h' M2 v2 H2 (x.trans y)
    | exc z st2 => rw [e] at h'; exact fun M2 H2 C y => h' M2 H2 C (x.trans y)
    | bad => rw [e] at h'; exact h'
  | exc z st => exact h
  | bad => exact h
abbrev REq {α : Type} : Mp → Hp → α → α → Prop := fun _ _ a b => a = b
def tF (K : PySem.W.Frag) (mg : Str → Option Value) (W : WX) (f : Fe) : TE := fun σ H Q => ∃ M env st, Rel K mg M env st σ H ∧ Post K mg (RV K mg) W M σ H (f env st) Q
def tA (K : PySem.W.Frag) (mg : Str → Option Value) (W : WX) (f : Fa) : TA := fun σ H Q => ∃ M env st, Rel K mg M env st σ H ∧ Post K mg (RVs K mg) W M σ H (f env st) Q
def tT (K : PySem.W.Frag) (mg : Str → Option Value) (W : WX) (f : Ft) : TT := fun σ H Q => ∃ M env st, Rel K mg M env st σ H ∧ Post K mg REq W M σ H (f env st) Q
def PostS (K : PySem.W.Frag) (mg : Str → Option Value) (W : WX) (M : Mp) (H : Hp) (r : RS) (Q : Ends) : Prop := match r with
  | .nx env st => ∀ M' σ' H', Ext M H M' H' → Rel K mg M' env st σ' H' → Q.nx σ' H'
  | .rt d st => ∀ M' v H', Ext M H M' H' → RelH K mg M' st H' → RV K mg M' H' d v → Q.rt v H'
  | .exc x env st => ∀ M' σ' H' C, Ext M H M' H' → Rel K mg M' env st σ' H' → mg x = some (.ref C) → W (.ref C) none σ' H'
  | .bad => False
def tS (K : PySem.W.Frag) (mg : Str → Option Value) (W : WX) (f : Fs) : TS := fun Q σ H => ∃ M env st, Rel K mg M env st σ H ∧ PostS K mg W M H (f env st) Q
theorem PostS.bind {W : WX} {M : Mp} {H : Hp} {r : RS} {g : Env → Sto → RS} {Q : Ends} {N : L2.St → Hp → Prop} (h : PostS K mg W M H (r.bind g) Q)
    (k : ∀ M1 env st σ1 H1, r = .nx env st → Ext M H M1 H1 → Rel K mg M1 env st σ1 H1 → PostS K mg W M1 H1 (g env st) Q → N σ1 H1) : PostS K mg W M H r { Q with nx := N } := by
  cases r with
  | nx env st =>
    intro M' σ' H' x rl
    refine k M' env st σ' H' rfl x rl ?_
    show PostS K mg W M' H' (g env st) Q
    have h' : PostS K mg W M H (g env st) Q := h
    cases e : g env st with
    | nx e2 st2 => rw [e] at h'; exact fun M2 v2 H2 y => h' M2 v2 H2 (x.trans y)
    | rt d st2 => rw [e] at h'; exact fun M2 v2 H2 y => h' M2 v2 H2 (x.trans y)
    | exc z e2 st2 => rw [e] at h'; exact fun M2 s2 H2 C y => h' M2 s2 H2 C (x.trans y)
    | bad => rw [e] at h'; exact h'
  | rt d st => exact h
  | exc z env st => exact h
  | bad => exact h
theorem Rel.mono {M M' : Mp} {env : Env} {st st' : Sto} {σ : L2.St} {H H' : Hp} (r : Rel K mg M env st σ H) (x : Ext M H M' H') (rh : RelH K mg M' st' H') : Rel K mg M' env st' σ H' := ⟨rh, r.e.mono x⟩

/-! ### weaker readings -/
theorem _root_.L2.PE.fb {X : Cx} {e : Expr} {t t' : TE} (h : PE X e t) (k : ∀ σ H Q, t' σ H Q → t σ H Q) : PE X e t' := ⟨fun pins s σ H Q I q => h.run pins s σ H Q I (k σ H Q q)⟩
theorem _root_.L2.PT.fb {X : Cx} {e : Expr} {t t' : TT} (h : PT X e t) (k : ∀ σ H Q, t' σ H Q → t σ H Q) : PT X e t' := ⟨fun pins s σ H Q I q => h.run pins s σ H Q I (k σ H Q q)⟩
theorem _root_.L2.PW.fb {X : Cx} {e : Expr} {t t' : TT} (h : PW X e t) (k : ∀ σ H Q, t' σ H Q → t σ H Q) : PW X e t' := ⟨fun w pins s σ H Q I q => h.run w pins s σ H Q I (k σ H Q q)⟩
theorem _root_.L2.PA.fb {X : Cx} {e : List Expr} {t t' : TA} (h : PA X e t) (k : ∀ σ H Q, t' σ H Q → t σ H Q) : PA X e t' := ⟨fun p pins s σ H Q I q => h.run p pins s σ H Q I (k σ H Q q)⟩
theorem _root_.L2.PS.fb {X : Cx} {e : Stmt} {t t' : TS} (h : PS X e t) (k : ∀ Q σ H, t' Q σ H → t Q σ H) : PS X e t' := ⟨fun pins s σ H Q I q => h.run pins s σ H Q I (k Q σ H q)⟩
theorem _root_.L2.PSs.fb {X : Cx} {e : List Stmt} {t t' : TS} (h : PSs X e t) (k : ∀ Q σ H, t' Q σ H → t Q σ H) : PSs X e t' := ⟨fun pins s σ H Q I q => h.run pins s σ H Q I (k Q σ H q)⟩
/-- the object of a tuple as it is made -/
abbrev tupO (its : List Value) : Obj := { cls := .type "tuple", data := .seq its.toArray }
theorem tup_laid {X : Cx} {pins : List (Addr × Obj)} {σ : L2.St} {H : Hp} {s : Shared} {xs : List V} {its : List Value} (I : Inv X pins σ H s) (r : Vals xs its) (hz : xs.length ≤ sizeLine) :
    Inv X pins σ (upd H s.heap.objs.size (.frz (tupO its) (.tup xs))) { s with heap := s.heap.push (tupO its) } :=
  I.laid (t' := s.toks) (o := .frz (tupO its) (.tup xs)) (fun b u e => Heap.get?_push_of_some _ e) (Nat.le_refl _) ⟨Heap.get?_push_size _ rfl, hz, its, r, ⟨_, Heap.get?_push_size _ rfl, rfl, _, rfl⟩⟩
theorem tup_new {M : Mp} {st : Sto} {H : Hp} {p : Addr} {its : List Value} {vs : List V} {ds : List D} (r : RelH K mg M st H) (hp : H p = none) (q : RVs K mg M H ds vs) : RV K mg M (upd H p (.frz (tupO its) (.tup vs))) (.tup ds) (.ref p) :=
  .tup (.inl ⟨tupO its, rfl, upd_same, r.fresh hp⟩) (q.mono (Ext.new hp))
end
end Fb

/-! Fb.B: names, constants, operators' frame, tests, displays, arguments. -/
namespace Fb
open PySem PySem.Spec PyProof.Rows L2
section
variable {X : Cx} {W : WX}
abbrev XE (X : Cx) (W : WX) (e : Expr) (f : Fe) : Prop := PE X e (tF X.K X.mg W f)
abbrev XT (X : Cx) (W : WX) (e : Expr) (f : Ft) : Prop := PT X e (tT X.K X.mg W f)
abbrev XW (X : Cx) (W : WX) (e : Expr) (f : Ft) : Prop := PW X e (tT X.K X.mg W f)
abbrev XA (X : Cx) (W : WX) (es : List Expr) (f : Fa) : Prop := PA X es (tA X.K X.mg W f)
abbrev XS (X : Cx) (W : WX) (st : Stmt) (f : Fs) : Prop := PS X st (tS X.K X.mg W f)
abbrev XSs (X : Cx) (W : WX) (st : List Stmt) (f : Fs) : Prop := PSs X st (tS X.K X.mg W f)

/-! ### names, constants -/
def fVar (i : Nat) : Fe := fun env st => match env[i]? with
  | some (some d) => .ok d st
  | _ => .bad
def fC (d : D) : Fe := fun _ st => .ok d st
theorem x_var {i : Nat} {e : Expr} (h : PE X e (tVar i)) : XE X W e (fVar i) := h.fb fun σ H Q ⟨M, env, st, r, p⟩ => by
  unfold fVar at p
  split at p
  · rename_i d hd
    obtain ⟨v, hv, rv⟩ := r.e.get i d hd
    exact ⟨v, hv, p M v H (Ext.refl _ _) r.h rv⟩
  · exact p.elim
theorem x_c {e : Expr} {v : V} {d : D} (h : PE X e (tC v)) (hd : ∀ M H, RV X.K X.mg M H d v) : XE X W e (fC d) := h.fb fun σ H Q ⟨M, env, st, r, p⟩ => p M v H (Ext.refl _ _) r.h (hd M H)
theorem x_int {i : Int} {j : Nat} {pos : Pos} : XE X W (.Constant (.int i) j pos) (fC (.int i)) := x_c pe_int fun _ _ => .int i
theorem x_bl {b : Bool} {j : Nat} {pos : Pos} : XE X W (.Constant (.bool b) j pos) (fC (.bl b)) := x_c pe_bl fun _ _ => .bl b
theorem x_non {j : Nat} {pos : Pos} : XE X W (.Constant .none j pos) (fC .non) := x_c pe_non fun _ _ => .non
theorem x_str {s : Str} {j : Nat} {pos : Pos} : XE X W (.Constant (.str s) j pos) (fC (.str s)) := x_c pe_str fun _ _ => .str s
/-- a def, a class of the module as a value -/
theorem x_gl {x : Str} {u : Value} {v : V} {pos : Pos} (hg : Gl X x) (hm : X.mg x = some u) (r : RelV v u) (hd : (x == ("__debug__" : Str)) = false := by decide) : XE X W (.Name x pos) (fC (.gl x)) := x_c (pe_glob hg hm r hd) fun _ _ => .gl hm r
/-- a built-in class -/
theorem x_ty {x : Str} {n : String} {pos : Pos} (hg : Gl X x) (hm : X.mg x = none) (hv : bootBuiltins x = some (.type n)) (hn : x ≠ "__name__" := by decide) (hd : (x == ("__debug__" : Str)) = false := by decide) : XE X W (.Name x pos) (fC (.ty n)) :=
  x_c (pe_bltn (v := .ty n) hg hm hv rfl hn hd) fun _ _ => .ty n
/-- a tuple of texts of the module -/
def strsD (l : List Str) : D := .tup (l.map D.str)
theorem rvs_strs {K : PySem.W.Frag} {mg : Str → Option Value} {M : Mp} {H : Hp} : ∀ l : List Str, RVs K mg M H (l.map D.str) (l.map V.str)
  | [] => .nil
  | x :: l => .cons (.str x) (rvs_strs l)
theorem x_glTup {x : Str} {a : Addr} {l : List Str} {pos : Pos} (hg : Gl X x) (hm : X.mg x = some (.ref a)) (w : WrT X.K a (l.map V.str) ∧ ∃ o, X.K.lookup a = some o ∧ o.dict = none) (hd : (x == ("__debug__" : Str)) = false := by decide) : XE X W (.Name x pos) (fC (strsD l)) :=
  x_c (pe_glob (v := .ref a) hg hm rfl hd) fun _ _ => .tup (.inr w) (rvs_strs l)

/-! ### what a sequence holds -/
def seqL (st : Sto) : D → Option (List D)
  | .lst ds => some ds
  | .ref k => match st[k]? with
    | some (.lst ds) => some ds
    | _ => none
  | _ => none
def seqA (st : Sto) : D → Option (List D)
  | .tup ds => some ds
  | d => seqL st d
theorem seqL_ok {K : PySem.W.Frag} {mg : Str → Option Value} {M : Mp} {st : Sto} {H : Hp} {d : D} {v : V} {ds : List D} (r : RelH K mg M st H) (h : RV K mg M H d v) (e : seqL st d = some ds) : ∃ a xs, v = .ref a ∧ Rd H a (.lst xs) ∧ RVs K mg M H ds xs := by
  cases h with
  | lst t q =>
    cases e
    exact ⟨_, _, rfl, t.1, q⟩
  | ref hk =>
    unfold seqL at e
    dsimp only at e
    split at e
    · rename_i ds' hc
      cases e
      obtain ⟨vs, q1, q2⟩ := r.cell _ _ _ hc hk
      exact ⟨_, _, rfl, .inl q1, q2⟩
    · cases e
  | _ => cases e
theorem seqA_ok {K : PySem.W.Frag} {mg : Str → Option Value} {M : Mp} {st : Sto} {H : Hp} {d : D} {v : V} {ds : List D} (r : RelH K mg M st H) (h : RV K mg M H d v) (e : seqA st d = some ds) : ∃ a xs, v = .ref a ∧ (SqL K H a xs ∨ SqT K H a xs) ∧ RVs K mg M H ds xs := by
  cases h with
  | tup t q =>
    cases e
    exact ⟨_, _, rfl, .inr t.sq, q⟩
  | lst t q =>
    obtain ⟨a, xs, e1, e2, e3⟩ := seqL_ok r (.lst t q) e
    exact ⟨a, xs, e1, .inl (.inl e2), e3⟩
  | ref hk =>
    obtain ⟨a, xs, e1, e2, e3⟩ := seqL_ok r (.ref hk) e
    exact ⟨a, xs, e1, .inl (.inl e2), e3⟩
  | _ => cases e

/-! ### operators by values -/
def rD (K : PySem.W.Frag) (mg : Str → Option Value) (g : D → D → Sto → Option D) : R2 := fun x y H Q => ∃ M st d e z, RelH K mg M st H ∧ RV K mg M H d x ∧ RV K mg M H e y ∧ g d e st = some z ∧ ∀ v H', Ext M H M H' → RelH K mg M st H' → RV K mg M H' z v → Q v H'
abbrev OpD (X : Cx) (f : Value → Value → Sem Value) (g : D → D → Sto → Option D) : Prop := OpR X f (rD X.K X.mg g)
def fBin (g : D → D → Sto → Option D) (fa fb : Fe) : Fe := fun env st => (fa env st).bind fun a st => (fb env st).bind fun b st => match g a b st with
  | some z => .ok z st
  | none => .bad
theorem bin_ok {K : PySem.W.Frag} {mg : Str → Option Value} {fa fb : Fe} {g : D → D → Sto → Option D} {σ : L2.St} {H : Hp} {Q : VK} (h : tF K mg W (fBin g fa fb) σ H Q) : tOp (rD K mg g) (tF K mg W fa) (tF K mg W fb) σ H Q := by
  obtain ⟨M, env, st, r, p⟩ := h
  refine ⟨M, env, st, r, Post.bind p fun M1 d1 st1 v1 H1 _ x1 r1 q1 p1 => ?_⟩
  refine ⟨M1, env, st1, r.mono x1 r1, Post.bind p1 fun M2 d2 st2 v2 H2 _ x2 r2 q2 p2 => ?_⟩
  cases e : g d1 d2 st2 with
  | none => rw [e] at p2; exact p2.elim
  | some z =>
    rw [e] at p2
    exact ⟨M2, st2, d1, d2, z, r2, q1.mono x2, q2, e, fun v H' x rh rv => p2 M2 v H' x rh rv⟩
theorem x_bin {op : Operator} {a b : Expr} {pos : Pos} {fa fb : Fe} {g : D → D → Sto → Option D} (ho : OpD X (binaryOp op) g) (ha : XE X W a fa) (hb : XE X W b fb) : XE X W (.BinOp a op b pos) (fBin g fa fb) :=
  (pe_op ho ha hb).fb fun _ _ _ => bin_ok
theorem x_cmp {op : CmpOp} {a b : Expr} {pos : Pos} {fa fb : Fe} {g : D → D → Sto → Option D} (ho : OpD X (compareOp op) g) (ha : XE X W a fa) (hb : XE X W b fb) (hm : behindInMarks op b = false := by first | exact nomark _ | rfl) : XE X W (.Compare a [op] [b] pos) (fBin g fa fb) :=
  (pe_cmpR ho ha hb hm).fb fun _ _ _ => bin_ok
/-- the truth of a bool value -/
def fTest (f : Fe) : Ft := fun env st => (f env st).bind fun d st => match d with
  | .bl b => .ok b st
  | _ => .bad
theorem test_ok {K : PySem.W.Frag} {mg : Str → Option Value} {f : Fe} {σ : L2.St} {H : Hp} {Q : Bool → Hp → Prop} (h : tT K mg W (fTest f) σ H Q) : tF K mg W f σ H fun x H' => ∃ k, x = .bl k ∧ Q k H' := by
  obtain ⟨M, env, st, r, p⟩ := h
  refine ⟨M, env, st, r, Post.bind p fun M1 d1 st1 v1 H1 _ x1 r1 q1 p1 => ?_⟩
  cases q1 with
  | bl b => exact ⟨b, rfl, p1 M1 b H1 (Ext.refl _ _) r1 rfl⟩
  | _ => exact p1.elim
theorem t_cmp {op : CmpOp} {a b : Expr} {pos : Pos} {fa fb : Fe} {g : D → D → Sto → Option D} (ho : OpD X (compareOp op) g) (ha : XE X W a fa) (hb : XE X W b fb) (hm : behindInMarks op b = false := by first | exact nomark _ | rfl) : XT X W (.Compare a [op] [b] pos) (fTest (fBin g fa fb)) :=
  (pt_cmpR ho ha hb hm).fb fun _ _ _ h => (by
    obtain ⟨M, env, st, r, p⟩ := test_ok h
    exact bin_ok ⟨M, env, st, r, p⟩)
/-- a test that is a value -/
theorem t_val {e : Expr} {f : Fe} (h : XE X W e f) (he : ∀ whole, isTrue e X.env whole = (do let v ← whole; standAt e.pos; holding [v] (truthy v)) := by intro _; rfl) : XT X W e (fTest f) :=
  (pt_val h he).fb fun _ _ _ h => test_ok h
def fChain (g g' : D → D → Sto → Option D) (fa fb fc : Fe) : Fe := fun env st => (fa env st).bind fun a st => (fb env st).bind fun b st => match g a b st with
  | some (.bl true) => (fc env st).bind fun c st => match g' b c st with
    | some z => .ok z st
    | none => .bad
  | some (.bl false) => .ok (.bl false) st
  | _ => .bad
theorem chain_ok {K : PySem.W.Frag} {mg : Str → Option Value} {fa fb fc : Fe} {g g' : D → D → Sto → Option D} {σ : L2.St} {H : Hp} {Q : VK} (h : tF K mg W (fChain g g' fa fb fc) σ H Q) : tChain (rD K mg g) (rD K mg g') (tF K mg W fa) (tF K mg W fb) (tF K mg W fc) σ H Q := by
  obtain ⟨M, env, st, r, p⟩ := h
  refine ⟨M, env, st, r, Post.bind p fun M1 d1 st1 v1 H1 _ x1 r1 q1 p1 => ?_⟩
  refine ⟨M1, env, st1, r.mono x1 r1, Post.bind p1 fun M2 d2 st2 v2 H2 _ x2 r2 q2 p2 => ?_⟩
  cases e : g d1 d2 st2 with
  | none => rw [e] at p2; exact p2.elim
  | some z =>
    rw [e] at p2
    refine ⟨M2, st2, d1, d2, z, r2, q1.mono x2, q2, e, fun v H' x rh rv => ?_⟩
    cases rv with
    | bl k =>
      refine ⟨k, rfl, ?_⟩
      cases k with
      | false =>
        rw [if_neg Bool.false_ne_true]
        exact p2 M2 (.bl false) H' x rh (.bl false)
      | true =>
        rw [if_pos rfl]
        refine ⟨M2, env, st2, ((r.mono x1 r1).mono x2 r2).mono x rh, ?_⟩
        have p3 : Post K mg (RV K mg) W M2 σ H' ((fc env st2).bind fun c st => match g' d2 c st with | some z => .ok z st | none => .bad) Q := by
          have p2' : Post K mg (RV K mg) W M2 σ H2 ((fc env st2).bind fun c st => match g' d2 c st with | some z => .ok z st | none => .bad) Q := p2
          cases e2 : ((fc env st2).bind fun c st => match g' d2 c st with | some z => .ok z st | none => .bad) with
          | ok d s => rw [e2] at p2'; exact fun M' v H2 y => p2' M' v H2 (x.trans y)
          | exc d s => rw [e2] at p2'; exact fun M' H2 C y => p2' M' H2 C (x.trans y)
          | bad => rw [e2] at p2'; exact p2'
        refine Post.bind p3 fun M3 d3 st3 v3 H3 _ x3 r3 q3 p4 => ?_
        cases e3 : g' d2 d3 st3 with
        | none => rw [e3] at p4; exact p4.elim
        | some z3 =>
          rw [e3] at p4
          exact ⟨M3, st3, d2, d3, z3, r3, (q2.mono x).mono x3, q3, e3, fun v H' y rh rv => p4 M3 v H' y rh rv⟩
    | _ => exact p2.elim
theorem x_chain {op op' : CmpOp} {a b c : Expr} {pos : Pos} {fa fb fc : Fe} {g g' : D → D → Sto → Option D} (ho : OpD X (compareOp op) g) (ho' : OpD X (compareOp op') g') (ha : XE X W a fa) (hb : XE X W b fb) (hc : XE X W c fc)
    (hm : lastMarks [op, op'] [b, c] = false := by rfl) : XE X W (.Compare a [op, op'] [b, c] pos) (fChain g g' fa fb fc) :=
  (pe_chain ho ho' ha hb hc hm).fb fun _ _ _ => chain_ok
theorem t_chain {op op' : CmpOp} {a b c : Expr} {pos : Pos} {fa fb fc : Fe} {g g' : D → D → Sto → Option D} (ho : OpD X (compareOp op) g) (ho' : OpD X (compareOp op') g') (ha : XE X W a fa) (hb : XE X W b fb) (hc : XE X W c fc)
    (hm : lastMarks [op, op'] [b, c] = false := by rfl) : XT X W (.Compare a [op, op'] [b, c] pos) (fTest (fChain g g' fa fb fc)) :=
  (pt_chain ho ho' ha hb hc hm).fb fun _ _ _ h => (by
    obtain ⟨M, env, st, r, p⟩ := test_ok h
    exact chain_ok ⟨M, env, st, r, p⟩)

/-! ### and, or, not, if .. else -/
def fAnd (f g : Ft) : Ft := fun env st => (f env st).bind fun b st => if b = true then g env st else .ok false st
def fOr (f g : Ft) : Ft := fun env st => (f env st).bind fun b st => if b = true then .ok true st else g env st
def fNot (f : Ft) : Ft := fun env st => (f env st).bind fun b st => .ok (!b) st
theorem w_and1 {a : Expr} {pos : Pos} {f : Ft} (h : XT X W a f) : XW X W (.BoolOp .And [a] pos) f := pw_and1 h
theorem w_or1 {a : Expr} {pos : Pos} {f : Ft} (h : XT X W a f) : XW X W (.BoolOp .Or [a] pos) f := pw_or1 h
theorem w_and {a b : Expr} {rest : List Expr} {pos : Pos} {f g : Ft} (h : XT X W a f) (k : XW X W (.BoolOp .And (b :: rest) pos) g) : XW X W (.BoolOp .And (a :: b :: rest) pos) (fAnd f g) :=
  (pw_and h k).fb fun σ H Q ⟨M, env, st, r, p⟩ => ⟨M, env, st, r, Post.bind p fun M1 b st1 v1 H1 _ x1 r1 q1 p1 => by
    subst q1
    cases b with
    | true => exact ⟨M1, env, st1, r.mono x1 r1, p1⟩
    | false => exact p1 M1 false H1 (Ext.refl _ _) r1 rfl⟩
theorem w_or {a b : Expr} {rest : List Expr} {pos : Pos} {f g : Ft} (h : XT X W a f) (k : XW X W (.BoolOp .Or (b :: rest) pos) g) : XW X W (.BoolOp .Or (a :: b :: rest) pos) (fOr f g) :=
  (pw_or h k).fb fun σ H Q ⟨M, env, st, r, p⟩ => ⟨M, env, st, r, Post.bind p fun M1 b st1 v1 H1 _ x1 r1 q1 p1 => by
    subst q1
    cases b with
    | true => exact p1 M1 true H1 (Ext.refl _ _) r1 rfl
    | false => exact ⟨M1, env, st1, r.mono x1 r1, p1⟩⟩
theorem t_bool {e : Expr} {f : Ft} (h : XW X W e f) : XT X W e f := h.pt
theorem t_not {a : Expr} {pos : Pos} {f : Ft} (h : XT X W a f) : XT X W (.UnaryOp .Not a pos) (fNot f) :=
  (pt_not h).fb fun σ H Q ⟨M, env, st, r, p⟩ => ⟨M, env, st, r, Post.bind p fun M1 b st1 v1 H1 _ x1 r1 q1 p1 => by
    subst q1
    exact p1 M1 _ H1 (Ext.refl _ _) r1 rfl⟩
def fAndV (f g : Fe) : Fe := fun env st => (f env st).bind fun d st => match d with
  | .bl true => g env st
  | .bl false => .ok (.bl false) st
  | _ => .bad
def fOrV (f g : Fe) : Fe := fun env st => (f env st).bind fun d st => match d with
  | .bl true => .ok (.bl true) st
  | .bl false => g env st
  | _ => .bad
def fNotV (f : Fe) : Fe := fun env st => (f env st).bind fun d st => match d with
  | .bl b => .ok (.bl (!b)) st
  | _ => .bad
theorem x_one {op : BoolOp} {a : Expr} {pos : Pos} {f : Fe} (h : XE X W a f) : XE X W (.BoolOp op [a] pos) f := pe_one h
theorem x_and {a b : Expr} {rest : List Expr} {pos : Pos} {f g : Fe} (h : XE X W a f) (k : XE X W (.BoolOp .And (b :: rest) pos) g) : XE X W (.BoolOp .And (a :: b :: rest) pos) (fAndV f g) :=
  (pe_and h k).fb fun σ H Q ⟨M, env, st, r, p⟩ => ⟨M, env, st, r, Post.bind p fun M1 b st1 v1 H1 _ x1 r1 q1 p1 => by
    cases q1 with
    | bl b =>
      refine ⟨b, rfl, ?_⟩
      cases b with
      | true => exact ⟨M1, env, st1, r.mono x1 r1, p1⟩
      | false => exact p1 M1 _ H1 (Ext.refl _ _) r1 (.bl false)
    | _ => exact p1.elim⟩
theorem x_or {a b : Expr} {rest : List Expr} {pos : Pos} {f g : Fe} (h : XE X W a f) (k : XE X W (.BoolOp .Or (b :: rest) pos) g) : XE X W (.BoolOp .Or (a :: b :: rest) pos) (fOrV f g) :=
  (pe_or h k).fb fun σ H Q ⟨M, env, st, r, p⟩ => ⟨M, env, st, r, Post.bind p fun M1 b st1 v1 H1 _ x1 r1 q1 p1 => by
    cases q1 with
    | bl b =>
      refine ⟨b, rfl, ?_⟩
      cases b with
      | true => exact p1 M1 _ H1 (Ext.refl _ _) r1 (.bl true)
      | false => exact ⟨M1, env, st1, r.mono x1 r1, p1⟩
    | _ => exact p1.elim⟩
theorem x_not {a : Expr} {pos : Pos} {f : Fe} (h : XE X W a f) : XE X W (.UnaryOp .Not a pos) (fNotV f) :=
  (pe_not h).fb fun σ H Q ⟨M, env, st, r, p⟩ => ⟨M, env, st, r, Post.bind p fun M1 b st1 v1 H1 _ x1 r1 q1 p1 => by
    cases q1 with
    | bl b => exact ⟨b, rfl, p1 M1 _ H1 (Ext.refl _ _) r1 (.bl _)⟩
    | _ => exact p1.elim⟩
def fIf (c : Ft) (f g : Fe) : Fe := fun env st => (c env st).bind fun b st => if b = true then f env st else g env st
theorem x_if {c a b : Expr} {pos : Pos} {t : Ft} {f g : Fe} (h : XT X W c t) (ha : XE X W a f) (hb : XE X W b g) : XE X W (.IfExp c a b pos) (fIf t f g) :=
  (pe_ifExp h ha hb).fb fun σ H Q ⟨M, env, st, r, p⟩ => ⟨M, env, st, r, Post.bind p fun M1 b st1 v1 H1 _ x1 r1 q1 p1 => by
    subst q1
    cases b with
    | true => exact ⟨M1, env, st1, r.mono x1 r1, p1⟩
    | false => exact ⟨M1, env, st1, r.mono x1 r1, p1⟩⟩
def fNeg (f : Fe) : Fe := fun env st => (f env st).bind fun d st => match d with
  | .int i => .ok (.int (-i)) st
  | _ => .bad
theorem x_neg {a : Expr} {pos : Pos} {f : Fe} (h : XE X W a f) : XE X W (.UnaryOp .USub a pos) (fNeg f) :=
  (pe_un un_neg h).fb fun σ H Q ⟨M, env, st, r, p⟩ => ⟨M, env, st, r, Post.bind p fun M1 b st1 v1 H1 _ x1 r1 q1 p1 => by
    cases q1 with
    | int i => exact ⟨i, rfl, p1 M1 _ H1 (Ext.refl _ _) r1 (.int _)⟩
    | _ => exact p1.elim⟩

/-! ### arguments, displays -/
def fNil : Fa := fun _ st => .ok [] st
def fCons (f : Fe) (g : Fa) : Fa := fun env st => (f env st).bind fun d st => (g env st).bind fun ds st => .ok (d :: ds) st
theorem a_nil : XA X W [] fNil := pa_nil.fb fun σ H Q ⟨M, env, st, r, p⟩ => p M [] H (Ext.refl _ _) r.h .nil
theorem a_cons {e : Expr} {es : List Expr} {f : Fe} {g : Fa} (h : XE X W e f) (k : XA X W es g) (hs : starEach (e :: es) X.env = (false, eval e X.env) :: starEach es X.env := by rfl) : XA X W (e :: es) (fCons f g) :=
  (pa_cons h k hs).fb fun σ H Q ⟨M, env, st, r, p⟩ => ⟨M, env, st, r, Post.bind p fun M1 d1 st1 v1 H1 _ x1 r1 q1 p1 =>
    ⟨M1, env, st1, r.mono x1 r1, Post.bind p1 fun M2 d2 st2 v2 H2 _ x2 r2 q2 p2 => p2 M2 _ H2 (Ext.refl _ _) r2 (.cons (q1.mono x2) q2)⟩⟩
def fTup (f : Fa) : Fe := fun env st => (f env st).bind fun ds st => .ok (.tup ds) st
def fLst (f : Fa) : Fe := fun env st => (f env st).bind fun ds st => .ok (.lst ds) st
/-- a list that may change: a new cell -/
def fCel (f : Fa) : Fe := fun env st => (f env st).bind fun ds st => .ok (.ref st.length) (st ++ [.lst ds])
def lenA : Fa → Nat → Prop := fun f n => ∀ env st ds st', f env st = .ok ds st' → ds.length = n
theorem lenA_nil : lenA fNil 0 := fun env st ds st' e => by cases e; rfl
theorem R.bind_ok {α β : Type} {r : R α} {g : α → Sto → R β} {b : β} {st : Sto} (h : r.bind g = .ok b st) : ∃ a s, r = .ok a s ∧ g a s = .ok b st := by
  cases r with
  | ok a s => exact ⟨a, s, rfl, h⟩
  | exc x s => cases h
  | bad => cases h
theorem lenA_cons {f : Fe} {g : Fa} {n : Nat} (h : lenA g n) : lenA (fCons f g) (n + 1) := fun env st ds st' e => by
  obtain ⟨d, s, _, e2⟩ := R.bind_ok e
  obtain ⟨ds2, s2, e3, e4⟩ := R.bind_ok e2
  cases e4
  rw [List.length_cons, h env s ds2 _ e3]
/-- a tuple display -/
def tTupF (t : TA) : TE := fun σ H Q => t σ H fun xs H1 => xs.length ≤ sizeLine ∧ ∀ p its, H1 p = none → Q (.ref p) (upd H1 p (.frz (tupO its) (.tup xs)))
theorem pe_tupF {X : Cx} {es : List Expr} {k : Nat} {pos : Pos} {t : TA} (h : PA X es t) : PE X (.Tuple es k pos) (tTupF t) := by
  refine ⟨fun pins s σ H Q I hq => ?_⟩
  refine wpAny_Tuple_spliced (thn (h.run pos pins s σ H _ I hq) fun us s1 ⟨ys, H1, I1, rr, z, q⟩ => ⟨by rw [← rr.length]; exact z, ?_⟩)
  exact ⟨.ref s1.heap.objs.size, _, tup_laid I1 rr z, rfl, q _ us (I1.hok.fresh (Nat.le_refl _))⟩
theorem x_tup {es : List Expr} {k : Nat} {pos : Pos} {f : Fa} {n : Nat} (h : XA X W es f) (hl : lenA f n) (hn : n ≤ 1000 := by decide) : XE X W (.Tuple es k pos) (fTup f) :=
  (pe_tupF h).fb fun σ H Q ⟨M, env, st, r, p⟩ => ⟨M, env, st, r, Post.bind p fun M1 ds st1 vs H1 e1 x1 r1 q1 p1 =>
    ⟨by rw [← q1.length, hl env st ds st1 e1]; exact Nat.le_of_lt (small1000 hn), fun pp its np => p1 M1 _ _ (Ext.new np) (r1.new np) (tup_new r1 np q1)⟩⟩
theorem x_lst {es : List Expr} {pos : Pos} {f : Fa} {n : Nat} (h : XA X W es f) (hl : lenA f n) (hn : n ≤ 1000 := by decide) : XE X W (.List es pos) (fLst f) :=
  (pe_lst h).fb fun σ H Q ⟨M, env, st, r, p⟩ => ⟨M, env, st, r, Post.bind p fun M1 ds st1 vs H1 e1 x1 r1 q1 p1 =>
    ⟨by rw [← q1.length, hl env st ds st1 e1]; exact Nat.le_of_lt (small1000 hn), fun pp np => p1 M1 _ _ (Ext.new np) (r1.new np) (.lst ⟨.inl upd_same, r1.fresh np⟩ (q1.mono (Ext.new np)))⟩⟩
theorem push_get {M : Mp} {p : Addr} {n : Nat} (h : M.c.length = n) : (M.push p).c[n]? = some p := by
  show (M.c ++ [p])[n]? = some p
  rw [List.getElem?_append_right (by omega), h, Nat.sub_self]
  rfl
theorem x_cel {es : List Expr} {pos : Pos} {f : Fa} {n : Nat} (h : XA X W es f) (hl : lenA f n) (hn : n ≤ 1000 := by decide) : XE X W (.List es pos) (fCel f) :=
  (pe_lst h).fb fun σ H Q ⟨M, env, st, r, p⟩ => ⟨M, env, st, r, Post.bind p fun M1 ds st1 vs H1 e1 x1 r1 q1 p1 =>
    ⟨by rw [← q1.length, hl env st ds st1 e1]; exact Nat.le_of_lt (small1000 hn), fun pp np => p1 (M1.push pp) _ _ (Ext.push np) (r1.push np ⟨vs, upd_same, q1.mono (Ext.push np)⟩) (.ref (push_get r1.len))⟩⟩

/-! ### calls of built-ins by values: the store stays -/
def rDA (K : PySem.W.Frag) (mg : Str → Option Value) (g : List D → Sto → Option D) : List V → Hp → VK → Prop := fun xs H Q => ∃ M st ds z, RelH K mg M st H ∧ RVs K mg M H ds xs ∧ g ds st = some z ∧ ∀ v H', Ext M H M H' → RelH K mg M st H' → RV K mg M H' z v → Q v H'
abbrev CallD (X : Cx) (f : Value) (g : List D → Sto → Option D) : Prop := CallR X f (rDA X.K X.mg g)
def fCb (g : List D → Sto → Option D) (f : Fa) : Fe := fun env st => (f env st).bind fun ds st => match g ds st with
  | some z => .ok z st
  | none => .bad
theorem cb_ok {K : PySem.W.Frag} {mg : Str → Option Value} {f : Fa} {g : List D → Sto → Option D} {σ : L2.St} {H : Hp} {Q : VK} (h : tF K mg W (fCb g f) σ H Q) : tCB (rDA K mg g) (tA K mg W f) σ H Q := by
  obtain ⟨M, env, st, r, p⟩ := h
  refine ⟨M, env, st, r, Post.bind p fun M1 ds st1 vs H1 e1 x1 r1 q1 p1 => ?_⟩
  cases e : g ds st1 with
  | none => rw [e] at p1; exact p1.elim
  | some z =>
    rw [e] at p1
    exact ⟨M1, st1, ds, z, r1, q1, e, fun v H' x rh rv => p1 M1 v H' x rh rv⟩
theorem x_callB {id : String} {x : Str} {p pos : Pos} {e : Expr} {es : List Expr} {g : List D → Sto → Option D} {f : Fa} (hc : CallD X (.builtin id) g) (hg : Gl X x) (hm : X.mg x = none) (hv : bootBuiltins x = some (.builtin id)) (ha : XA X W (e :: es) f)
    (hn : x ≠ "__name__" := by decide) (hdb : (x == ("__debug__" : Str)) = false := by decide) (he : starEach (e :: es) X.env = (false, eval e X.env) :: starEach es X.env := by rfl) (hpl : (backTo pos (starEach es X.env)).any (·.1) = false := by rfl) :
    XE X W (.Call (.Name x p) (e :: es) [] pos) (fCb g f) := (pe_callB hc hg hm hv ha hn hdb he hpl).fb fun _ _ _ => cb_ok
theorem x_callTy {T : String} {x : Str} {p pos : Pos} {e : Expr} {es : List Expr} {g : List D → Sto → Option D} {f : Fa} (hc : CallD X (.type T) g) (hg : Gl X x) (hm : X.mg x = none) (hv : bootBuiltins x = some (.type T)) (ha : XA X W (e :: es) f)
    (hn : x ≠ "__name__" := by decide) (hdb : (x == ("__debug__" : Str)) = false := by decide) (he : starEach (e :: es) X.env = (false, eval e X.env) :: starEach es X.env := by rfl) (hpl : (backTo pos (starEach es X.env)).any (·.1) = false := by rfl) :
    XE X W (.Call (.Name x p) (e :: es) [] pos) (fCb g f) := (pe_callTy hc hg hm hv ha hn hdb he hpl).fb fun _ _ _ => cb_ok
end
end Fb

/-! Fb.C: the operators on data. -/
namespace Fb
open PySem PySem.Spec PyProof.Rows L2

/-! ### data without cells -/
mutual
def toPyD : D → Option PyData
  | .non => some .none
  | .bl b => some (.bool b)
  | .int i => some (.int i)
  | .str s => some (.str s)
  | .tup ds => (toPys ds).map .tuple
  | .lst ds => (toPys ds).map .list
  | _ => none
def toPys : List D → Option (List PyData)
  | [] => some []
  | d :: ds => (toPyD d).bind fun p => (toPys ds).map (p :: ·)
end
/-- a cell that is a list counts as its list -/
def drf (st : Sto) : D → D
  | .ref k => match st[k]? with
    | some (.lst ds) => .lst ds
    | _ => .ref k
  | d => d
def pyOf (st : Sto) (d : D) : Option PyData := toPyD (drf st d)
section
variable {K : PySem.W.Frag} {mg : Str → Option Value} {M : Mp} {H : Hp}
mutual
theorem toPyD_ok : ∀ {d : D} {v : V} {p : PyData}, RV K mg M H d v → toPyD d = some p → Dp K H v p
  | .non, _, _, .non, e => by unfold toPyD at e; cases e; exact .non
  | .bl b, _, _, .bl _, e => by unfold toPyD at e; cases e; exact .bl b
  | .int b, _, _, .int _, e => by unfold toPyD at e; cases e; exact .int b
  | .str b, _, _, .str _, e => by unfold toPyD at e; cases e; exact .str b
  | .tup ds, _, _, .tup t r, e => by
    unfold toPyD at e
    cases q : toPys ds with
    | none => rw [q] at e; cases e
    | some ps => rw [q] at e; cases e; exact .tup t.sq (toPys_ok r q)
  | .lst ds, _, _, .lst t r, e => by
    unfold toPyD at e
    cases q : toPys ds with
    | none => rw [q] at e; cases e
    | some ps => rw [q] at e; cases e; exact .lst t.sq (toPys_ok r q)
  | .ref _, _, _, _, e => by unfold toPyD at e; cases e
  | .gl _, _, _, _, e => by unfold toPyD at e; cases e
  | .ty _, _, _, _, e => by unfold toPyD at e; cases e
  | .exc _, _, _, _, e => by unfold toPyD at e; cases e
theorem toPys_ok : ∀ {ds : List D} {vs : List V} {ps : List PyData}, RVs K mg M H ds vs → toPys ds = some ps → DpAll K H vs ps
  | [], _, _, .nil, e => by unfold toPys at e; cases e; exact .nil
  | d :: ds, _, _, .cons h r, e => by
    unfold toPys at e
    cases q : toPyD d with
    | none => rw [q] at e; cases e
    | some p =>
      cases q2 : toPys ds with
      | none => rw [q, q2] at e; cases e
      | some ps => rw [q, q2] at e; cases e; exact .cons (toPyD_ok h q) (toPys_ok r q2)
end
mutual
theorem toPyD_plain : ∀ {d : D} {p : PyData}, toPyD d = some p → p.plain = true
  | .non, _, e => by unfold toPyD at e; cases e; rfl
  | .bl b, _, e => by unfold toPyD at e; cases e; rfl
  | .int b, _, e => by unfold toPyD at e; cases e; rfl
  | .str b, _, e => by unfold toPyD at e; cases e; rfl
  | .tup ds, _, e => by
    unfold toPyD at e
    cases q : toPys ds with
    | none => rw [q] at e; cases e
    | some ps =>
      rw [q] at e; cases e
      simp only [PyData.plain]
      exact toPys_plain q
  | .lst ds, _, e => by
    unfold toPyD at e
    cases q : toPys ds with
    | none => rw [q] at e; cases e
    | some ps =>
      rw [q] at e; cases e
      simp only [PyData.plain]
      exact toPys_plain q
  | .ref _, _, e => by unfold toPyD at e; cases e
  | .gl _, _, e => by unfold toPyD at e; cases e
  | .ty _, _, e => by unfold toPyD at e; cases e
  | .exc _, _, e => by unfold toPyD at e; cases e
theorem toPys_plain : ∀ {ds : List D} {ps : List PyData}, toPys ds = some ps → PyData.plainAll ps = true
  | [], _, e => by unfold toPys at e; cases e; rfl
  | d :: ds, _, e => by
    unfold toPys at e
    cases q : toPyD d with
    | none => rw [q] at e; cases e
    | some p =>
      cases q2 : toPys ds with
      | none => rw [q, q2] at e; cases e
      | some ps =>
        rw [q, q2] at e; cases e
        simp only [PyData.plainAll, toPyD_plain q, toPys_plain q2, Bool.and_self]
end
theorem pyOf_ok {st : Sto} {d : D} {v : V} {p : PyData} (r : RelH K mg M st H) (h : RV K mg M H d v) (e : pyOf st d = some p) : Dp K H v p := by
  cases d with
  | ref k =>
    unfold pyOf drf at e
    dsimp only at e
    split at e
    · rename_i ds hc
      cases h with
      | ref hk =>
        obtain ⟨vs, q1, q2⟩ := r.cell _ _ _ hc hk
        unfold toPyD at e
        cases q : toPys ds with
        | none => rw [q] at e; cases e
        | some ps => rw [q] at e; cases e; exact .lst (.inl (.inl q1)) (toPys_ok q2 q)
    · unfold toPyD at e; cases e
  | _ => exact toPyD_ok h e
theorem pyOf_plain {st : Sto} {d : D} {p : PyData} (e : pyOf st d = some p) : p.plain = true := toPyD_plain e
end

section
variable {X : Cx}
/-- a value that is no new thing: the end -/
theorem fin_int {K : PySem.W.Frag} {mg : Str → Option Value} {M : Mp} {st : Sto} {H : Hp} {Q : VK} {z : D} {v : V} (r : RelH K mg M st H) (q : ∀ v H', Ext M H M H' → RelH K mg M st H' → RV K mg M H' z v → Q v H') (h : RV K mg M H z v) : Q v H := q v H (Ext.refl _ _) r h

/-! ### == and != -/
def gEq (d e : D) (st : Sto) : Option D := (pyOf st d).bind fun p => (pyOf st e).bind fun q => if min p.depth q.depth ≤ 60 then some (.bl (PyData.eqv p q)) else none
def gNe (d e : D) (st : Sto) : Option D := (pyOf st d).bind fun p => (pyOf st e).bind fun q => if min p.depth q.depth ≤ 60 then some (.bl (!PyData.eqv p q)) else none
theorem two_py {st : Sto} {d e z : D} {f : PyData → PyData → D} (h : ((pyOf st d).bind fun p => (pyOf st e).bind fun q => if min p.depth q.depth ≤ 60 then some (f p q) else none) = some z) :
    ∃ p q, pyOf st d = some p ∧ pyOf st e = some q ∧ min p.depth q.depth ≤ 60 ∧ z = f p q := by
  cases h1 : pyOf st d with
  | none => rw [h1] at h; cases h
  | some p =>
    cases h2 : pyOf st e with
    | none => rw [h1, h2] at h; cases h
    | some q =>
      rw [h1, h2] at h
      have h' : (if min p.depth q.depth ≤ 60 then some (f p q) else none) = some z := h
      split at h'
      · rename_i h3
        cases h'
        exact ⟨p, q, rfl, rfl, h3, rfl⟩
      · cases h'
theorem o_eq (hu : X.A.units + 100 < cLine) : OpD X (compareOp .Eq) gEq := by
  intro pins s σ H x y v u Q I rx ry h
  obtain ⟨M, st, d, e, z, r, hd, he, hg, q⟩ := h
  obtain ⟨p, p', e1, e2, e3, rfl⟩ := two_py hg
  obtain ⟨as, r1⟩ := Dp.reads I p x v (pyOf_ok r hd e1) rx
  obtain ⟨bs, r2⟩ := Dp.reads I p' y u (pyOf_ok r he e2) ry
  exact PySem.SeqAt.eq_plain r1 r2 (pyOf_plain e1) (pyOf_plain e2) (by omega) ⟨.bl _, H, I, rfl, fin_int r q (.bl _)⟩
theorem o_ne (hu : X.A.units + 100 < cLine) : OpD X (compareOp .NotEq) gNe := by
  intro pins s σ H x y v u Q I rx ry h
  obtain ⟨M, st, d, e, z, r, hd, he, hg, q⟩ := h
  obtain ⟨p, p', e1, e2, e3, rfl⟩ := two_py hg
  obtain ⟨as, r1⟩ := Dp.reads I p x v (pyOf_ok r hd e1) rx
  obtain ⟨bs, r2⟩ := Dp.reads I p' y u (pyOf_ok r he e2) ry
  exact PySem.SeqAt.ne_plain r1 r2 (pyOf_plain e1) (pyOf_plain e2) (by omega) ⟨.bl _, H, I, rfl, fin_int r q (.bl _)⟩

/-! ### in, not in -/
def inB (p : PyData) : PyData → Option Bool
  | .list xs => if min (PyData.depthAll xs) p.depth ≤ 60 then some (xs.any fun y => PyData.eqv y p) else none
  | .tuple xs => if min (PyData.depthAll xs) p.depth ≤ 60 then some (xs.any fun y => PyData.eqv y p) else none
  | .str t => match p with
    | .str s => match s.cps.toList with
      | [c] => some (decide (c ∈ t.cps.toList))
      | _ => none
    | _ => none
  | _ => none
theorem inB_str {p : PyData} {t : Str} {b : Bool} (h : inB p (.str t) = some b) : ∃ c, p = .str ⟨#[c]⟩ ∧ b = decide (c ∈ t.cps.toList) := by
  unfold inB at h
  dsimp only at h
  split at h
  · rename_i s
    split at h
    · rename_i c hc
      cases h
      refine ⟨c, ?_, rfl⟩
      obtain ⟨cps⟩ := s
      have e : cps = #[c] := Array.toList_inj.mp (by simpa using hc)
      rw [e]
    · cases h
  · cases h
def gIn (d e : D) (st : Sto) : Option D := (pyOf st d).bind fun p => (pyOf st e).bind fun q => (inB p q).map .bl
def gNi (d e : D) (st : Sto) : Option D := (pyOf st d).bind fun p => (pyOf st e).bind fun q => (inB p q).map fun b => .bl (!b)
theorem two_pyI {st : Sto} {d e z : D} {f : Bool → D} (h : ((pyOf st d).bind fun p => (pyOf st e).bind fun q => (inB p q).map f) = some z) :
    ∃ p q b, pyOf st d = some p ∧ pyOf st e = some q ∧ inB p q = some b ∧ z = f b := by
  cases h1 : pyOf st d with
  | none => rw [h1] at h; cases h
  | some p =>
    cases h2 : pyOf st e with
    | none => rw [h1, h2] at h; cases h
    | some q =>
      rw [h1, h2] at h
      cases h3 : inB p q with
      | none =>
        have h' : (inB p q).map f = some z := h
        rw [h3] at h'
        cases h'
      | some b =>
        have h' : (inB p q).map f = some z := h
        rw [h3] at h'
        cases h'
        exact ⟨p, q, b, rfl, rfl, h3, rfl⟩
theorem o_in (hu : X.A.units + 100 < cLine) : OpD X (compareOp .In) gIn := by
  intro pins s σ H x y v u Q I rx ry h
  obtain ⟨M, st, d, e, z, r, hd, he, hg, q⟩ := h
  obtain ⟨p, p', b, e1, e2, e3, rfl⟩ := two_pyI hg
  have dp := pyOf_ok r hd e1
  have dq := pyOf_ok r he e2
  obtain ⟨as, r1⟩ := Dp.reads I p x v dp rx
  obtain ⟨bs, r2⟩ := Dp.reads I p' y u dq ry
  have l2 := pyOf_plain e2
  have fin : Q (.bl b) H := fin_int r q (.bl b)
  cases p' with
  | list xs =>
    unfold inB at e3
    dsimp only at e3
    split at e3
    · cases e3
      exact PySem.SeqAt.in_list_data r2 r1 (by simpa only [PyData.plain] using l2) (pyOf_plain e1) (by omega) ⟨.bl _, H, I, rfl, fin⟩
    · cases e3
  | tuple xs =>
    unfold inB at e3
    dsimp only at e3
    split at e3
    · cases e3
      exact PySem.SeqAt.in_tuple_data r2 r1 (by simpa only [PyData.plain] using l2) (pyOf_plain e1) (by omega) ⟨.bl _, H, I, rfl, fin⟩
    · cases e3
  | str t =>
    obtain ⟨c, rfl, rfl⟩ := inB_str e3
    cases dp
    cases dq
    exact op_in_sign pins s σ H _ _ v u Q I rx ry ⟨c, t, rfl, rfl, fin⟩
  | _ => cases e3
theorem o_ni (hu : X.A.units + 100 < cLine) : OpD X (compareOp .NotIn) gNi := by
  intro pins s σ H x y v u Q I rx ry h
  obtain ⟨M, st, d, e, z, r, hd, he, hg, q⟩ := h
  obtain ⟨p, p', b, e1, e2, e3, rfl⟩ := two_pyI hg
  have dp := pyOf_ok r hd e1
  have dq := pyOf_ok r he e2
  obtain ⟨as, r1⟩ := Dp.reads I p x v dp rx
  obtain ⟨bs, r2⟩ := Dp.reads I p' y u dq ry
  have l2 := pyOf_plain e2
  have fin : Q (.bl (!b)) H := fin_int r q (.bl _)
  cases p' with
  | list xs =>
    unfold inB at e3
    dsimp only at e3
    split at e3
    · cases e3
      exact PySem.SeqAt.notIn_list_data r2 r1 (by simpa only [PyData.plain] using l2) (pyOf_plain e1) (by omega) ⟨.bl _, H, I, rfl, fin⟩
    · cases e3
  | tuple xs =>
    unfold inB at e3
    dsimp only at e3
    split at e3
    · cases e3
      exact PySem.SeqAt.notIn_tuple_data r2 r1 (by simpa only [PyData.plain] using l2) (pyOf_plain e1) (by omega) ⟨.bl _, H, I, rfl, fin⟩
    · cases e3
  | str t =>
    obtain ⟨c, rfl, rfl⟩ := inB_str e3
    cases dp
    cases dq
    exact op_notIn_sign pins s σ H _ _ v u Q I rx ry ⟨c, t, rfl, rfl, fin⟩
  | _ => cases e3

/-! ### is, is not: None, truth values -/
def isB : D → D → Option Bool
  | .bl a, .bl b => some (decide (a = b))
  | d, .non => match d with
    | .non => some true
    | .gl _ => none
    | _ => some false
  | _, _ => none
def gIs (d e : D) (_ : Sto) : Option D := (isB d e).map .bl
def gIsN (d e : D) (_ : Sto) : Option D := (isB d e).map fun b => .bl (!b)
theorem isB_cases {K : PySem.W.Frag} {mg : Str → Option Value} {M : Mp} {H : Hp} {d e : D} {x y : V} {b : Bool} (hd : RV K mg M H d x) (he : RV K mg M H e y) (h : isB d e = some b) :
    (∃ a c, x = .bl a ∧ y = .bl c ∧ b = decide (a = c)) ∨ (y = .non ∧ b = decide (x = .non)) := by
  cases he with
  | bl c =>
    cases hd with
    | bl a => cases h; exact .inl ⟨a, c, rfl, rfl, rfl⟩
    | _ => cases h
  | non =>
    cases hd with
    | gl => cases h
    | bl a => cases h; exact .inr ⟨rfl, (decide_eq_false (fun z => nomatch z)).symm⟩
    | non => cases h; exact .inr ⟨rfl, (decide_eq_true rfl).symm⟩
    | _ => cases h; exact .inr ⟨rfl, (decide_eq_false (fun z => nomatch z)).symm⟩
  | _ => cases d <;> cases h
theorem o_is : OpD X (compareOp .Is) gIs := by
  intro pins s σ H x y v u Q I rx ry h
  obtain ⟨M, st, d, e, z, r, hd, he, hg, q⟩ := h
  cases hb : isB d e with
  | none => unfold gIs at hg; rw [hb] at hg; cases hg
  | some b =>
    unfold gIs at hg
    rw [hb] at hg
    cases hg
    have fin : Q (.bl b) H := fin_int r q (.bl b)
    rcases isB_cases hd he hb with ⟨a, c, rfl, rfl, rfl⟩ | ⟨rfl, rfl⟩
    · exact op_isBl pins s σ H _ _ v u Q I rx ry ⟨a, c, rfl, rfl, fin⟩
    · exact op_isN pins s σ H _ _ v u Q I rx ry ⟨rfl, fin⟩
theorem o_isN : OpD X (compareOp .IsNot) gIsN := by
  intro pins s σ H x y v u Q I rx ry h
  obtain ⟨M, st, d, e, z, r, hd, he, hg, q⟩ := h
  cases hb : isB d e with
  | none => unfold gIsN at hg; rw [hb] at hg; cases hg
  | some b =>
    unfold gIsN at hg
    rw [hb] at hg
    cases hg
    have fin : Q (.bl (!b)) H := fin_int r q (.bl _)
    rcases isB_cases hd he hb with ⟨a, c, rfl, rfl, rfl⟩ | ⟨rfl, rfl⟩
    · exact op_notBl pins s σ H _ _ v u Q I rx ry ⟨a, c, rfl, rfl, fin⟩
    · exact op_notN pins s σ H _ _ v u Q I rx ry ⟨rfl, fin⟩

/-! ### order: ints; tuples by places -/
def ltB (d e : D) (st : Sto) : Option Bool := match d, e with
  | .int i, .int j => some (decide (i < j))
  | .tup as, .tup bs => (toPyD (.tup as)).bind fun p => (toPyD (.tup bs)).bind fun q => if PySem.W.alike p q = true ∧ min p.depth q.depth ≤ 60 then some (PySem.W.dataLt p q) else none
  | _, _ => none
def gLt (d e : D) (st : Sto) : Option D := (ltB d e st).map .bl
theorem o_lt (hu : X.A.units + 100 < cLine) : OpD X (compareOp .Lt) gLt := by
  intro pins s σ H x y v u Q I rx ry h
  obtain ⟨M, st, d, e, z, r, hd, he, hg, q⟩ := h
  cases hb : ltB d e st with
  | none => unfold gLt at hg; rw [hb] at hg; cases hg
  | some b =>
    unfold gLt at hg
    rw [hb] at hg
    cases hg
    have fin : Q (.bl b) H := fin_int r q (.bl b)
    unfold ltB at hb
    split at hb
    · cases hb
      cases hd
      cases he
      exact op_lt pins s σ H _ _ v u Q I rx ry ⟨_, _, rfl, rfl, fin⟩
    · rename_i as bs
      cases h1 : toPyD (.tup as) with
      | none => rw [h1] at hb; cases hb
      | some p =>
        cases h2 : toPyD (.tup bs) with
        | none => rw [h1, h2] at hb; cases hb
        | some p' =>
          rw [h1, h2] at hb
          have hb' : (if PySem.W.alike p p' = true ∧ min p.depth p'.depth ≤ 60 then some (PySem.W.dataLt p p') else none) = some b := hb
          split at hb'
          · rename_i h3
            cases hb'
            obtain ⟨cs, r1⟩ := Dp.reads I p x v (toPyD_ok hd h1) rx
            obtain ⟨ds, r2⟩ := Dp.reads I p' y u (toPyD_ok he h2) ry
            have hn : p ≠ .none := fun z => by
              rw [z] at h1
              unfold toPyD at h1
              cases q : toPys as with
              | none => rw [q] at h1; cases h1
              | some ps => rw [q] at h1; cases h1
            exact PySem.W.rcLt_alike p p' X.A s v u _ _ r1 r2 h3.1 hn (by omega) X.prog X.w X.xe _ ⟨.bl _, H, I, rfl, fin⟩
          · cases hb'
    · cases hb
def gLe (d e : D) (_ : Sto) : Option D := match d, e with
  | .int i, .int j => some (.bl (decide (i ≤ j)))
  | _, _ => none
def gGt (d e : D) (_ : Sto) : Option D := match d, e with
  | .int i, .int j => some (.bl (decide (j < i)))
  | _, _ => none
def gGe (d e : D) (_ : Sto) : Option D := match d, e with
  | .int i, .int j => some (.bl (decide (j ≤ i)))
  | _, _ => none
theorem o_ints {f : Value → Value → Sem Value} {g : D → D → Sto → Option D} {k : Int → Int → V} {k' : Int → Int → D} (ho : OpR X f (rI0 k)) (hk : ∀ M H i j, RV X.K X.mg M H (k' i j) (k i j)) (hg : ∀ d e st z, g d e st = some z → ∃ i j, d = .int i ∧ e = .int j ∧ z = k' i j) : OpD X f g := by
  intro pins s σ H x y v u Q I rx ry h
  obtain ⟨M, st, d, e, z, r, hd, he, hgz, q⟩ := h
  obtain ⟨i, j, rfl, rfl, rfl⟩ := hg d e st z hgz
  cases hd
  cases he
  exact ho pins s σ H _ _ v u Q I rx ry ⟨i, j, rfl, rfl, fin_int r q (hk _ _ _ _)⟩
theorem o_le : OpD X (compareOp .LtE) gLe := o_ints (k' := fun i j => .bl (decide (i ≤ j))) op_le (fun _ _ _ _ => .bl _) fun d e st z h => by
  unfold gLe at h
  split at h
  · cases h; exact ⟨_, _, rfl, rfl, rfl⟩
  · cases h
theorem o_gt : OpD X (compareOp .Gt) gGt := o_ints (k' := fun i j => .bl (decide (j < i))) op_gt (fun _ _ _ _ => .bl _) fun d e st z h => by
  unfold gGt at h
  split at h
  · cases h; exact ⟨_, _, rfl, rfl, rfl⟩
  · cases h
theorem o_ge : OpD X (compareOp .GtE) gGe := o_ints (k' := fun i j => .bl (decide (j ≤ i))) op_ge (fun _ _ _ _ => .bl _) fun d e st z h => by
  unfold gGe at h
  split at h
  · cases h; exact ⟨_, _, rfl, rfl, rfl⟩
  · cases h

/-! ### arithmetic -/
def gSub (d e : D) (_ : Sto) : Option D := match d, e with
  | .int i, .int j => some (.int (i - j))
  | _, _ => none
theorem o_sub : OpD X (binaryOp .Sub) gSub := o_ints (k' := fun i j => .int (i - j)) op_sub (fun _ _ _ _ => .int _) fun d e st z h => by
  unfold gSub at h
  split at h
  · cases h; exact ⟨_, _, rfl, rfl, rfl⟩
  · cases h
theorem o_intsC {f : Value → Value → Sem Value} {g : D → D → Sto → Option D} {C : Int → Int → Prop} {k : Int → Int → V} {k' : Int → Int → D} (ho : OpR X f (rI C k)) (hk : ∀ M H i j, RV X.K X.mg M H (k' i j) (k i j)) (hg : ∀ d e st z, g d e st = some z → ∃ i j, d = .int i ∧ e = .int j ∧ C i j ∧ z = k' i j) : OpD X f g := by
  intro pins s σ H x y v u Q I rx ry h
  obtain ⟨M, st, d, e, z, r, hd, he, hgz, q⟩ := h
  obtain ⟨i, j, rfl, rfl, c, rfl⟩ := hg d e st z hgz
  cases hd
  cases he
  exact ho pins s σ H _ _ v u Q I rx ry ⟨i, j, rfl, rfl, c, fin_int r q (hk _ _ _ _)⟩
def gMod (d e : D) (_ : Sto) : Option D := match d, e with
  | .int i, .int j => if 0 < j then some (.int (i % j)) else none
  | _, _ => none
theorem o_mod : OpD X (binaryOp .Mod) gMod := o_intsC (k' := fun i j => .int (i % j)) op_mod (fun _ _ _ _ => .int _) fun d e st z h => by
  unfold gMod at h
  split at h
  · split at h
    · cases h; exact ⟨_, _, rfl, rfl, by assumption, rfl⟩
    · cases h
  · cases h
def gFdv (d e : D) (_ : Sto) : Option D := match d, e with
  | .int i, .int j => if 0 < j ∧ j < 2 ^ 64 then some (.int (i / j)) else none
  | _, _ => none
theorem o_fdv : OpD X (binaryOp .FloorDiv) gFdv := o_intsC (k' := fun i j => .int (i / j)) op_fdivW (fun _ _ _ _ => .int _) fun d e st z h => by
  unfold gFdv at h
  split at h
  · split at h
    · rename_i i j hj
      cases h
      exact ⟨_, _, rfl, rfl, wide_div (b := 64) hj.1 (by omega) (by decide) (by decide), rfl⟩
    · cases h
  · cases h
def gPow (d e : D) (_ : Sto) : Option D := match d, e with
  | .int i, .int j => if 0 ≤ j ∧ j ≤ 1000 ∧ i.natAbs < 2 ^ 64 then some (.int (i ^ j.toNat)) else none
  | _, _ => none
theorem o_pow : OpD X (binaryOp .Pow) gPow := o_intsC (k' := fun i j => .int (i ^ j.toNat)) op_pow (fun _ _ _ _ => .int _) fun d e st z h => by
  unfold gPow at h
  split at h
  · split at h
    · rename_i i j hj
      cases h
      exact ⟨_, _, rfl, rfl, ⟨hj.1, by omega, hj.2.2⟩, rfl⟩
    · cases h
  · cases h

/-! ### * of ints; list * int -/
theorem Rd.lstM {pins : List (Addr × Obj)} {σ : L2.St} {H : Hp} {s : Shared} {l : Addr} {xs : List V} (I : Inv X pins σ H s) (hH : Rd H l (.lst xs)) : xs.length ≤ sizeLine ∧ ∃ (its : List Value) (n : Nat), Vals xs its ∧ xs.length = its.length ∧ s.heap.get? l = some { cls := .type "list", data := .seq its.toArray n } := by
  obtain ⟨z, its, n, r, e⟩ := hH.ok I.hok
  exact ⟨z, its, n, r, r.length, e⟩
/-- list + list of any kind -/
def rCatL : R2 := fun x y H Q => ∃ l b xs zs, x = .ref l ∧ y = .ref b ∧ Rd H l (.lst xs) ∧ Rd H b (.lst zs) ∧ xs.length + zs.length ≤ sizeLine ∧ ∀ p, H p = none → Q (.ref p) (upd H p (.lst (xs ++ zs)))
theorem op_catL : OpR X (binaryOp .Add) rCatL := by
  intro pins s σ H x y v u Q I rx ry h
  obtain ⟨l, b, xs, zs, rfl, rfl, hH, hB, hz, q⟩ := h
  cases rx
  cases ry
  obtain ⟨z, its, n, r, hl, e⟩ := Rd.lstM I hH
  obtain ⟨z2, its2, n2, r2, hl2, e2⟩ := Rd.lstM I hB
  refine PySem.P.add_list e e2 ?_ (by rw [List.size_toArray, List.size_toArray]; omega)
  have ea : its.toArray ++ its2.toArray = (its ++ its2).toArray := by simp
  rw [ea]
  exact ⟨.ref _, _, I.lnew (t' := s.toks) (r.append r2) (by rw [List.length_append]; omega), rfl, q _ I.fresh⟩
def rRepL : R2 := fun x y H Q => ∃ l k xs, x = .ref l ∧ y = .int k ∧ Rd H l (.lst xs) ∧ -(2 ^ 63) ≤ k ∧ k < 2 ^ 63 ∧ xs.length * k.toNat ≤ sizeLine ∧
  ∀ p, H p = none → Q (.ref p) (upd H p (.lst (List.replicate k.toNat xs).flatten))
theorem op_repL : OpR X (binaryOp .Mult) rRepL := by
  intro pins s σ H x y v u Q I rx ry h
  obtain ⟨l, k, xs, rfl, rfl, hH, h1, h2, hz, q⟩ := h
  cases rx
  obtain ⟨t, rfl⟩ := ry
  obtain ⟨z, its, n, r, hl, e⟩ := Rd.lstM I hH
  have hlen : its.toArray.size * k.toNat ≤ sizeLine := by rw [List.size_toArray, ← hl]; exact hz
  have hcap : ¬ its.toArray.size * k.toNat > (2 ^ 63 - 1) / 8 := by
    have : (sizeLine : Nat) ≤ (2 ^ 63 - 1) / 8 := by decide
    omega
  have hfit : ¬ (!Builtin.List.listFitsIndex k) = true := by
    rw [fitsIndex_both h1 h2]
    exact Bool.false_ne_true
  have hlong : ¬ Builtin.List.listTooLong (its.toArray.size * k.toNat) = true := by
    rw [notLongL hlen]
    exact Bool.false_ne_true
  have hnew : List.foldl (fun x1 x2 => x1 ++ x2) #[] (List.replicate (if its.toArray.isEmpty = true then 0 else k.toNat) its.toArray) = (List.replicate k.toNat its).flatten.toArray := by
    have f0 : ∀ m : Nat, List.foldl (fun x1 x2 => x1 ++ x2) #[] (List.replicate m its.toArray) = (List.replicate m its).flatten.toArray := fun m => by
      have := foldl_rep its m []
      rw [List.nil_append] at this
      exact this
    rw [f0]
    cases its with
    | nil => simp
    | cons a r' => rw [if_neg (by simp)]
  refine wpAny_binaryOp_repeat_ref (T := "list") (U := "int") (by decide) ⟨_, e, rfl⟩ (fun s' => typeIs_int s' k t) noFill_list_mul F.fills_int_mul F.slot_int_rmul repeat_list F.slot_int_index.lookup
    (call_meets F.slot_int_rmul (typeIs_int s k t) F.entry_int_rmul (F.args_int_rmul_2 _ _) (int___rmul___int_list k t l its.toArray n)
      ⟨e, rfl, ⟨_, e, rfl⟩, call_meets F.slot_list_mul ⟨_, e, rfl⟩ F.entry_list_mul (F.args_list_mul_2 _ _) (AutoListH.list___mul___list_int_3 l its.toArray n k t hfit hcap hlong) ⟨e, ?_⟩⟩)
  rw [hnew]
  exact ⟨.ref _, _, I.lnew (t' := s.toks) (r.rep k.toNat) (by rw [PyProof.Rows.lm_len_rep_flat, Nat.mul_comm]; exact hz), rfl, q _ I.fresh⟩
theorem RVs.rep {K : PySem.W.Frag} {mg : Str → Option Value} {M : Mp} {H : Hp} {ds : List D} {vs : List V} (h : RVs K mg M H ds vs) : ∀ n : Nat, RVs K mg M H (List.replicate n ds).flatten (List.replicate n vs).flatten
  | 0 => .nil
  | n + 1 => by
    rw [List.replicate_succ, List.replicate_succ, List.flatten_cons, List.flatten_cons]
    exact h.append (RVs.rep h n)
theorem fin_lst {K : PySem.W.Frag} {mg : Str → Option Value} {M : Mp} {st : Sto} {H : Hp} {Q : VK} {ds : List D} {vs : List V} (r : RelH K mg M st H) (q : ∀ v H', Ext M H M H' → RelH K mg M st H' → RV K mg M H' (.lst ds) v → Q v H') (h : RVs K mg M H ds vs) : ∀ p, H p = none → Q (.ref p) (upd H p (.lst vs)) := fun p hp =>
  q _ _ (Ext.new hp) (r.new hp) (.lst ⟨.inl upd_same, r.fresh hp⟩ (h.mono (Ext.new hp)))
theorem fin_tup {K : PySem.W.Frag} {mg : Str → Option Value} {M : Mp} {st : Sto} {H : Hp} {Q : VK} {ds : List D} {vs : List V} (r : RelH K mg M st H) (q : ∀ v H', Ext M H M H' → RelH K mg M st H' → RV K mg M H' (.tup ds) v → Q v H') (h : RVs K mg M H ds vs) (its : List Value) (p : Addr) (hp : H p = none) : Q (.ref p) (upd H p (.frz (tupO its) (.tup vs))) :=
  q _ _ (Ext.new hp) (r.new hp) (tup_new r hp h)
/-- t + u, the new tuple as it is made -/
def rCatF (K : PySem.W.Frag) : R2 := fun x y H Q => ∃ a b xs ys, x = .ref a ∧ y = .ref b ∧ SqT K H a xs ∧ SqT K H b ys ∧ xs.length + ys.length ≤ sizeLine ∧
  (xs = [] → Q (.ref b) H) ∧ (xs ≠ [] → ys = [] → Q (.ref a) H) ∧ (xs ≠ [] → ys ≠ [] → ∀ its p, H p = none → Q (.ref p) (upd H p (.frz (tupO its) (.tup (xs ++ ys)))))
theorem op_catF : OpR X (binaryOp .Add) (rCatF X.K) := by
  intro pins s σ H x y v u Q I rx ry h
  obtain ⟨a, b, xs, ys, rfl, rfl, sa, sb, hz, w0, w1, w2⟩ := h
  cases rx
  cases ry
  obtain ⟨ia, ra, pa, za⟩ := I.tuple sa
  obtain ⟨ib, rb, pb, zb⟩ := I.tuple sb
  by_cases hx : xs = []
  · subst hx
    cases ra
    exact cat_tup0 pa pb ⟨.ref b, H, I, rfl, w0 rfl⟩
  · refine HT.cat_tup pa pb (fun z => hx (ra.nil_iff.mp z)) (fun z => ⟨.ref a, H, I, rfl, w1 hx (rb.nil_iff.mp z)⟩) (fun z => ?_) (by rw [← ra.length, ← rb.length]; exact hz)
    exact ⟨.ref s.heap.objs.size, _, tup_laid I (ra.append rb) (by rw [List.length_append]; exact hz), rfl, w2 hx (fun w => z (rb.nil_iff.mpr w)) _ _ (I.hok.fresh (Nat.le_refl _))⟩
theorem szl {n : Nat} (h : n ≤ 100000) : n ≤ sizeLine := Nat.le_trans h (by decide)
def gMul (d e : D) (st : Sto) : Option D := match d, e with
  | .int i, .int j => if i.natAbs < 2 ^ 64 ∨ j.natAbs < 2 ^ 64 then some (.int (i * j)) else none
  | d, .int j => (seqL st d).bind fun ds => if j ≤ 1000 ∧ -1000 ≤ j ∧ ds.length ≤ 100 then some (.lst (List.replicate j.toNat ds).flatten) else none
  | _, _ => none
theorem o_mul : OpD X (binaryOp .Mult) gMul := by
  intro pins s σ H x y v u Q I rx ry h
  obtain ⟨M, st, d, e, z, r, hd, he, hg, q⟩ := h
  unfold gMul at hg
  split at hg
  · rename_i i j
    split at hg
    · rename_i hc
      cases hg
      cases hd
      cases he
      have c : CMul i j := by
        unfold CMul
        omega
      exact op_mul pins s σ H _ _ v u Q I rx ry ⟨i, j, rfl, rfl, c, fin_int r q (.int _)⟩
    · cases hg
  · rename_i j _
    cases hs : seqL st d with
    | none => rw [hs] at hg; cases hg
    | some ds =>
      rw [hs] at hg
      have hg' : (if j ≤ 1000 ∧ -1000 ≤ j ∧ ds.length ≤ 100 then some (D.lst (List.replicate j.toNat ds).flatten) else none) = some z := hg
      split at hg'
      · rename_i hc
        cases hg'
        obtain ⟨a, xs, rfl, hr, rv⟩ := seqL_ok r hd hs
        cases he
        have hl := rv.length
        refine op_repL pins s σ H _ _ v u Q I rx ry ⟨a, j, xs, rfl, rfl, hr, by omega, by omega, szl ?_, fin_lst r q (rv.rep j.toNat)⟩
        have h1 : xs.length ≤ 100 := by omega
        have h2 : j.toNat ≤ 1000 := by omega
        exact Nat.mul_le_mul h1 h2
      · cases hg'
  · cases hg
def gAdd (d e : D) (st : Sto) : Option D := match d, e with
  | .int i, .int j => some (.int (i + j))
  | .str a, .str b => if a.length + b.length ≤ 100000 then some (.str (a ++ b)) else none
  | .tup as, .tup bs => if as.length + bs.length ≤ 100000 then some (.tup (as ++ bs)) else none
  | d, e => (seqL st d).bind fun as => (seqL st e).bind fun bs => if as.length + bs.length ≤ 100000 then some (.lst (as ++ bs)) else none
theorem o_add : OpD X (binaryOp .Add) gAdd := by
  intro pins s σ H x y v u Q I rx ry h
  obtain ⟨M, st, d, e, z, r, hd, he, hg, q⟩ := h
  unfold gAdd at hg
  split at hg
  · cases hg
    cases hd
    cases he
    exact op_add pins s σ H _ _ v u Q I rx ry ⟨_, _, rfl, rfl, fin_int r q (.int _)⟩
  · split at hg
    · rename_i hc
      cases hg
      cases hd
      cases he
      exact op_add_str pins s σ H _ _ v u Q I rx ry ⟨_, _, rfl, rfl, szl hc, fin_int r q (.str _)⟩
    · cases hg
  · rename_i as bs
    split at hg
    · rename_i hc
      cases hg
      cases hd with
      | @tup a xs _ t1 r1 =>
        cases he with
        | @tup b ys _ t2 r2 =>
          have l1 := r1.length
          have l2 := r2.length
          refine op_catF pins s σ H _ _ v u Q I rx ry ⟨a, b, xs, ys, rfl, rfl, t1.sq, t2.sq, szl (by omega), fun z => ?_, fun z z2 => ?_, fun _ _ => fin_tup r q (r1.append r2)⟩
          · subst z
            cases r1
            exact fin_int r q (.tup t2 r2)
          · subst z2
            cases r2
            rw [List.append_nil] at q
            exact fin_int r q (.tup t1 r1)
    · cases hg
  · cases h1 : seqL st d with
    | none => rw [h1] at hg; cases hg
    | some as =>
      cases h2 : seqL st e with
      | none => rw [h1, h2] at hg; cases hg
      | some bs =>
        rw [h1, h2] at hg
        have hg' : (if as.length + bs.length ≤ 100000 then some (D.lst (as ++ bs)) else none) = some z := hg
        split at hg'
        · rename_i hc
          cases hg'
          obtain ⟨a, xs, rfl, hr, rv⟩ := seqL_ok r hd h1
          obtain ⟨b, ys, rfl, hr2, rv2⟩ := seqL_ok r he h2
          have l1 := rv.length
          have l2 := rv2.length
          exact op_catL pins s σ H _ _ v u Q I rx ry ⟨a, b, xs, ys, rfl, rfl, hr, hr2, szl (by omega), fin_lst r q (rv.append rv2)⟩
        · cases hg'
end
end Fb

/-! Fb.D: subscripts, slices, built-in functions on data. -/
namespace Fb
open PySem PySem.Spec PyProof.Rows L2
section
variable {X : Cx} {W : WX}

/-! ### subscripts -/
def gIx (d e : D) (st : Sto) : Option D := match e with
  | .int i => (seqA st d).bind fun ds => atI ds i
  | _ => none
theorem atI_rv {K : PySem.W.Frag} {mg : Str → Option Value} {M : Mp} {H : Hp} {ds : List D} {vs : List V} {i : Int} {d : D} (h : RVs K mg M H ds vs) (e : atI ds i = some d) : ∃ v, atI vs i = some v ∧ RV K mg M H d v := by
  unfold atI at e ⊢
  rw [h.length] at e
  cases q : ixN vs.length i with
  | none => rw [q] at e; cases e
  | some j =>
    rw [q] at e
    obtain ⟨v, e2, r⟩ := h.get (i := j) e
    exact ⟨v, e2, r⟩
theorem ix_data : IxR X (rD X.K X.mg gIx) := by
  intro value slice pins s σ H x y v u Q I rx ry h hs
  obtain ⟨M, st, d, e, z, r, hd, he, hg, q⟩ := h
  unfold gIx at hg
  split at hg
  · rename_i i
    cases he
    cases h1 : seqA st d with
    | none => rw [h1] at hg; cases hg
    | some ds =>
      rw [h1] at hg
      obtain ⟨a, xs, rfl, hsq, rv⟩ := seqA_ok r hd h1
      obtain ⟨w, e2, r2⟩ := atI_rv rv hg
      have fin : Q w H := fin_int r q r2
      rcases hsq with hsq | hsq
      · exact ix_list value slice pins s σ H _ _ v u Q I rx ry ⟨a, xs, i, w, rfl, rfl, hsq, e2, fin⟩ hs
      · exact ix_tup value slice pins s σ H _ _ v u Q I rx ry ⟨a, xs, i, w, rfl, rfl, hsq, e2, fin⟩ hs
  · cases hg
theorem x_ix {a b : Expr} {pos : Pos} {fa fb : Fe} (ha : XE X W a fa) (hb : XE X W b fb) (hs : PlainIx b := by exact fun _ _ => rfl) : XE X W (.Subscript a b pos) (fBin gIx fa fb) := (pe_ix ix_data ha hb hs).fb fun _ _ _ => bin_ok

/-! ### slices -/
abbrev Fo := Env → Sto → R (Option Int)
def tO (K : PySem.W.Frag) (mg : Str → Option Value) (W : WX) (f : Fo) : TO := fun σ H Q => ∃ M env st, Rel K mg M env st σ H ∧ Post K mg REq W M σ H (f env st) Q
theorem _root_.L2.PO.fb {X : Cx} {e : Option Expr} {t t' : TO} (h : PO X e t) (k : ∀ σ H Q, t' σ H Q → t σ H Q) : PO X e t' := ⟨fun pins s σ H Q I q => h.run pins s σ H Q I (k σ H Q q)⟩
def oNone : Fo := fun _ st => .ok none st
def oSome (f : Fe) : Fo := fun env st => (f env st).bind fun d st => match d with
  | .int i => .ok (some i) st
  | _ => .bad
abbrev XO (X : Cx) (W : WX) (e : Option Expr) (f : Fo) : Prop := PO X e (tO X.K X.mg W f)
theorem o_none : XO X W none oNone := po_none.fb fun σ H Q ⟨M, env, st, r, p⟩ => p M none H (Ext.refl _ _) r.h rfl
theorem o_some {e : Expr} {f : Fe} (h : XE X W e f) : XO X W (some e) (oSome f) := (po_some h).fb fun σ H Q ⟨M, env, st, r, p⟩ => ⟨M, env, st, r, Post.bind p fun M1 d1 st1 v1 H1 _ x1 r1 q1 p1 => by
  cases q1 with
  | int i => exact ⟨i, rfl, p1 M1 _ H1 (Ext.refl _ _) r1 rfl⟩
  | _ => exact p1.elim⟩
def cutD (ds : List D) (lo hi : Option Int) : List D := (ds.drop (HT.sIx ds.length 0 lo)).take (HT.sIx ds.length ds.length hi - HT.sIx ds.length 0 lo)
theorem cut_rv {K : PySem.W.Frag} {mg : Str → Option Value} {M : Mp} {H : Hp} {ds : List D} {vs : List V} (h : RVs K mg M H ds vs) (lo hi : Option Int) : RVs K mg M H (cutD ds lo hi) (cutV vs lo hi) := by
  unfold cutD cutV
  rw [h.length]
  exact (h.drop _).take _
theorem cut_all {ds : List D} {lo hi : Option Int} (h : HT.sIx ds.length 0 lo = 0 ∧ HT.sIx ds.length ds.length hi = ds.length) : cutD ds lo hi = ds := by
  unfold cutD
  rw [h.1, h.2]
  simp
def gSl (d : D) (lo hi : Option Int) (st : Sto) : Option D := match d with
  | .str z => if z.length ≤ 100000 then some (.str (cutS z lo hi)) else none
  | .tup ds => some (.tup (cutD ds lo hi))
  | d => (seqL st d).map fun ds => .lst (cutD ds lo hi)
def fSl (f : Fe) (l h : Fo) : Fe := fun env st => (f env st).bind fun d st => (l env st).bind fun lo st => (h env st).bind fun hi st => match gSl d lo hi st with
  | some z => .ok z st
  | none => .bad
def rSlD (K : PySem.W.Frag) (mg : Str → Option Value) : V → Option Int → Option Int → Hp → VK → Prop := fun x lo hi H Q => ∃ M st d z, RelH K mg M st H ∧ RV K mg M H d x ∧ gSl d lo hi st = some z ∧ ∀ v H', Ext M H M H' → RelH K mg M st H' → RV K mg M H' z v → Q v H'
/-- t[lo:hi], the new tuple as it is made -/
def rSlF (K : PySem.W.Frag) : V → Option Int → Option Int → Hp → VK → Prop := fun x lo hi H Q => ∃ a xs, x = .ref a ∧ SqT K H a xs ∧
  (HT.sIx xs.length 0 lo = 0 ∧ HT.sIx xs.length xs.length hi = xs.length → Q (.ref a) H) ∧ (¬ (HT.sIx xs.length 0 lo = 0 ∧ HT.sIx xs.length xs.length hi = xs.length) → ∀ its p, H p = none → Q (.ref p) (upd H p (.frz (tupO its) (.tup (cutV xs lo hi)))))
theorem sl_tupF : SlR X (rSlF X.K) := by
  intro pins s σ H x v vl vu lo hi sl Q I rx hs pl pu h
  obtain ⟨a, xs, rfl, sa, w1, w2⟩ := h
  cases rx
  obtain ⟨its, rr, ht, hz⟩ := I.tuple sa
  have hlen : its.toArray.size = xs.length := by rw [List.size_toArray]; exact rr.length.symm
  refine ⟨"tuple", _, PyProof.Rows.slot_tuple_getitem.lookup, ht.typeIs, ?_⟩
  by_cases hw : HT.sIx xs.length 0 lo = 0 ∧ HT.sIx xs.length xs.length hi = xs.length
  · exact getItem_tuple_whole ht hs pl pu (by rw [hlen]; exact hw) ⟨.ref a, H, I, rfl, w1 hw⟩
  · refine HT.getItem_tuple_cut ht hs pl pu (by rw [hlen]; exact hw) ?_ (by rw [hlen]; exact hz)
    rw [hlen]
    exact ⟨.ref s.heap.objs.size, _, tup_laid I ((rr.drop (HT.sIx xs.length 0 lo)).take (HT.sIx xs.length xs.length hi - HT.sIx xs.length 0 lo)) (Nat.le_trans (cutV_length xs lo hi) hz), rfl, w2 hw _ _ (I.hok.fresh (Nat.le_refl _))⟩
theorem sl_data : SlR X (rSlD X.K X.mg) := by
  intro pins s σ H x v vl vu lo hi sl Q I rx hs pl pu h
  obtain ⟨M, st, d, z, r, hd, hg, q⟩ := h
  unfold gSl at hg
  split at hg
  · split at hg
    · rename_i hz
      cases hg
      cases hd
      exact sl_str pins s σ H _ v vl vu lo hi sl Q I rx hs pl pu ⟨_, rfl, szl hz, fin_int r q (.str _)⟩
    · cases hg
  · rename_i ds
    cases hg
    cases hd with
    | @tup a xs _ t rv =>
      refine sl_tupF pins s σ H _ v vl vu lo hi sl Q I rx hs pl pu ⟨a, xs, rfl, t.sq, fun hw => ?_, fun _ => fin_tup r q (cut_rv rv lo hi)⟩
      rw [← rv.length] at hw
      rw [cut_all hw] at q
      exact fin_int r q (.tup t rv)
  · cases h1 : seqL st d with
    | none => rw [h1] at hg; cases hg
    | some ds =>
      rw [h1] at hg
      cases hg
      obtain ⟨a, xs, rfl, hr, rv⟩ := seqL_ok r hd h1
      exact sl_list pins s σ H _ v vl vu lo hi sl Q I rx hs pl pu ⟨a, xs, rfl, .inl hr, fin_lst r q (cut_rv rv lo hi)⟩
theorem x_sl {e : Expr} {lo hi : Option Expr} {p2 pos : Pos} {f : Fe} {l h : Fo} (he : XE X W e f) (hl : XO X W lo l) (hh : XO X W hi h) : XE X W (.Subscript e (.Slice lo hi none p2) pos) (fSl f l h) :=
  (pe_slice sl_data he hl hh).fb fun σ H Q ⟨M, env, st, r, p⟩ => ⟨M, env, st, r, Post.bind p fun M1 d1 st1 v1 H1 _ x1 r1 q1 p1 =>
    ⟨M1, env, st1, r.mono x1 r1, Post.bind p1 fun M2 o2 st2 v2 H2 _ x2 r2 q2 p2 => ⟨M2, env, st2, (r.mono x1 r1).mono x2 r2, Post.bind p2 fun M3 o3 st3 v3 H3 _ x3 r3 q3 p3 => by
      subst q2 q3
      cases e : gSl d1 o2 o3 st3 with
      | none => rw [e] at p3; exact p3.elim
      | some z => rw [e] at p3; exact ⟨M3, st3, d1, z, r3, (q1.mono x2).mono x3, e, fun v H' x rh rv => p3 M3 v H' x rh rv⟩⟩⟩⟩

/-! ### t[::-1] -/
theorem getItem_tuple_rev {prog : Program} {w : World} {A : Around} {E : Value → Shared → Prop} {s : Shared} {t sl : Addr} {items : Array Value} {vs : Value} {Q : Value → Shared → Prop} (ht : IsTup s.heap t items) (hs : s.heap.IsSliceOf sl .none .none vs) (ps : IsPart vs (some (-1)))
    (h : Q (.ref s.heap.objs.size) { s with heap := s.heap.push { cls := .type "tuple", data := .seq items.toList.reverse.toArray } }) (hsz : items.size ≤ sizeLine) : wpAny (model prog w) A (getItem (.ref t) (.ref sl)) Q E s := by
  obtain ⟨os, hos, hcs, hds⟩ := id hs
  have hTs : s.TypeIs (.ref sl) "slice" := ⟨os, hos, hcs⟩
  unfold getItem
  try with_reducible refine wpAny_holding ?_
  first | refine wpAny_bind (wpAny_pure ?_) | skip
  refine wpAny_bind (wpAny_sequenceKey ht.typeIs (by decide) ?_)
  refine wpAny_bind (wpAny_callSpecial?_slot (name := Str.ofString "__getitem__") ht.typeIs PyProof.Rows.slot_tuple_getitem
    (wpAny_call_entry PyProof.Rows.slot_tuple_getitem ht.typeIs PyProof.Rows.entry_tuple_getitem ?_ (PyProof.Rows.args_tuple_getitem _ _)))
  show wpAny _ _ (Builtin.Tuple.tupleItemsOf (.ref t) >>= _) _ _ s
  refine wpAny_bind (PyProof.Rows.tupleItemsOf_ ht ?_)
  refine wpAny_bind (wpAny_typeOf hTs ?_)
  rw [if_pos (by decide)]
  have ap : ∀ {Q' : Int × Int × Nat → Shared → Prop}, Q' ((items.size : Int) - 1, -1, items.size) s → ∀ E', wpAny (model prog w) A.in1 (Builtin.Slice.sliceApplied (.ref sl) (pure (items.size : Int))) Q' E' s := fun {Q'} hq E' => by
    unfold Builtin.Slice.sliceApplied Builtin.Slice.sliceFields
    refine wpAny_bind (wpAny_bind (wpAny_field hos hds (x := .none) rfl (wpAny_bind (wpAny_field hos hds (x := .none) rfl (wpAny_bind (wpAny_field hos hds (x := vs) rfl (wpAny_pure ?_)))))))
    refine wpAny_bind (HT.slicePart_ ps ?_)
    show wpAny _ _ (if ((-1 : Int) == 0) = true then _ else _) _ _ s
    rw [if_neg (by decide)]
    refine wpAny_bind (PyProof.Rows.slicePart_none (wpAny_bind (PyProof.Rows.slicePart_none (wpAny_bind (wpAny_pure ?_)))))
    refine wpAny_pure ?_
    have e : Builtin.Slice.slicePlaces ((items.size : Int) - 1) (-1) (-1) = items.size := by
      unfold Builtin.Slice.slicePlaces
      rw [if_neg (by decide)]
      by_cases hn : (items.size : Int) - 1 > -1
      · rw [if_pos hn]
        have e1 : (- -1 : Int) = 1 := rfl
        rw [e1, Int.ediv_one]
        omega
      · rw [if_neg hn]
        omega
    show Q' ((items.size : Int) - 1, -1, Builtin.Slice.slicePlaces ((items.size : Int) - 1) (-1) (-1)) s
    rw [e]
    exact hq
  refine wpAny_bind (ap ?_ _)
  have hno : ¬ ((((items.size : Int) - 1) == 0 && (-1 : Int) == 1 && items.size == items.size) = true) := by simp
  show wpAny _ _ (if (((items.size : Int) - 1) == 0 && (-1 : Int) == 1 && items.size == items.size) = true then _ else _) _ _ s
  rw [if_neg hno]
  have pk : ((List.range items.size).filterMap fun (k : Nat) => items[((items.size : Int) - 1 + (k : Int) * (-1)).toNat]?).toArray = items.toList.reverse.toArray := by
    congr 1
    apply List.ext_getElem?
    intro k
    have q : ∀ m : Nat, (List.range m).filterMap (fun (k : Nat) => items[((items.size : Int) - 1 + (k : Int) * (-1)).toNat]?) = (items.toList.reverse).take m ∨ items.size < m := by
      intro m
      induction m with
      | zero => exact .inl rfl
      | succ m ih =>
        by_cases hm : items.size < m + 1
        · exact .inr hm
        · refine .inl ?_
          rcases ih with ih | ih
          · rw [List.range_succ, List.filterMap_append, ih, List.take_add_one]
            congr 1
            have e1 : ((items.size : Int) - 1 + (m : Int) * (-1)).toNat = items.size - 1 - m := by omega
            have hlt : items.size - 1 - m < items.size := by omega
            have e2 : items.toList.reverse[m]? = some items[items.size - 1 - m] := by
              rw [List.getElem?_reverse (by simp; omega)]
              simp
            rw [e2, List.filterMap_cons, e1, Array.getElem?_eq_getElem hlt]
            rfl
          · omega
    rcases q items.size with q | q
    · rw [q, List.take_of_length_le (by simp)]
    · omega
  have htake : sizeOk (.seq items.toList.reverse.toArray) := by
    show items.toList.reverse.toArray.size ≤ sizeLine
    rw [List.size_toArray, List.length_reverse, Array.length_toList]
    exact hsz
  rw [pk]
  first
    | exact wpAny_bind (m := Builtin.Tuple.tupleExact _) (wpAny_newObj_type (wpAny_pure ⟨_, rfl, wpAny_pure h⟩) htake)
    | exact wpAny_bind (m := Builtin.Tuple.tupleExact _) (wpAny_newObj_type (wpAny_bind (wpAny_pure (wpAny_pure ⟨_, rfl, wpAny_pure h⟩))) htake)
    | exact wpAny_bind (wpAny_bind (m := Builtin.Tuple.tupleExact _) (wpAny_newObj_type (wpAny_pure (wpAny_pure ⟨_, rfl, wpAny_pure h⟩)) htake))
    | exact wpAny_bind (wpAny_bind (m := Builtin.Tuple.tupleExact _) (wpAny_newObj_type (wpAny_pure ⟨_, rfl, wpAny_pure h⟩) htake))
def gRev (d : D) (st : Sto) : Option D := match d with
  | .tup ds => some (.tup ds.reverse)
  | d => (seqL st d).map fun ds => .lst ds.reverse
def tRev (K : PySem.W.Frag) (mg : Str → Option Value) (te : TE) : TE := fun σ H Q => te σ H fun x H1 => ∃ M st d z, RelH K mg M st H1 ∧ RV K mg M H1 d x ∧ gRev d st = some z ∧ ∀ v H', Ext M H1 M H' → RelH K mg M st H' → RV K mg M H' z v → Q v H'
theorem pe_rev {e : Expr} {te : TE} {k : Nat} {p1 p2 p3 pos : Pos} (he : PE X e te) : PE X (.Subscript e (.Slice none none (some (.UnaryOp .USub (.Constant (.int 1) k p1) p2)) p3) pos) (tRev X.K X.mg te) := by
  refine ⟨fun pins s σ H Q I h => ?_⟩
  refine Subscript_ (thn (he.run pins s σ H _ I h) fun v s1 ⟨x, H1, I1, r1, q1⟩ => ?_)
  obtain ⟨M, st, d, z, r, hd, hg, q⟩ := q1
  have hst : PO X (some (.UnaryOp .USub (.Constant (.int 1) k p1) p2)) (tPart (tUn (rU fun i => .int (-i)) (tC (.int 1)))) := po_some (pe_un un_neg pe_int)
  refine wpAny_Slice (thn (po_none.run pins s1 σ H1 (fun o H2 => o = none ∧ H2 = H1) I1 ⟨rfl, rfl⟩) fun vl s2 ⟨l, H2, I2, pl, el, e2⟩ => ?_)
  subst el e2
  refine thn (po_none.run pins s2 σ H2 (fun o H3 => o = none ∧ H3 = H2) I2 ⟨rfl, rfl⟩) fun vu s3 ⟨u, H3, I3, pu, eu, e3⟩ => ?_
  subst eu e3
  refine thn (hst.run pins s3 σ H3 (fun o H4 => o = some (-1) ∧ H4 = H3) I3 ⟨1, rfl, -1, rfl, rfl, rfl⟩) fun vs s4 ⟨o, H4, I4, ps, eo, e4⟩ => ?_
  subst eo e4
  have I5 : Inv X pins σ H4 { s4 with heap := s4.heap.push { cls := .type "slice", data := .fields #[vl, vu, vs] } } := I4.kept (t' := s4.toks) fun b ob q => Heap.get?_push_of_some _ q
  unfold gRev at hg
  split at hg
  · rename_i ds
    cases hg
    cases hd with
    | @tup a xs _ t rv =>
      cases r1
      obtain ⟨its, rr, ht, hz⟩ := I5.tuple t.sq
      have hlen := rr.length
      show wpAny (model X.prog X.w) X.A (subscriptTail e (.Slice none none (some (.UnaryOp .USub (.Constant (.int 1) k p1) p2)) p3) (.ref a) (.ref s4.heap.objs.size)) (EP X pins σ Q) X.xe { s4 with heap := s4.heap.push { cls := .type "slice", data := .fields #[vl, vu, vs] } }
      refine tail_any (ops := [.ref a, .ref s4.heap.objs.size]) ht.typeIs (PyProof.Rows.slot_tuple_getitem.lookup) ?_ (by with_unfolding_all rfl)
      cases pl
      cases pu
      refine getItem_tuple_rev ht (Heap.IsSliceOf.new _ .none .none vs) ps ?_ (by rw [List.size_toArray]; omega)
      exact ⟨.ref _, _, tup_laid I5 rr.reverse (by rw [List.length_reverse]; exact hz), rfl, fin_tup r q rv.reverse _ _ (I5.hok.fresh (Nat.le_refl _))⟩
  · cases h1 : seqL st d with
    | none => rw [h1] at hg; cases hg
    | some ds =>
      rw [h1] at hg
      cases hg
      obtain ⟨a, xs, rfl, hr, rv⟩ := seqL_ok r hd h1
      cases r1
      obtain ⟨its, rr, ht, hz⟩ := I5.list (.inl hr)
      have hlen := rr.length
      show wpAny (model X.prog X.w) X.A (subscriptTail e (.Slice none none (some (.UnaryOp .USub (.Constant (.int 1) k p1) p2)) p3) (.ref a) (.ref s4.heap.objs.size)) (EP X pins σ Q) X.xe { s4 with heap := s4.heap.push { cls := .type "slice", data := .fields #[vl, vu, vs] } }
      refine tail_any (ops := [.ref a, .ref s4.heap.objs.size]) ht.isList.typeIs (PySem.slot_list_getitem.lookup) ?_ (by with_unfolding_all rfl)
      refine wpAny_getItem_list_slice ht.isList (Heap.IsSliceOf.new _ vl vu vs) pl pu ps (by decide) ?_ (by rw [List.size_toArray]; omega)
      rw [PySem.W.krv_pick]
      refine ⟨.ref _, _, I5.laid (t' := s4.toks) (o := .lst xs.reverse) (fun b ob q => Heap.get?_push_of_some _ q) (Nat.le_refl _) ?_, rfl, fin_lst r q rv.reverse _ (I5.hok.fresh (Nat.le_refl _))⟩
      exact ⟨by rw [List.length_reverse]; exact hz, _, 0, rr.reverse, Heap.get?_push_size _ rfl⟩
def fRev (f : Fe) : Fe := fun env st => (f env st).bind fun d st => match gRev d st with
  | some z => .ok z st
  | none => .bad
theorem x_rev {e : Expr} {k : Nat} {p1 p2 p3 pos : Pos} {f : Fe} (he : XE X W e f) : XE X W (.Subscript e (.Slice none none (some (.UnaryOp .USub (.Constant (.int 1) k p1) p2)) p3) pos) (fRev f) :=
  (pe_rev he).fb fun σ H Q ⟨M, env, st, r, p⟩ => ⟨M, env, st, r, Post.bind p fun M1 d1 st1 v1 H1 _ x1 r1 q1 p1 => by
    cases e : gRev d1 st1 with
    | none => rw [e] at p1; exact p1.elim
    | some z => rw [e] at p1; exact ⟨M1, st1, d1, z, r1, q1, e, fun v H' x rh rv => p1 M1 v H' x rh rv⟩⟩
end
end Fb

/-! Fb.E: built-in functions on data. -/
namespace Fb
open PySem PySem.Spec PyProof.Rows L2
section
variable {X : Cx} {W : WX}
theorem RVs.one {K : PySem.W.Frag} {mg : Str → Option Value} {M : Mp} {H : Hp} {d : D} {vs : List V} (h : RVs K mg M H [d] vs) : ∃ v, vs = [v] ∧ RV K mg M H d v := by
  cases h with
  | cons h r => cases r; exact ⟨_, rfl, h⟩
theorem RVs.two {K : PySem.W.Frag} {mg : Str → Option Value} {M : Mp} {H : Hp} {d e : D} {vs : List V} (h : RVs K mg M H [d, e] vs) : ∃ v u, vs = [v, u] ∧ RV K mg M H d v ∧ RV K mg M H e u := by
  cases h with
  | cons h r =>
    obtain ⟨u, rfl, q⟩ := r.one
    exact ⟨_, _, rfl, h, q⟩

/-! ### ints of a sequence -/
def toInts : List D → Option (List Int)
  | [] => some []
  | .int i :: r => (toInts r).map (i :: ·)
  | _ => none
theorem toInts_ok {K : PySem.W.Frag} {mg : Str → Option Value} {M : Mp} {H : Hp} : ∀ {ds : List D} {vs : List V} {ns : List Int}, RVs K mg M H ds vs → toInts ds = some ns → vs = ns.map V.int
  | [], _, _, .nil, e => by cases e; rfl
  | .int i :: r, _, _, .cons h q, e => by
    unfold toInts at e
    cases h1 : toInts r with
    | none => rw [h1] at e; cases e
    | some ns =>
      rw [h1] at e
      cases e
      cases h
      rw [toInts_ok q h1]
      rfl
  | .non :: _, _, _, _, e => by cases e
  | .bl _ :: _, _, _, _, e => by cases e
  | .str _ :: _, _, _, _, e => by cases e
  | .tup _ :: _, _, _, _, e => by cases e
  | .lst _ :: _, _, _, _, e => by cases e
  | .ref _ :: _, _, _, _, e => by cases e
  | .gl _ :: _, _, _, _, e => by cases e
  | .ty _ :: _, _, _, _, e => by cases e
  | .exc _ :: _, _, _, _, e => by cases e
theorem toInts_map : ∀ ns : List Int, toInts (ns.map D.int) = some ns
  | [] => rfl
  | n :: ns => by
    rw [List.map_cons]
    unfold toInts
    rw [toInts_map ns]
    rfl
def toBools : List D → Option (List Bool)
  | [] => some []
  | .bl i :: r => (toBools r).map (i :: ·)
  | _ => none
theorem toBools_ok {K : PySem.W.Frag} {mg : Str → Option Value} {M : Mp} {H : Hp} : ∀ {ds : List D} {vs : List V} {ns : List Bool}, RVs K mg M H ds vs → toBools ds = some ns → vs = ns.map V.bl
  | [], _, _, .nil, e => by cases e; rfl
  | .bl i :: r, _, _, .cons h q, e => by
    unfold toBools at e
    cases h1 : toBools r with
    | none => rw [h1] at e; cases e
    | some ns =>
      rw [h1] at e
      cases e
      cases h
      rw [toBools_ok q h1]
      rfl
  | .non :: _, _, _, _, e => by cases e
  | .int _ :: _, _, _, _, e => by cases e
  | .str _ :: _, _, _, _, e => by cases e
  | .tup _ :: _, _, _, _, e => by cases e
  | .lst _ :: _, _, _, _, e => by cases e
  | .ref _ :: _, _, _, _, e => by cases e
  | .gl _ :: _, _, _, _, e => by cases e
  | .ty _ :: _, _, _, _, e => by cases e
  | .exc _ :: _, _, _, _, e => by cases e
theorem toBools_map : ∀ ns : List Bool, toBools (ns.map D.bl) = some ns
  | [] => rfl
  | n :: ns => by
    rw [List.map_cons]
    unfold toBools
    rw [toBools_map ns]
    rfl

/-! ### len -/
def gLen (ds : List D) (st : Sto) : Option D := match ds with
  | [.str z] => if z.length ≤ 100000 then some (.int z.length) else none
  | [d] => (seqA st d).map fun xs => .int xs.length
  | _ => none
theorem b_len : CallD X (.builtin "len") gLen := by
  intro pins s σ H vs us Q I rx h
  obtain ⟨M, st, ds, z, r, hd, hg, q⟩ := h
  unfold gLen at hg
  split at hg
  · split at hg
    · rename_i hz
      cases hg
      obtain ⟨v, rfl, h1⟩ := hd.one
      cases h1
      exact call_len_str pins s σ H _ us Q I rx ⟨_, rfl, szl hz, fin_int r q (.int _)⟩
    · cases hg
  · rename_i d _
    cases h1 : seqA st d with
    | none => rw [h1] at hg; cases hg
    | some xs =>
      rw [h1] at hg
      cases hg
      obtain ⟨v, rfl, h2⟩ := hd.one
      obtain ⟨a, ys, rfl, hs, rv⟩ := seqA_ok r h2 h1
      have fin : Q (.int xs.length) H := fin_int r q (.int _)
      rw [rv.length] at fin
      exact call_len_seq pins s σ H _ us Q I rx ⟨a, ys, rfl, hs, fin⟩
  · cases hg

/-! ### sum -/
theorem sum_tup (hc : X.calm = true) : CallR X (.builtin "sum") (fun vs H Q => ∃ (a : Addr) (ns : List Int), vs = [V.ref a] ∧ SqT X.K H a (ns.map V.int) ∧ Q (.int ns.sum) H) := by
  intro pins s σ H vs us Q I r h
  obtain ⟨a, ns, rfl, hs, q⟩ := h
  obtain ⟨its, rv, hl, _⟩ := I.tuple hs
  rw [Vals.ref1 r]
  have hi := rv.ints
  obtain ⟨xs, e⟩ := hi.allInts.items
  have hn : numsOf (intItems xs).toList = ns := by rw [← e]; exact hi.numsOf
  rw [nums_intItems] at hn
  rw [e] at hl
  refine PySem.W.ktm_sumG (I.ok.hd hc) hl fun h' tk t' hk => ?_
  rw [preSum_eq, List.take_of_length_le (by simp), hn]
  exact ⟨.int _, H, I.kept hk, ⟨_, rfl⟩, q⟩
def gSum (ds : List D) (st : Sto) : Option D := match ds with
  | [d] => (seqA st d).bind fun xs => (toInts xs).map fun ns => .int ns.sum
  | _ => none
theorem b_sum (hc : X.calm = true) : CallD X (.builtin "sum") gSum := by
  intro pins s σ H vs us Q I rx h
  obtain ⟨M, st, ds, z, r, hd, hg, q⟩ := h
  unfold gSum at hg
  split at hg
  · rename_i d
    cases h1 : seqA st d with
    | none => rw [h1] at hg; cases hg
    | some xs =>
      cases h3 : toInts xs with
      | none =>
        rw [h1] at hg
        have hg' : ((toInts xs).map fun ns => D.int ns.sum) = some z := hg
        rw [h3] at hg'
        cases hg'
      | some ns =>
        rw [h1] at hg
        have hg' : ((toInts xs).map fun ns => D.int ns.sum) = some z := hg
        rw [h3] at hg'
        cases hg'
        obtain ⟨v, rfl, h2⟩ := hd.one
        obtain ⟨a, ys, rfl, hs, rv⟩ := seqA_ok r h2 h1
        have e := toInts_ok rv h3
        subst e
        have fin : Q (.int ns.sum) H := fin_int r q (.int _)
        rcases hs with hs | hs
        · exact cr_sum hc pins s σ H _ us Q I rx ⟨a, ns, rfl, hs, fin⟩
        · exact sum_tup hc pins s σ H _ us Q I rx ⟨a, ns, rfl, hs, fin⟩
  · cases hg

/-! ### abs, int -/
def gAbs (ds : List D) (_ : Sto) : Option D := match ds with
  | [.int i] => some (.int (if i < 0 then -i else i))
  | _ => none
theorem b_abs : CallD X (.builtin "abs") gAbs := by
  intro pins s σ H vs us Q I rx h
  obtain ⟨M, st, ds, z, r, hd, hg, q⟩ := h
  unfold gAbs at hg
  split at hg
  · cases hg
    obtain ⟨v, rfl, h1⟩ := hd.one
    cases h1
    exact call_abs pins s σ H _ us Q I rx ⟨_, rfl, fin_int r q (.int _)⟩
  · cases hg
def gInt (ds : List D) (_ : Sto) : Option D := match ds with
  | [.int i] => some (.int i)
  | [.bl b] => some (.int (if b then 1 else 0))
  | [.str t] => if t.length ≤ 640 then (PySem.intText? t).map .int else none
  | _ => none
theorem b_int : CallD X (.type "int") gInt := by
  intro pins s σ H vs us Q I rx h
  obtain ⟨M, st, ds, z, r, hd, hg, q⟩ := h
  unfold gInt at hg
  split at hg
  · cases hg
    obtain ⟨v, rfl, h1⟩ := hd.one
    cases h1
    exact call_int1 pins s σ H _ us Q I rx (.inl ⟨_, rfl, fin_int r q (.int _)⟩)
  · cases hg
    obtain ⟨v, rfl, h1⟩ := hd.one
    cases h1
    exact call_int1 pins s σ H _ us Q I rx (.inr ⟨_, rfl, fin_int r q (.int _)⟩)
  · rename_i t
    split at hg
    · rename_i ht
      cases hn : PySem.intText? t with
      | none => rw [hn] at hg; cases hg
      | some n =>
        rw [hn] at hg
        cases hg
        obtain ⟨v, rfl, h1⟩ := hd.one
        cases h1
        exact call_int_str pins s σ H _ us Q I rx ⟨t, n, rfl, hn, ht, fin_int r q (.int _)⟩
    · cases hg
  · cases hg

/-! ### tuple, list -/
def gTuple (ds : List D) (st : Sto) : Option D := match ds with
  | [.tup xs] => some (.tup xs)
  | [d] => (seqL st d).map .tup
  | _ => none
/-- tuple(l), the new tuple as it is made -/
theorem call_tupF : CallR X (.type "tuple") (fun xs H Q => ∃ p ys, xs = [.ref p] ∧ ((SqL X.K H p ys ∧ ∀ its l, H l = none → Q (.ref l) (upd H l (.frz (tupO its) (.tup ys)))) ∨ (SqT X.K H p ys ∧ Q (.ref p) H))) := by
  intro pins s σ H xs us Q I r h
  obtain ⟨p, ys, rfl, h⟩ := h
  obtain ⟨u, rfl, rx⟩ := vals1 r
  cases rx
  rcases h with ⟨sq, w⟩ | ⟨sq, w⟩
  · obtain ⟨its, rr, pl, hz⟩ := I.list sq
    have hn := rr.length
    refine call_tuple_list pl.isList (fun h2 kp => ?_) (by simp only [List.size_toArray] <;> omega)
    have I2 : Inv X pins σ H { s with heap := h2 } := I.kept (t' := s.toks) kp
    exact ⟨.ref h2.objs.size, _, tup_laid I2 rr hz, rfl, w _ _ (I2.hok.fresh (Nat.le_refl _))⟩
  · obtain ⟨its, rr, pl, hz⟩ := I.tuple sq
    exact call_tuple_same pl ⟨.ref p, H, I, rfl, w⟩
theorem b_tuple : CallD X (.type "tuple") gTuple := by
  intro pins s σ H vs us Q I rx h
  obtain ⟨M, st, ds, z, r, hd, hg, q⟩ := h
  unfold gTuple at hg
  split at hg
  · cases hg
    obtain ⟨v, rfl, h1⟩ := hd.one
    cases h1 with
    | @tup a xs _ t rv => exact call_tupF pins s σ H _ us Q I rx ⟨a, xs, rfl, .inr ⟨t.sq, fin_int r q (.tup t rv)⟩⟩
  · rename_i d _
    cases h1 : seqL st d with
    | none => rw [h1] at hg; cases hg
    | some xs =>
      rw [h1] at hg
      cases hg
      obtain ⟨v, rfl, h2⟩ := hd.one
      obtain ⟨a, ys, rfl, hs, rv⟩ := seqL_ok r h2 h1
      exact call_tupF pins s σ H _ us Q I rx ⟨a, ys, rfl, .inl ⟨.inl hs, fin_tup r q rv⟩⟩
  · cases hg
def gList (ds : List D) (st : Sto) : Option D := match ds with
  | [d] => (seqA st d).map .lst
  | _ => none
theorem b_list : CallD X (.type "list") gList := by
  intro pins s σ H vs us Q I rx h
  obtain ⟨M, st, ds, z, r, hd, hg, q⟩ := h
  unfold gList at hg
  split at hg
  · rename_i d
    cases h1 : seqA st d with
    | none => rw [h1] at hg; cases hg
    | some xs =>
      rw [h1] at hg
      cases hg
      obtain ⟨v, rfl, h2⟩ := hd.one
      obtain ⟨a, ys, rfl, hs, rv⟩ := seqA_ok r h2 h1
      exact call_list_of pins s σ H _ us Q I rx ⟨a, ys, rfl, hs, fin_lst r q rv⟩
  · cases hg

/-! ### all, any -/
def gAll (ds : List D) (st : Sto) : Option D := match ds with
  | [d] => (seqL st d).bind fun xs => (toBools xs).map fun bs => .bl (bs.all id)
  | _ => none
theorem b_all (hc : X.calm = true) : CallD X (.builtin "all") gAll := by
  intro pins s σ H vs us Q I rx h
  obtain ⟨M, st, ds, z, r, hd, hg, q⟩ := h
  unfold gAll at hg
  split at hg
  · rename_i d
    cases h1 : seqL st d with
    | none => rw [h1] at hg; cases hg
    | some xs =>
      rw [h1] at hg
      have hg' : ((toBools xs).map fun bs => D.bl (bs.all id)) = some z := hg
      cases h3 : toBools xs with
      | none => rw [h3] at hg'; cases hg'
      | some bs =>
        rw [h3] at hg'
        cases hg'
        obtain ⟨v, rfl, h2⟩ := hd.one
        obtain ⟨a, ys, rfl, hs, rv⟩ := seqL_ok r h2 h1
        have e := toBools_ok rv h3
        subst e
        exact cr_all hc pins s σ H _ us Q I rx ⟨a, bs, rfl, .inl hs, fin_int r q (.bl _)⟩
  · cases hg
def gAny (ds : List D) (st : Sto) : Option D := match ds with
  | [d] => (seqL st d).bind fun xs => (toBools xs).map fun bs => .bl (bs.any id)
  | _ => none
theorem b_any (hc : X.calm = true) : CallD X (.builtin "any") gAny := by
  intro pins s σ H vs us Q I rx h
  obtain ⟨M, st, ds, z, r, hd, hg, q⟩ := h
  unfold gAny at hg
  split at hg
  · rename_i d
    cases h1 : seqL st d with
    | none => rw [h1] at hg; cases hg
    | some xs =>
      rw [h1] at hg
      have hg' : ((toBools xs).map fun bs => D.bl (bs.any id)) = some z := hg
      cases h3 : toBools xs with
      | none => rw [h3] at hg'; cases hg'
      | some bs =>
        rw [h3] at hg'
        cases hg'
        obtain ⟨v, rfl, h2⟩ := hd.one
        obtain ⟨a, ys, rfl, hs, rv⟩ := seqL_ok r h2 h1
        have e := toBools_ok rv h3
        subst e
        exact cr_any hc pins s σ H _ us Q I rx ⟨a, bs, rfl, .inl hs, fin_int r q (.bl _)⟩
  · cases hg

/-! ### sorted of ints -/
def ins (x : Int) : List Int → List Int
  | [] => [x]
  | y :: r => if x ≤ y then x :: y :: r else y :: ins x r
def isort : List Int → List Int
  | [] => []
  | x :: r => ins x (isort r)
theorem ins_perm (x : Int) : ∀ l : List Int, (ins x l).Perm (x :: l)
  | [] => .refl _
  | y :: r => by
    unfold ins
    split
    · exact .refl _
    · exact ((ins_perm x r).cons y).trans (List.Perm.swap x y r)
theorem isort_perm : ∀ l : List Int, (isort l).Perm l
  | [] => .refl _
  | x :: r => (ins_perm x (isort r)).trans ((isort_perm r).cons x)
theorem ins_pw (x : Int) : ∀ l : List Int, l.Pairwise (· ≤ ·) → (ins x l).Pairwise (· ≤ ·)
  | [], _ => by unfold ins; exact List.pairwise_singleton _ _
  | y :: r, h => by
    obtain ⟨h1, h2⟩ := List.pairwise_cons.mp h
    unfold ins
    split
    · rename_i hxy
      refine List.pairwise_cons.mpr ⟨fun z hz => ?_, h⟩
      rcases List.mem_cons.mp hz with e | hz
      · rw [e]; exact hxy
      · exact Int.le_trans hxy (h1 z hz)
    · rename_i hxy
      refine List.pairwise_cons.mpr ⟨fun z hz => ?_, ins_pw x r h2⟩
      rcases List.mem_cons.mp ((ins_perm x r).mem_iff.mp hz) with e | hz
      · rw [e]; omega
      · exact h1 z hz
theorem isort_pw : ∀ l : List Int, (isort l).Pairwise (· ≤ ·)
  | [] => .nil
  | x :: r => ins_pw x _ (isort_pw r)
theorem sorted_one {a b : List Int} (h : a.Perm b) (ha : a.Pairwise (· ≤ ·)) (hb : b.Pairwise (· ≤ ·)) : a = b := by
  induction a generalizing b with
  | nil => exact (List.nil_perm.mp h).symm
  | cons x r ih =>
    cases b with
    | nil => exact absurd h.symm (by intro z; have := z.length_eq; simp at this)
    | cons y t =>
      obtain ⟨a1, a2⟩ := List.pairwise_cons.mp ha
      obtain ⟨b1, b2⟩ := List.pairwise_cons.mp hb
      have e : x = y := by
        have h1 : x ∈ y :: t := h.mem_iff.mp List.mem_cons_self
        have h2 : y ∈ x :: r := h.mem_iff.mpr List.mem_cons_self
        rcases List.mem_cons.mp h1 with e | h1
        · exact e
        · rcases List.mem_cons.mp h2 with e | h2
          · exact e.symm
          · have := a1 y h2
            have := b1 x h1
            omega
      subst e
      rw [ih ((List.perm_cons x).mp h) a2 b2]
theorem sorted_seq {prog : Program} {w : World} {A : Around} {E : Value → Shared → Prop} {s : Shared} {it : Addr} {T : String} {o : Obj} {vs : List Value} {ns : List Int} {n : Nat} {Q : Value → Shared → Prop} (hT : T = "list" ∨ T = "tuple")
    (ho : s.heap.get? it = some o) (hc : o.cls = .type T) (hd : o.data = .seq vs.toArray n) (hI : IntsAre vs ns) (h64 : vs.length < 64)
    (h : ∀ h' p (out : Array Value) (c : Nat), (∀ b o, s.heap.get? b = some o → h'.get? b = some o) → s.heap.get? p = none → h'.get? p = some (seqObj "list" out c) → IntsAre out.toList (isort ns) → Q (.ref p) { s with heap := h' }) :
    wpAny (model prog w) A (call (.builtin "sorted") [.ref it]) Q E s := by
  have hsz : vs.length ≤ sizeLine := by rw [sizeLine_eq]; omega
  refine Calls.call_function_entry kind_sorted plain_sorted entry_sorted (args_sorted1 _) ?_
  unfold Builtin.«sorted»
  refine wpAny_bind (m := checkCount "sorted" 1 1 _) (wpAny_pure ?_)
  refine wpAny_bind (wpAny_collect_seq it hT ho hc hd (fun h' k => ?_) (by rw [List.size_toArray]; exact hsz))
  have hge : s.heap.get? h'.objs.size = none := by
    cases q : s.heap.get? h'.objs.size with
    | none => rfl
    | some u => exact absurd (Heap.lt_size (k _ u q)) (Nat.lt_irrefl _)
  refine wpAny_bind (wpAny_newList ?_ (by simpa using hsz))
  have ev : vs.toArray.toList = vs := by simp
  rw [ev]
  have hoL : (h'.push (seqObj "list" vs.toArray 0)).get? h'.objs.size = some (seqObj "list" vs.toArray 0) := Heap.get?_push_size _ rfl
  refine wpAny_bind (wpAny_holding (wpAny_call_entry slot_list_sort ⟨_, hoL, rfl⟩ entry_list_sort (list_sort_tree hoL hI h64 fun out ns' a1 a2 a3 => ⟨_, rfl, ?_⟩) (args_list_sort _)))
  obtain ⟨c, hcc⟩ := sortedHeap_at (vs := vs) (out := out) hoL
  have e : ns' = isort ns := sorted_one (a2.trans (isort_perm ns).symm) a3 (isort_pw ns)
  subst e
  refine wpAny_pure ⟨_, rfl, h _ h'.objs.size out c (fun b u e => ?_) hge hcc a1⟩
  have q := k b u e
  have hlt := Heap.lt_size q
  show (sortedHeap (h'.push (seqObj "list" vs.toArray 0)) h'.objs.size vs out).get? b = some u
  rw [sortedHeap_old (Nat.ne_of_lt hlt) (by rw [size_push']; exact Nat.lt_succ_of_lt hlt)]
  exact Heap.get?_push_of_some _ q
theorem none_of_get {P : Program} {w : World} {H : Hp} {h : Heap} {p : Addr} (x : HOk P w H h) (e : h.get? p = none) : H p = none := by
  cases q : H p with
  | none => rfl
  | some u =>
    obtain ⟨o, e2⟩ := objOk_get (x p u q)
    rw [e] at e2
    cases e2
def gSorted (ds : List D) (st : Sto) : Option D := match ds with
  | [d] => (seqA st d).bind fun xs => (toInts xs).bind fun ns => if ns.length < 64 then some (.lst ((isort ns).map .int)) else none
  | _ => none
theorem vals_ints : ∀ {ns : List Int} {us : List Value}, IntsAre us ns → Vals (ns.map V.int) us := fun h => vals_of_ints h
theorem rvs_ints {K : PySem.W.Frag} {mg : Str → Option Value} {M : Mp} {H : Hp} : ∀ ns : List Int, RVs K mg M H (ns.map D.int) (ns.map V.int)
  | [] => .nil
  | n :: ns => .cons (.int n) (rvs_ints ns)
theorem b_sorted : CallD X (.builtin "sorted") gSorted := by
  intro pins s σ H vs us Q I rx h
  obtain ⟨M, st, ds, z, r, hd, hg, q⟩ := h
  unfold gSorted at hg
  split at hg
  · rename_i d
    cases h1 : seqA st d with
    | none => rw [h1] at hg; cases hg
    | some xs =>
      rw [h1] at hg
      have hg' : ((toInts xs).bind fun ns => if ns.length < 64 then some (D.lst ((isort ns).map .int)) else none) = some z := hg
      cases h3 : toInts xs with
      | none => rw [h3] at hg'; cases hg'
      | some ns =>
        rw [h3] at hg'
        have hg2 : (if ns.length < 64 then some (D.lst ((isort ns).map .int)) else none) = some z := hg'
        split at hg2
        · rename_i h64
          cases hg2
          obtain ⟨v, rfl, h2⟩ := hd.one
          obtain ⟨a, ys, rfl, hs, rv⟩ := seqA_ok r h2 h1
          have e := toInts_ok rv h3
          subst e
          rw [Vals.ref1 rx]
          have fin : ∀ h' p (out : Array Value) (c : Nat), (∀ b o, s.heap.get? b = some o → h'.get? b = some o) → s.heap.get? p = none → h'.get? p = some (seqObj "list" out c) → IntsAre out.toList (isort ns) → EP X pins σ Q (.ref p) { s with heap := h' } := fun h' p out c k hp e hi => by
            have hn := none_of_get I.hok hp
            refine ⟨.ref p, upd H p (.lst ((isort ns).map V.int)), I.laidN (t' := s.toks) k hp hn ⟨?_, out.toList, c, vals_ints hi, ?_⟩, rfl, fin_lst r q (rvs_ints _) p hn⟩
            · rw [List.length_map, (isort_perm ns).length_eq]
              exact small64 h64
            · rw [e]
          rcases hs with hs | hs
          · obtain ⟨its, rr, ⟨o, n, ho, hc, _, hdd⟩, _⟩ := I.list hs
            have hi := rr.ints
            exact sorted_seq (.inl rfl) ho hc hdd hi (by rw [hi.length]; exact h64) fin
          · obtain ⟨its, rr, ⟨o, ho, hc, n, hdd⟩, _⟩ := I.tuple hs
            have hi := rr.ints
            exact sorted_seq (.inr rfl) ho hc hdd hi (by rw [hi.length]; exact h64) fin
        · cases hg2
  · cases hg

/-! ### min, max -/
mutual
def ofPy : PyData → D
  | .none => .non
  | .bool b => .bl b
  | .int i => .int i
  | .str s => .str s
  | .list xs => .lst (ofPys xs)
  | .tuple xs => .tup (ofPys xs)
  | .dict _ => .non
def ofPys : List PyData → List D
  | [] => []
  | x :: xs => ofPy x :: ofPys xs
end
mutual
theorem ofPy_to : ∀ {d : D} {p : PyData}, toPyD d = some p → ofPy p = d
  | .non, _, e => by unfold toPyD at e; cases e; rfl
  | .bl b, _, e => by unfold toPyD at e; cases e; rfl
  | .int b, _, e => by unfold toPyD at e; cases e; rfl
  | .str b, _, e => by unfold toPyD at e; cases e; rfl
  | .tup ds, _, e => by
    unfold toPyD at e
    cases q : toPys ds with
    | none => rw [q] at e; cases e
    | some ps => rw [q] at e; cases e; show D.tup (ofPys ps) = _; rw [ofPys_to q]
  | .lst ds, _, e => by
    unfold toPyD at e
    cases q : toPys ds with
    | none => rw [q] at e; cases e
    | some ps => rw [q] at e; cases e; show D.lst (ofPys ps) = _; rw [ofPys_to q]
  | .ref _, _, e => by unfold toPyD at e; cases e
  | .gl _, _, e => by unfold toPyD at e; cases e
  | .ty _, _, e => by unfold toPyD at e; cases e
  | .exc _, _, e => by unfold toPyD at e; cases e
theorem ofPys_to : ∀ {ds : List D} {ps : List PyData}, toPys ds = some ps → ofPys ps = ds
  | [], _, e => by unfold toPys at e; cases e; rfl
  | d :: ds, _, e => by
    unfold toPys at e
    cases q : toPyD d with
    | none => rw [q] at e; cases e
    | some p =>
      cases q2 : toPys ds with
      | none => rw [q, q2] at e; cases e
      | some ps => rw [q, q2] at e; cases e; show ofPy p :: ofPys ps = _; rw [ofPy_to q, ofPys_to q2]
end
theorem toPys_get : ∀ {ds : List D} {ps : List PyData} {i : Nat} {d : D}, toPys ds = some ps → ds[i]? = some d → ∃ p, toPyD d = some p ∧ ps[i]? = some p
  | [], _, _, _, _, h => by simp at h
  | d :: ds, ps, i, d', e, h => by
    unfold toPys at e
    cases q : toPyD d with
    | none => rw [q] at e; cases e
    | some p =>
      cases q2 : toPys ds with
      | none => rw [q, q2] at e; cases e
      | some ps' =>
        rw [q, q2] at e
        cases e
        cases i with
        | zero => simp at h; subst h; exact ⟨p, q, rfl⟩
        | succ i => exact toPys_get (i := i) q2 (by simpa using h)
def noneB : PyData → Bool
  | .none => true
  | _ => false
def alikeB (xs : List PyData) : Bool := xs.all fun x => !noneB x && xs.all fun y => PySem.W.alike x y
theorem alikeB_ok {xs : List PyData} (h : alikeB xs = true) : PySem.W.AlikeAll xs := by
  have h' := List.all_eq_true.mp h
  refine ⟨fun x hx y hy => ?_, fun x hx e => ?_⟩
  · exact List.all_eq_true.mp (Bool.and_eq_true_iff.mp (h' x hx)).2 y hy
  · have := (Bool.and_eq_true_iff.mp (h' x hx)).1
    rw [e] at this
    cases this
def gBest (two : Int → Int → Int) (best : PyData → List PyData → PyData) (ds : List D) (st : Sto) : Option D := match ds with
  | [.int i, .int j] => some (.int (two i j))
  | [d] => (seqA st d).bind fun xs => (toPys xs).bind fun ps => match ps with
    | [] => none
    | p :: ps => if alikeB (p :: ps) = true ∧ PyData.depthAll (p :: ps) ≤ 60 then some (ofPy (best p ps)) else none
  | _ => none
def gMin : List D → Sto → Option D := gBest (fun i j => if j < i then j else i) PySem.W.minD
def gMax : List D → Sto → Option D := gBest (fun i j => if j > i then j else i) PySem.W.maxD
theorem best_pick {M : Mp} {H : Hp} {pins : List (Addr × Obj)} {σ : L2.St} {s : Shared} {xs : List D} {ys : List V} {its : List Value} {ps : List PyData} {i : Nat} {v : Value} {b : PyData} {h' : Heap} {bs : List Addr} (I : Inv X pins σ H s)
    (rv : RVs X.K mg M H xs ys) (hp : toPys xs = some ps) (rr : Vals ys its) (hv : its[i]? = some v) (rd : Reads h' v b bs) (k : ∀ b o, s.heap.get? b = some o → h'.get? b = some o) : ∃ x, RelV x v ∧ RV X.K mg M H (ofPy b) x := by
  obtain ⟨hi, e⟩ := List.getElem?_eq_some_iff.mp hv
  have hy : i < ys.length := by rw [rr.length]; exact hi
  obtain ⟨d, e1, r1⟩ := rv.get' (List.getElem?_eq_getElem hy)
  obtain ⟨u, e2, r2⟩ := rr.get (List.getElem?_eq_getElem hy)
  rw [hv] at e2
  cases e2
  obtain ⟨p, e3, e4⟩ := toPys_get hp e1
  obtain ⟨as, r3⟩ := Dp.reads I p _ _ (toPyD_ok r1 e3) r2
  have e5 : p = b := PySem.SeqAt.plain_unique p b v as bs (toPyD_plain e3) (Reads.keeps k r3) rd
  rw [← e5, ofPy_to e3]
  exact ⟨_, r2, r1⟩
theorem best_ok {id : String} {two : Int → Int → Int} {best : PyData → List PyData → PyData} (hu : X.A.units + 100 < cLine)
    (h2 : CallR X (.builtin id) (fun xs H Q => ∃ i j, xs = [.int i, .int j] ∧ Q (.int (two i j)) H))
    (hl : ∀ {E : Value → Shared → Prop} {s : Shared} {l : Addr} {vs : Array Value} {x : PyData} {xs : List PyData} {as : List Addr} {Q : Value → Shared → Prop}, s.heap.IsList l vs → ReadsAll s.heap vs.toList (x :: xs) as → PySem.W.AlikeAll (x :: xs) → X.A.units + 1 + PyData.depthAll (x :: xs) < cLine →
      (∀ (i : Nat) v h' tk bs, vs[i]? = some v → Reads h' v (best x xs) bs → (∀ b o, s.heap.get? b = some o → h'.get? b = some o) → Q v { s with heap := h', toks := tk }) → wpAny (model X.prog X.w) X.A (call (.builtin id) [.ref l]) Q E s)
    (ht : ∀ {E : Value → Shared → Prop} {s : Shared} {l : Addr} {vs : Array Value} {x : PyData} {xs : List PyData} {as : List Addr} {Q : Value → Shared → Prop}, s.heap.IsTuple l vs → ReadsAll s.heap vs.toList (x :: xs) as → PySem.W.AlikeAll (x :: xs) → X.A.units + 1 + PyData.depthAll (x :: xs) < cLine →
      (∀ (i : Nat) v h' tk bs, vs[i]? = some v → Reads h' v (best x xs) bs → (∀ b o, s.heap.get? b = some o → h'.get? b = some o) → Q v { s with heap := h', toks := tk }) → wpAny (model X.prog X.w) X.A (call (.builtin id) [.ref l]) Q E s) : CallD X (.builtin id) (gBest two best) := by
  intro pins s σ H vs us Q I rx h
  obtain ⟨M, st, ds, z, r, hd, hg, q⟩ := h
  unfold gBest at hg
  split at hg
  · cases hg
    obtain ⟨v, u, rfl, a1, a2⟩ := hd.two
    cases a1
    cases a2
    exact h2 pins s σ H _ us Q I rx ⟨_, _, rfl, fin_int r q (.int _)⟩
  · rename_i d
    cases h1 : seqA st d with
    | none => rw [h1] at hg; cases hg
    | some xs =>
      rw [h1] at hg
      have hg' : ((toPys xs).bind fun ps => match ps with
        | [] => none
        | p :: ps => if alikeB (p :: ps) = true ∧ PyData.depthAll (p :: ps) ≤ 60 then some (ofPy (best p ps)) else none) = some z := hg
      cases h3 : toPys xs with
      | none => rw [h3] at hg'; cases hg'
      | some ps =>
        rw [h3] at hg'
        cases ps with
        | nil => cases hg'
        | cons p ps =>
          have hg2 : (if alikeB (p :: ps) = true ∧ PyData.depthAll (p :: ps) ≤ 60 then some (ofPy (best p ps)) else none) = some z := hg'
          split at hg2
          · rename_i hc
            cases hg2
            obtain ⟨v, rfl, h4⟩ := hd.one
            obtain ⟨a, ys, rfl, hs, rv⟩ := seqA_ok r h4 h1
            rw [Vals.ref1 rx]
            have fin : ∀ {its : List Value}, Vals ys its → ∀ (i : Nat) v h' tk bs, its.toArray[i]? = some v → Reads h' v (best p ps) bs → (∀ b o, s.heap.get? b = some o → h'.get? b = some o) → EP X pins σ Q v { s with heap := h', toks := tk } := fun {its} rr i v h' tk bs hv rd k => by
              obtain ⟨x, e1, e2⟩ := best_pick I rv h3 rr (by simpa using hv) rd k
              exact ⟨x, H, I.kept (t' := tk) k, e1, fin_int r q e2⟩
            rcases hs with hs | hs
            · obtain ⟨its, rr, ⟨o, n, ho, hc2, hn2, hdd⟩, _⟩ := I.list hs
              obtain ⟨as, rd⟩ := Dp.readsAll I (p :: ps) ys its (toPys_ok rv h3) rr
              exact hl (PlainL.isList ⟨o, n, ho, hc2, hn2, hdd⟩) (by simpa using rd) (alikeB_ok hc.1) (by omega) (fin rr)
            · obtain ⟨its, rr, ht', _⟩ := I.tuple hs
              obtain ⟨as, rd⟩ := Dp.readsAll I (p :: ps) ys its (toPys_ok rv h3) rr
              exact ht ht' (by simpa using rd) (alikeB_ok hc.1) (by omega) (fin rr)
          · cases hg2
  · cases hg
theorem b_min (hu : X.A.units + 100 < cLine) (hc : X.calm = true) (hh : X.A.handled = none) : CallD X (.builtin "min") gMin :=
  best_ok hu (call_min2 hc) (fun a b c d e => PySem.W.min_list_data hh a b c d e) (fun a b c d e => PySem.W.min_tuple_data hh a b c d e)
theorem b_max (hu : X.A.units + 100 < cLine) (hc : X.calm = true) (hh : X.A.handled = none) : CallD X (.builtin "max") gMax :=
  best_ok hu (call_max2 hc) (fun a b c d e => PySem.W.max_list_data hh a b c d e) (fun a b c d e => PySem.W.max_tuple_data hh a b c d e)

/-! ### isinstance, a built-in class -/
def tyName (st : Sto) : D → Option String
  | .non => some "NoneType"
  | .bl _ => some "bool"
  | .int _ => some "int"
  | .str _ => some "str"
  | .tup _ => some "tuple"
  | .lst _ => some "list"
  | .ref k => match st[k]? with
    | some (.lst _) => some "list"
    | some (.dct _) => some "dict"
    | _ => none
  | _ => none
theorem tyName_ok {K : PySem.W.Frag} {mg : Str → Option Value} {M : Mp} {st : Sto} {H : Hp} {d : D} {v : V} {t : String} (r : RelH K mg M st H) (h : RV K mg M H d v) (e : tyName st d = some t) : TyX K H v (.type t) := by
  cases h with
  | non => cases e; exact .base .non
  | bl b => cases e; exact .base (.bl b)
  | int b => cases e; exact .base (.int b)
  | str b => cases e; exact .base (.str b)
  | tup t q =>
    cases e
    rcases t with ⟨o, _, h1, _⟩ | ⟨⟨o, its, n, h1, h2, _⟩, _⟩
    · exact .fTuple h1
    · exact .kTuple h1 h2
  | lst t q =>
    cases e
    rcases t with ⟨h1 | ⟨o, h1⟩, _⟩
    · exact .base (.lst h1)
    · exact .base (.frz h1)
  | ref hk =>
    unfold tyName at e
    dsimp only at e
    split at e
    · rename_i ds hc
      cases e
      obtain ⟨vs, q1, q2⟩ := r.cell _ _ _ hc hk
      exact .base (.lst q1)
    · rename_i ds hc
      cases e
      obtain ⟨vs, q1, q2⟩ := r.cell _ _ _ hc hk
      exact .base (.dK q1)
    · cases e
  | _ => cases e
def gIsi (ds : List D) (st : Sto) : Option D := match ds with
  | [d, .ty n] => (tyName st d).bind fun t => (kitB t n).map .bl
  | _ => none
theorem b_isi : CallD X (.builtin "isinstance") gIsi := by
  intro pins s σ H vs us Q I rx h
  obtain ⟨M, st, ds, z, r, hd, hg, q⟩ := h
  unfold gIsi at hg
  split at hg
  · rename_i d n
    cases h1 : tyName st d with
    | none => rw [h1] at hg; cases hg
    | some t =>
      rw [h1] at hg
      have hg' : (kitB t n).map D.bl = some z := hg
      cases h2 : kitB t n with
      | none => rw [h2] at hg'; cases hg'
      | some b =>
        rw [h2] at hg'
        cases hg'
        obtain ⟨v, u, rfl, a1, a2⟩ := hd.two
        cases a2
        exact call_isi pins s σ H _ us Q I rx ⟨v, .ty n, .type t, .type n, b, rfl, .ty n, tyName_ok r a1 h1, kit_ty h2, fin_int r q (.bl _)⟩
  · cases hg
end
end Fb

/-! Fb.F: targets, what is walked, for, while, comprehensions. -/
namespace Fb
open PySem PySem.Spec PyProof.Rows L2

/-! ### targets -/
inductive Tg where
  | nm (j : Nat) | tp (js : List Nat)
def Tg.slots : Tg → List Nat
  | .nm j => [j]
  | .tp js => js
def setAll {α : Type} : List Nat → List α → List (Option α) → Option (List (Option α))
  | [], [], env => some env
  | j :: js, d :: ds, env => setAll js ds (env.set j (some d))
  | _, _, _ => none
def bindT (t : Tg) (d : D) (env : Env) (st : Sto) : Option Env := match t with
  | .nm j => some (env.set j (some d))
  | .tp js => (seqA st d).bind fun ds => setAll js ds env
section
variable {K : PySem.W.Frag} {mg : Str → Option Value}
def Off (js : List Nat) (σ σ' : L2.St) : Prop := σ'.length = σ.length ∧ ∀ i, i ∉ js → σ'[i]? = σ[i]?
theorem RelE.set {M : Mp} {env : Env} {σ : L2.St} {H : Hp} {d : D} {v : V} (r : RelE K mg M env σ H) (h : RV K mg M H d v) (j : Nat) : RelE K mg M (env.set j (some d)) (σ.set j (some v)) H := by
  refine ⟨by rw [List.length_set, List.length_set]; exact r.len, fun i e he => ?_⟩
  by_cases hij : i = j
  · subst hij
    by_cases hl : i < env.length
    · rw [List.getElem?_set_self hl] at he
      cases he
      exact ⟨v, List.getElem?_set_self (by rw [← r.len]; exact hl), h⟩
    · rw [List.getElem?_eq_none (by rw [List.length_set]; omega)] at he
      cases he
  · rw [List.getElem?_set_ne (Ne.symm hij)] at he
    obtain ⟨u, a, b⟩ := r.get i e he
    exact ⟨u, by rw [List.getElem?_set_ne (Ne.symm hij)]; exact a, b⟩
theorem Off.set {js : List Nat} {σ σ' : L2.St} {j : Nat} {v : Option V} (h : Off js σ σ') : Off (j :: js) σ (σ'.set j v) := by
  refine ⟨by rw [List.length_set]; exact h.1, fun i hi => ?_⟩
  rw [List.getElem?_set_ne fun e => hi (by rw [e]; exact List.mem_cons_self)]
  exact h.2 i fun z => hi (List.mem_cons_of_mem _ z)
/-- the reading of a target -/
def gD (K : PySem.W.Frag) (mg : Str → Option Value) (t : Tg) : TG := fun v σ H Q => ∃ M env st d env', Rel K mg M env st σ H ∧ RV K mg M H d v ∧ bindT t d env st = some env' ∧ ∀ σ', Rel K mg M env' st σ' H → Off t.slots σ σ' → Q σ' H
def gNames : List Nat → TGs
  | [] => gNil
  | j :: js => gCons (gName j) (gNames js)
theorem names_ok {M : Mp} {st : Sto} {H : Hp} {Q : L2.St → Hp → Prop} : ∀ (js : List Nat) (ds : List D) (vs : List V) (env env' : Env) (σ : L2.St), Rel K mg M env st σ H → RVs K mg M H ds vs → setAll js ds env = some env' → (∀ σ', Rel K mg M env' st σ' H → Off js σ σ' → Q σ' H) → gNames js vs σ H Q
  | [], [], _, env, env', σ, r, .nil, e, q => by
    cases e
    exact ⟨rfl, q σ r ⟨rfl, fun _ _ => rfl⟩⟩
  | [], _ :: _, _, _, _, _, _, _, e, _ => by cases e
  | _ :: _, [], _, _, _, _, _, _, e, _ => by cases e
  | j :: js, d :: ds, _, env, env', σ, r, .cons h rv, e, q => by
    refine ⟨_, _, rfl, ?_⟩
    refine names_ok js ds _ (env.set j (some d)) env' _ ⟨r.h, r.e.set h j⟩ rv e fun σ' r' o => q σ' r' ⟨o.1.trans (by rw [List.length_set]), fun i hi => ?_⟩
    rw [o.2 i fun z => hi (List.mem_cons_of_mem _ z), List.getElem?_set_ne fun e => hi (by rw [e]; exact List.mem_cons_self)]
end
section
variable {X : Cx} {W : WX}
theorem _root_.L2.PG.fb {X : Cx} {e : Expr} {t t' : TG} (h : PG X e t) (k : ∀ v σ H Q, t' v σ H Q → t v σ H Q) : PG X e t' := ⟨fun pins s σ H v u Q I r q => h.run pins s σ H v u Q I r (k v σ H Q q)⟩
abbrev XG (X : Cx) (e : Expr) (t : Tg) : Prop := PG X e (gD X.K X.mg t)
theorem g_nm {e : Expr} {j : Nat} (h : PG X e (gName j)) : XG X e (.nm j) := h.fb fun v σ H Q ⟨M, env, st, d, env', r, rv, e, q⟩ => by
  cases e
  exact q _ ⟨r.h, r.e.set rv j⟩ ⟨by rw [List.length_set], fun i hi => List.getElem?_set_ne fun e => hi (by rw [e]; exact List.mem_singleton.mpr rfl)⟩
/-- names in a tuple, unpacked from a tuple or a list -/
theorem tup_or {es : List Expr} {k n : Nat} {t : TGs} {pos : Pos} (hc : X.calm = true) (h : PGs X es t)
    (hn : (assignEach es X.env).length = n) (hst : (assignEach es X.env).findIdx? (·.1) = none) : PG X (.Tuple es k pos) (fun v σ H Q => gTup X.K n t v σ H Q ∨ gLst X.K n t v σ H Q) :=
  ⟨fun pins s σ H v u Q I r q => q.elim ((pg_tup hc h hn hst).run pins s σ H v u Q I r) ((pg_lst hc h hn hst).run pins s σ H v u Q I r)⟩
theorem setAll_len {α : Type} : ∀ (js : List Nat) (ds : List α) (env env' : List (Option α)), setAll js ds env = some env' → ds.length = js.length
  | [], [], _, _, _ => rfl
  | [], _ :: _, _, _, e => by cases e
  | _ :: _, [], _, _, e => by cases e
  | j :: js, d :: ds, env, env', e => by rw [List.length_cons, List.length_cons, setAll_len js ds _ env' e]
theorem g_tp {es : List Expr} {k : Nat} {js : List Nat} {pos : Pos} (hc : X.calm = true) (h : PGs X es (gNames js))
    (hn : (assignEach es X.env).length = js.length := by rfl) (hst : (assignEach es X.env).findIdx? (·.1) = none := by rfl) : XG X (.Tuple es k pos) (.tp js) :=
  (tup_or hc h hn hst).fb fun v σ H Q ⟨M, env, st, d, env', r, rv, e, q⟩ => by
    have e' : ((seqA st d).bind fun ds => setAll js ds env) = some env' := e
    cases h1 : seqA st d with
    | none => rw [h1] at e'; cases e'
    | some ds =>
      rw [h1] at e'
      have e2 : setAll js ds env = some env' := e'
      obtain ⟨a, xs, rfl, hs, rvs⟩ := seqA_ok r.h rv h1
      have hl : xs.length = js.length := by rw [← rvs.length]; exact setAll_len js ds env env' e2
      have fin := names_ok (Q := Q) js ds xs env env' σ r rvs e2 q
      rcases hs with hs | hs
      · exact .inr ⟨a, xs, rfl, hs, hl, fin⟩
      · exact .inl ⟨a, xs, rfl, hs, hl, fin⟩

/-! ### what is walked -/
structure Src where
  n : Nat
  cur : Sto → Option (List D)
def Src.at (S : Src) (st : Sto) (i : Nat) : Option D := match S.cur st with
  | some ds => if ds.length = S.n then ds[i]? else none
  | none => none
def Src.fix (ds : List D) : Src := ⟨ds.length, fun _ => some ds⟩
structure Walk (K : PySem.W.Frag) (mg : Str → Option Value) (J : It) (M : Mp) (H : Hp) (S : Src) : Prop where
  stop : ∀ M' H' st ds i, ExtW M H M' H' → RelH K mg M' st H' → S.cur st = some ds → ds.length = S.n → i = S.n → J.stop i H'
  go : ∀ M' H' st ds i d, ExtW M H M' H' → RelH K mg M' st H' → S.cur st = some ds → ds.length = S.n → ds[i]? = some d → J.go i H'
  yld : ∀ M' H' st ds i d x H2, ExtW M H M' H' → RelH K mg M' st H' → S.cur st = some ds → ds.length = S.n → ds[i]? = some d → J.yld i H' x H2 → Ext M' H' M' H2 ∧ RelH K mg M' st H2 ∧ RV K mg M' H2 d x
abbrev Fi := Env → Sto → R Src
def iD (K : PySem.W.Frag) (mg : Str → Option Value) (W : WX) (f : Fi) : TI := fun σ H Q => ∃ M env st, Rel K mg M env st σ H ∧ match f env st with
  | .ok S st' => ∀ M' H' J, Ext M H M' H' → RelH K mg M' st' H' → Walk K mg J M' H' S → Q J H'
  | .exc x st' => ∀ M' H' C, Ext M H M' H' → RelH K mg M' st' H' → mg x = some (.ref C) → W (.ref C) none σ H'
  | .bad => False
theorem _root_.L2.PI.fb {X : Cx} {tg e : Expr} {t t' : TI} (h : PI X tg e t) (k : ∀ σ H Q, t' σ H Q → t σ H Q) : PI X tg e t' := ⟨fun pins s σ H Q I q => h.run pins s σ H Q I (k σ H Q q)⟩
abbrev XI (X : Cx) (W : WX) (tg e : Expr) (f : Fi) : Prop := PI X tg e (iD X.K X.mg W f)
/-- the source of a value -/
def srcOf (d : D) (st : Sto) : Option Src := match d with
  | .tup ds => some (.fix ds)
  | .lst ds => some (.fix ds)
  | .ref k => match st[k]? with
    | some (.lst ds) => some ⟨ds.length, fun st => match st[k]? with
      | some (.lst ds) => some ds
      | _ => none⟩
    | _ => none
  | _ => none
def fSrc (f : Fe) : Fi := fun env st => (f env st).bind fun d st => match srcOf d st with
  | some S => .ok S st
  | none => .bad
theorem iD_bind {K : PySem.W.Frag} {mg : Str → Option Value} {α β : Type} {Rp : Mp → Hp → α → β → Prop} {M : Mp} {σ : L2.St} {H : Hp} {r : R α} {g : α → Sto → R Src} {Q : It → Hp → Prop} {Q' : β → Hp → Prop}
    (h : match r.bind g with
      | .ok S st' => ∀ M' H' J, Ext M H M' H' → RelH K mg M' st' H' → Walk K mg J M' H' S → Q J H'
      | .exc x st' => ∀ M' H' C, Ext M H M' H' → RelH K mg M' st' H' → mg x = some (.ref C) → W (.ref C) none σ H'
      | .bad => False)
    (k : ∀ M1 d st1 v H1, r = .ok d st1 → Ext M H M1 H1 → RelH K mg M1 st1 H1 → Rp M1 H1 d v → (match g d st1 with
      | .ok S st' => ∀ M' H' J, Ext M1 H1 M' H' → RelH K mg M' st' H' → Walk K mg J M' H' S → Q J H'
      | .exc x st' => ∀ M' H' C, Ext M1 H1 M' H' → RelH K mg M' st' H' → mg x = some (.ref C) → W (.ref C) none σ H'
      | .bad => False) → Q' v H1) : Post K mg Rp W M σ H r Q' := by
  cases r with
  | ok d st =>
    intro M' v H' x rh rv
    refine k M' d st v H' rfl x rh rv ?_
    have h' : match g d st with
      | .ok S st' => ∀ M' H' J, Ext M H M' H' → RelH K mg M' st' H' → Walk K mg J M' H' S → Q J H'
      | .exc x st' => ∀ M' H' C, Ext M H M' H' → RelH K mg M' st' H' → mg x = some (.ref C) → W (.ref C) none σ H'
      | .bad => False := h
    cases e : g d st with
    | ok d2 st2 => rw [e] at h'; exact fun M2 H2 J y => h' M2 H2 J (x.trans y)
    | exc z st2 => rw [e] at h'; exact fun M2 H2 C y => h' M2 H2 C (x.trans y)
    | bad => rw [e] at h'; exact h'
  | exc z st => exact h
  | bad => exact h
/-- a list or a tuple, walked -/
theorem pi_any {tg e : Expr} {te : TE} (hl : PE X e te) : PI X tg e (fun σ H R => te σ H fun x H1 => ∃ a, x = .ref a ∧ (((∃ xs, SqL X.K H1 a xs) ∧ R (Itl X.K a) H1) ∨ ((∃ xs, SqT X.K H1 a xs) ∧ R (Itt X.K a) H1))) := by
  refine ⟨fun pins s σ H R I h => ?_⟩
  refine thn (hl.run pins s σ H _ I h) fun v s1 ⟨x, H1, I1, r1, a, ex, q⟩ => ?_
  subst ex
  cases r1
  rcases q with ⟨⟨xs, hs⟩, q⟩ | ⟨⟨xs, hs⟩, q⟩
  · obtain ⟨its, rv, p, hz⟩ := I1.list hs
    refine wpAny_pyIter_list p.isList ?_
    refine ⟨s1.heap.objs.size, [s1.heap.objs.size], _, _, H1, rfl, I1.kept (t' := s1.toks) fun b o e => Heap.get?_push_of_some _ e, turn_list a _, ⟨_, Heap.get?_push_size _ rfl, rfl, rfl⟩, fun b hb => ?_, q⟩
    have e : b = s1.heap.objs.size := by simpa using hb
    subst e
    exact I1.fpOk (Nat.le_refl _) (I1.hok.fresh (Nat.le_refl _))
  · obtain ⟨its, rv, p, hz⟩ := I1.tuple hs
    refine wpAny_pyIter_tuple (show s1.heap.IsTuple a its.toArray from p) ?_
    refine ⟨s1.heap.objs.size, [s1.heap.objs.size], _, _, H1, rfl, I1.kept (t' := s1.toks) fun b o e => Heap.get?_push_of_some _ e, turn_tuple a _, ⟨_, Heap.get?_push_size _ rfl, rfl, rfl⟩, fun b hb => ?_, q⟩
    have e : b = s1.heap.objs.size := by simpa using hb
    subst e
    exact I1.fpOk (Nat.le_refl _) (I1.hok.fresh (Nat.le_refl _))
theorem walk_lst {K : PySem.W.Frag} {mg : Str → Option Value} {M : Mp} {H : Hp} {a : Addr} {xs : List V} {ds : List D} (t : TrL M H a xs) (r : RVs K mg M H ds xs) : Walk K mg (Itl K a) M H (.fix ds) where
  stop := fun M' H' st es i x rh e1 e2 e3 => ⟨xs, (t.monoW x).sq, by rw [← r.length]; exact Nat.le_of_eq e3.symm⟩
  go := fun M' H' st es i d x rh e1 e2 e3 => by
    cases e1
    obtain ⟨v, q, _⟩ := r.get e3
    exact ⟨xs, v, (t.monoW x).sq, q⟩
  yld := fun M' H' st es i d v H2 x rh e1 e2 e3 y => by
    cases e1
    obtain ⟨rfl, f⟩ := y
    obtain ⟨u, q, rv⟩ := (r.monoW x).get e3
    rw [f xs (t.monoW x).sq] at q
    cases q
    exact ⟨Ext.refl _ _, rh, rv⟩
theorem walk_tup {K : PySem.W.Frag} {mg : Str → Option Value} {M : Mp} {H : Hp} {a : Addr} {xs : List V} {ds : List D} (t : TrT K M H a xs) (r : RVs K mg M H ds xs) : Walk K mg (Itt K a) M H (.fix ds) where
  stop := fun M' H' st es i x rh e1 e2 e3 => ⟨xs, (t.monoW x).sq, by rw [← r.length]; exact Nat.le_of_eq e3.symm⟩
  go := fun M' H' st es i d x rh e1 e2 e3 => by
    cases e1
    obtain ⟨v, q, _⟩ := r.get e3
    exact ⟨xs, v, (t.monoW x).sq, q⟩
  yld := fun M' H' st es i d v H2 x rh e1 e2 e3 y => by
    cases e1
    obtain ⟨rfl, f⟩ := y
    obtain ⟨u, q, rv⟩ := (r.monoW x).get e3
    rw [f xs (t.monoW x).sq] at q
    cases q
    exact ⟨Ext.refl _ _, rh, rv⟩
theorem walk_cel {K : PySem.W.Frag} {mg : Str → Option Value} {M : Mp} {H : Hp} {k n : Nat} {a : Addr} (hk : M.c[k]? = some a) : Walk K mg (Itl K a) M H ⟨n, fun st => match st[k]? with
      | some (.lst ds) => some ds
      | _ => none⟩ := by
  have get : ∀ {st : Sto} {es : List D}, (match st[k]? with | some (.lst ds) => some ds | _ => none) = some es → st[k]? = some (.lst es) := fun {st es} e => by
    split at e
    · cases e; assumption
    · cases e
  refine ⟨fun M' H' st es i x rh e1 e2 e3 => ?_, fun M' H' st es i d x rh e1 e2 e3 => ?_, fun M' H' st es i d v H2 x rh e1 e2 e3 y => ?_⟩
  · obtain ⟨vs, q1, q2⟩ := rh.cell k _ a (get e1) (x.get hk)
    exact ⟨vs, .of q1, by rw [← q2.length, e2]; exact Nat.le_of_eq e3.symm⟩
  · obtain ⟨vs, q1, q2⟩ := rh.cell k _ a (get e1) (x.get hk)
    obtain ⟨v, q, _⟩ := q2.get e3
    exact ⟨vs, v, .of q1, q⟩
  · obtain ⟨vs, q1, q2⟩ := rh.cell k _ a (get e1) (x.get hk)
    obtain ⟨rfl, f⟩ := y
    obtain ⟨u, q, rv⟩ := q2.get e3
    rw [f vs (.of q1)] at q
    cases q
    exact ⟨Ext.refl _ _, rh, rv⟩
theorem i_src {tg e : Expr} {f : Fe} (h : XE X W e f) : XI X W tg e (fSrc f) := (pi_any h).fb fun σ H R ⟨M, env, st, r, p⟩ => ⟨M, env, st, r, iD_bind p fun M1 d st1 v H1 _ x1 r1 q1 p1 => by
  have e' : ∀ S, srcOf d st1 = some S → ∀ M' H' J, Ext M1 H1 M' H' → RelH X.K X.mg M' st1 H' → Walk X.K X.mg J M' H' S → R J H' := fun S eS => by rw [eS] at p1; exact p1
  cases q1 with
  | @tup a xs ds t rv => exact ⟨a, rfl, .inr ⟨⟨xs, t.sq⟩, e' _ rfl M1 H1 _ (Ext.refl _ _) r1 (walk_tup t rv)⟩⟩
  | @lst a xs ds t rv => exact ⟨a, rfl, .inl ⟨⟨xs, t.sq⟩, e' _ rfl M1 H1 _ (Ext.refl _ _) r1 (walk_lst t rv)⟩⟩
  | @ref k a hk =>
    cases hc : st1[k]? with
    | none =>
      have e0 : srcOf (.ref k) st1 = none := by unfold srcOf; dsimp only; rw [hc]
      rw [e0] at p1
      exact p1.elim
    | some c =>
      cases c with
      | lst ds =>
        have e0 : srcOf (.ref k) st1 = some ⟨ds.length, fun st => match st[k]? with | some (.lst ds) => some ds | _ => none⟩ := by unfold srcOf; dsimp only; rw [hc]
        obtain ⟨vs, q1, q2⟩ := r1.cell k _ a hc hk
        exact ⟨a, rfl, .inl ⟨⟨vs, .of q1⟩, e' _ e0 M1 H1 _ (Ext.refl _ _) r1 (walk_cel hk)⟩⟩
      | ins c fs =>
        have e0 : srcOf (.ref k) st1 = none := by unfold srcOf; dsimp only; rw [hc]
        rw [e0] at p1
        exact p1.elim
      | dct c =>
        have e0 : srcOf (.ref k) st1 = none := by unfold srcOf; dsimp only; rw [hc]
        rw [e0] at p1
        exact p1.elim
  | _ => exact p1.elim⟩
/-- range -/
def rangeD (lo : Int) (n : Nat) : List D := (List.range n).map fun i : Nat => .int (lo + (i : Int))
def rng1 : List D → Option Src
  | [.int j] => if -1000000 ≤ j ∧ j ≤ 1000000 then some (.fix (rangeD 0 j.toNat)) else none
  | _ => none
def rng2 : List D → Option Src
  | [.int i, .int j] => if -1000000 ≤ i ∧ i ≤ 1000000 ∧ -1000000 ≤ j ∧ j ≤ 1000000 then some (.fix (rangeD i (j - i).toNat)) else none
  | _ => none
def fRange1 (f : Fa) : Fi := fun env st => (f env st).bind fun ds st => match rng1 ds with
  | some S => .ok S st
  | none => .bad
def fRange2 (f : Fa) : Fi := fun env st => (f env st).bind fun ds st => match rng2 ds with
  | some S => .ok S st
  | none => .bad
theorem walk_rng {K : PySem.W.Frag} {mg : Str → Option Value} {M : Mp} {H : Hp} {lo : Int} {n : Nat} : Walk K mg (Itr lo n) M H (.fix (rangeD lo n)) := by
  have hl : (rangeD lo n).length = n := by unfold rangeD; simp
  refine ⟨fun M' H' st es i x rh e1 e2 e3 => ?_, fun M' H' st es i d x rh e1 e2 e3 => ?_, fun M' H' st es i d v H2 x rh e1 e2 e3 y => ?_⟩
  · show n ≤ i
    have e3' : (rangeD lo n).length ≤ i := Nat.le_of_eq e3.symm
    omega
  · cases e1
    have := (List.getElem?_eq_some_iff.mp e3).1
    show i < n
    omega
  · cases e1
    obtain ⟨rfl, rfl⟩ := y
    have hi := (List.getElem?_eq_some_iff.mp e3).1
    have e : (rangeD lo n)[i]? = some (.int (lo + (i : Int))) := by
      unfold rangeD
      rw [List.getElem?_map, List.getElem?_range (by omega)]
      rfl
    rw [e] at e3
    cases e3
    exact ⟨Ext.refl _ _, rh, .int _⟩
theorem i_range1 {tg a : Expr} {f : Fa} {p pos : Pos} (hg : Gl X "range") (hm : X.mg "range" = none) (ha : XA X W [a] f) (hs : starEach [a] X.env = [(false, eval a X.env)] := by rfl) : XI X W tg (.Call (.Name "range" p) [a] [] pos) (fRange1 f) :=
  (pi_range1 hg hm ha hs).fb fun σ H R ⟨M, env, st, r, p⟩ => ⟨M, env, st, r, iD_bind p fun M1 ds st1 vs H1 _ x1 r1 q1 p1 => by
    cases e : rng1 ds with
    | none => rw [e] at p1; exact p1.elim
    | some S =>
      rw [e] at p1
      unfold rng1 at e
      split at e
      · split at e
        · rename_i hj
          cases e
          obtain ⟨v, rfl, a1⟩ := q1.one
          cases a1
          exact ⟨_, rfl, by omega, by omega, p1 M1 H1 _ (Ext.refl _ _) r1 walk_rng⟩
        · cases e
      · cases e⟩
theorem i_range2 {tg a b : Expr} {f : Fa} {p pos : Pos} (hg : Gl X "range") (hm : X.mg "range" = none) (ha : XA X W [a, b] f) (hs : starEach [a, b] X.env = [(false, eval a X.env), (false, eval b X.env)] := by rfl) (hs2 : starEach [b] X.env = [(false, eval b X.env)] := by rfl) : XI X W tg (.Call (.Name "range" p) [a, b] [] pos) (fRange2 f) :=
  (pi_range2 hg hm ha hs hs2).fb fun σ H R ⟨M, env, st, r, p⟩ => ⟨M, env, st, r, iD_bind p fun M1 ds st1 vs H1 _ x1 r1 q1 p1 => by
    cases e : rng2 ds with
    | none => rw [e] at p1; exact p1.elim
    | some S =>
      rw [e] at p1
      unfold rng2 at e
      split at e
      · split at e
        · rename_i hj
          cases e
          obtain ⟨v, u, rfl, a1, a2⟩ := q1.two
          cases a1
          cases a2
          exact ⟨_, _, rfl, ⟨by omega, by omega, by omega, by omega⟩, p1 M1 H1 _ (Ext.refl _ _) r1 walk_rng⟩
        · cases e
      · cases e⟩

/-! ### for -/
def forL (S : Src) (t : Tg) (body : Fs) : Nat → Nat → Fs
  | 0, _, env, st => match S.cur st with
    | some ds => if ds.length = S.n then .nx env st else .bad
    | none => .bad
  | rem + 1, i, env, st => match S.at st i with
    | none => .bad
    | some d => match bindT t d env st with
      | none => .bad
      | some env1 => (body env1 st).bind (forL S t body rem (i + 1))
def sFor (src : Fi) (t : Tg) (body : Fs) : Fs := fun env st => match src env st with
  | .ok S st1 => forL S t body S.n 0 env st1
  | .exc x st1 => .exc x env st1
  | .bad => .bad
theorem PostS.ends {K : PySem.W.Frag} {mg : Str → Option Value} {M : Mp} {H : Hp} {r : RS} {Q Q' : Ends} (h : PostS K mg W M H r Q) (e1 : Q'.nx = Q.nx) (e2 : Q'.rt = Q.rt) : PostS K mg W M H r Q' := by
  cases r with
  | nx env st => unfold PostS at h ⊢; dsimp only at h ⊢; rw [e1]; exact h
  | rt d st => unfold PostS at h ⊢; dsimp only at h ⊢; rw [e2]; exact h
  | exc x env st => exact h
  | bad => exact h
theorem Src.at_some {S : Src} {st : Sto} {i : Nat} {d : D} (h : S.at st i = some d) : ∃ ds, S.cur st = some ds ∧ ds.length = S.n ∧ ds[i]? = some d := by
  unfold Src.at at h
  split at h
  · rename_i ds e
    split at h
    · exact ⟨ds, e, by assumption, h⟩
    · cases h
  · cases h
theorem s_for {iter tg : Expr} {body : List Stmt} {pos : Pos} {src : Fi} {t : Tg} {b : Fs} (hp : PassesOwn (model X.prog X.w) X.A X.env X.xe) (hc : X.calm = true) (hi : XI X W tg iter src) (hg : XG X tg t) (hb : XSs X W body b)
    (hs : ∀ x, foldedSetIterable iter X.env x = pure x := by intro _; rfl) : XS X W (.For tg iter body [] pos) (sFor src t b) :=
  (ps_for hp hc hi hg hb hs).fb fun Q σ H ⟨M, env, st, r, p⟩ => by
    refine ⟨M, env, st, r, ?_⟩
    unfold sFor at p
    cases e : src env st with
    | bad => rw [e] at p; exact p.elim
    | exc x st1 => rw [e] at p; exact fun M' H' C y rh hm => p M' σ H' C y (r.mono y rh) hm
    | ok S st1 =>
      rw [e] at p
      have p0 : PostS X.K X.mg W M H (forL S t b S.n 0 env st1) Q := p
      intro M1 H1 J x1 r1 wk
      refine ⟨fun i m σ H => ∃ M env st, Rel X.K X.mg M env st σ H ∧ Ext M1 H1 M H ∧ i + m = S.n ∧ PostS X.K X.mg W M H (forL S t b m i env st) Q, ⟨S.n, M1, env, st1, r.mono x1 r1, Ext.refl _ _, by omega, ?_⟩, ?_⟩
      · cases e2 : forL S t b S.n 0 env st1 with
        | nx e3 st2 => rw [e2] at p0; exact fun M2 v2 H2 y => p0 M2 v2 H2 (x1.trans y)
        | rt d st2 => rw [e2] at p0; exact fun M2 v2 H2 y => p0 M2 v2 H2 (x1.trans y)
        | exc z e3 st2 => rw [e2] at p0; exact fun M2 s2 H2 C y => p0 M2 s2 H2 C (x1.trans y)
        | bad => rw [e2] at p0; exact p0
      · rintro i m σ2 H2 ⟨M2, env2, st2, r2, x2, em, p2⟩
        cases m with
        | zero =>
          unfold forL at p2
          cases h1 : S.cur st2 with
          | none => rw [h1] at p2; exact p2.elim
          | some ds =>
            rw [h1] at p2
            dsimp only at p2
            by_cases hl : ds.length = S.n
            · rw [if_pos hl] at p2
              exact .inl ⟨wk.stop M2 H2 st2 ds i x2.w r2.h h1 hl (by omega), p2 M2 σ2 H2 (Ext.refl _ _) r2⟩
            · rw [if_neg hl] at p2
              exact p2.elim
        | succ m =>
          unfold forL at p2
          cases h1 : S.at st2 i with
          | none => rw [h1] at p2; exact p2.elim
          | some d =>
            rw [h1] at p2
            dsimp only at p2
            cases h2 : bindT t d env2 st2 with
            | none => rw [h2] at p2; exact p2.elim
            | some env3 =>
              rw [h2] at p2
              dsimp only at p2
              obtain ⟨ds, g1, g2, g3⟩ := Src.at_some h1
              refine .inr ⟨wk.go M2 H2 st2 ds i d x2.w r2.h g1 g2 g3, fun σ' H' => ∃ M' env' st', Rel X.K X.mg M' env' st' σ' H' ∧ Ext M1 H1 M' H' ∧ PostS X.K X.mg W M' H' (forL S t b m (i + 1) env' st') Q, fun σ' H' ⟨M', env', st', a1, a2, a3⟩ => ⟨m, by omega, M', env', st', a1, a2, by omega, a3⟩, fun v H3 y => ?_⟩
              obtain ⟨y1, y2, y3⟩ := wk.yld M2 H2 st2 ds i d v H3 x2.w r2.h g1 g2 g3 y
              refine ⟨M2, env2, st2, d, env3, r2.mono y1 y2, y3, h2, fun σ' r' _ => ⟨M2, env3, st2, r', ?_⟩⟩
              have p3 : PostS X.K X.mg W M2 H3 ((b env3 st2).bind (forL S t b m (i + 1))) Q := by
                cases e2 : (b env3 st2).bind (forL S t b m (i + 1)) with
                | nx e3 st2 => rw [e2] at p2; exact fun M2 v2 H2 y => p2 M2 v2 H2 (y1.trans y)
                | rt d st2 => rw [e2] at p2; exact fun M2 v2 H2 y => p2 M2 v2 H2 (y1.trans y)
                | exc z e3 st2 => rw [e2] at p2; exact fun M2 s2 H2 C y => p2 M2 s2 H2 C (y1.trans y)
                | bad => rw [e2] at p2; exact p2
              refine PostS.ends (PostS.bind (N := fun σ' H' => ∃ M' env' st', Rel X.K X.mg M' env' st' σ' H' ∧ Ext M1 H1 M' H' ∧ PostS X.K X.mg W M' H' (forL S t b m (i + 1) env' st') Q) p3 fun M4 env4 st4 σ4 H4 _ x4 r4 p4 => ⟨M4, env4, st4, r4, (x2.trans y1).trans x4, p4⟩) rfl rfl

/-! ### while -/
def whileL (c : Ft) (body : Fs) : Nat → Fs
  | 0, _, _ => .bad
  | n + 1, env, st => match c env st with
    | .ok b st1 => if b = true then (body env st1).bind (whileL c body n) else .nx env st1
    | .exc x st1 => .exc x env st1
    | .bad => .bad
theorem PostS.mono {K : PySem.W.Frag} {mg : Str → Option Value} {M M1 : Mp} {H H1 : Hp} {r : RS} {Q : Ends} (h : PostS K mg W M H r Q) (x : Ext M H M1 H1) : PostS K mg W M1 H1 r Q := by
  cases r with
  | nx env st => exact fun M2 v2 H2 y => h M2 v2 H2 (x.trans y)
  | rt d st => exact fun M2 v2 H2 y => h M2 v2 H2 (x.trans y)
  | exc z env st => exact fun M2 s2 H2 C y => h M2 s2 H2 C (x.trans y)
  | bad => exact h
theorem s_while {c : Expr} {body : List Stmt} {pos : Pos} {t : Ft} {b : Fs} (n : Nat) (hp : PassesOwn (model X.prog X.w) X.A X.env X.xe) (hc : XT X W c t) (hb : XSs X W body b) : XS X W (.While c body [] pos) (whileL t b n) :=
  (ps_while hp hc hb).fb fun Q σ H ⟨M, env, st, r, p⟩ => by
    refine ⟨fun m σ H => ∃ M env st, Rel X.K X.mg M env st σ H ∧ PostS X.K X.mg W M H (whileL t b m env st) Q, ⟨n, M, env, st, r, p⟩, ?_⟩
    rintro m σ1 H1 ⟨M1, env1, st1, r1, p1⟩
    refine ⟨M1, env1, st1, r1, ?_⟩
    cases m with
    | zero => exact p1.elim
    | succ m =>
      unfold whileL at p1
      cases e : t env1 st1 with
      | bad => rw [e] at p1; exact p1
      | exc x st2 => rw [e] at p1; exact fun M' H' C y rh hm => p1 M' σ1 H' C y (r1.mono y rh) hm
      | ok k st2 =>
        rw [e] at p1
        dsimp only at p1
        intro M2 v H2 x2 r2 ev
        subst ev
        cases k with
        | false =>
          rw [if_neg Bool.false_ne_true] at p1 ⊢
          exact p1 M2 σ1 H2 x2 (r1.mono x2 r2)
        | true =>
          rw [if_pos rfl] at p1 ⊢
          refine ⟨fun σ' H' => ∃ M env st, Rel X.K X.mg M env st σ' H' ∧ PostS X.K X.mg W M H' (whileL t b m env st) Q, fun σ' H' z => ⟨m, Nat.lt_succ_self _, z⟩, M2, env1, st2, r1.mono x2 r2, ?_⟩
          exact PostS.ends (PostS.bind (N := fun σ' H' => ∃ M env st, Rel X.K X.mg M env st σ' H' ∧ PostS X.K X.mg W M H' (whileL t b m env st) Q) (p1.mono x2) fun M4 env4 st4 σ4 H4 _ x4 r4 p4 => ⟨M4, env4, st4, r4, p4⟩) rfl rfl
end
end Fb

/-! Fb.G: comprehensions. -/
namespace Fb
open PySem PySem.Spec PyProof.Rows L2

def wipeE (env : Env) : List Nat → Env
  | [] => env
  | v :: vs => (wipeE env vs).set v none
/-- the turns of a comprehension: stp makes the list longer -/
abbrev Stp := Env → List D → Sto → R (List D)
def loopG (S : Src) (t : Tg) (stp : Stp) (wenv : Env) : Nat → Nat → List D → Sto → R (List D)
  | 0, _, acc, st => match S.cur st with
    | some ds => if ds.length = S.n then .ok acc st else .bad
    | none => .bad
  | rem + 1, i, acc, st => match S.at st i with
    | none => .bad
    | some d => match bindT t d wenv st with
      | none => .bad
      | some env1 => (stp env1 acc st).bind (loopG S t stp wenv rem (i + 1))
def step1 (c : Ft) (e : Fe) : Stp := fun env acc st => (c env st).bind fun b st => if b = true then (e env st).bind fun y st => if acc.length < 100000 then .ok (acc ++ [y]) st else .bad else .ok acc st
def step2 (c : Ft) (src : Fi) (t : Tg) (c1 : Ft) (e : Fe) (vs1 : List Nat) : Stp := fun env acc st => (c env st).bind fun b st => if b = true then (src env st).bind fun S st => loopG S t (step1 c1 e) (wipeE env vs1) S.n 0 acc st else .ok acc st
def fLoop (src : Fi) (t : Tg) (stp : Stp) (own : List Nat) : Fe := fun env st => match src env st with
  | .ok S st1 => match loopG S t stp (wipeE env own) S.n 0 [] st1 with
    | .ok ds st2 => .ok (.lst ds) st2
    | _ => .bad
  | .exc x st1 => .exc x st1
  | .bad => .bad
def fComp (src : Fi) (t : Tg) (c : Ft) (e : Fe) (own : List Nat) : Fe := fLoop src t (step1 c e) own
def fComp2 (src : Fi) (t : Tg) (c : Ft) (src1 : Fi) (t1 : Tg) (c1 : Ft) (e : Fe) (own vs1 : List Nat) : Fe := fLoop src t (step2 c src1 t1 c1 e vs1) own
def fYes : Ft := fun _ st => .ok true st
section
variable {K : PySem.W.Frag} {mg : Str → Option Value} {W : WX}
theorem wipe_len (σ : L2.St) (vs : List Nat) : (wipe σ vs).length = σ.length := wipe_length σ vs
theorem wipeE_len (env : Env) : ∀ vs : List Nat, (wipeE env vs).length = env.length
  | [] => rfl
  | v :: vs => by unfold wipeE; rw [List.length_set, wipeE_len env vs]
theorem wipeE_some {env : Env} {i : Nat} {x : D} : ∀ {vs : List Nat}, (wipeE env vs)[i]? = some (some x) → env[i]? = some (some x) ∧ i ∉ vs
  | [], h => ⟨h, fun z => nomatch z⟩
  | v :: vs, h => by
    unfold wipeE at h
    by_cases e : i = v
    · subst e
      by_cases hl : i < (wipeE env vs).length
      · rw [List.getElem?_set_self hl] at h; cases h
      · rw [List.getElem?_eq_none (by rw [List.length_set]; omega)] at h; cases h
    · rw [List.getElem?_set_ne (Ne.symm e)] at h
      obtain ⟨a, b⟩ := wipeE_some h
      exact ⟨a, fun z => (List.mem_cons.mp z).elim e b⟩
theorem wipe_get {σ : L2.St} {i : Nat} : ∀ {vs : List Nat}, i ∉ vs → (wipe σ vs)[i]? = σ[i]?
  | [], _ => rfl
  | v :: vs, h => by
    unfold wipe
    rw [List.getElem?_set_ne fun e => h (by rw [e]; exact List.mem_cons_self)]
    exact wipe_get fun z => h (List.mem_cons_of_mem _ z)
theorem wipe_hit {σ : L2.St} {i : Nat} (hl : i < σ.length) : ∀ {vs : List Nat}, i ∈ vs → (wipe σ vs)[i]? = some none
  | v :: vs, h => by
    unfold wipe
    by_cases e : i = v
    · subst e
      rw [List.getElem?_set_self (by rw [wipe_length]; exact hl)]
    · rw [List.getElem?_set_ne (Ne.symm e)]
      exact wipe_hit hl ((List.mem_cons.mp h).resolve_left e)
theorem RelE.wipe {M : Mp} {env : Env} {σ : L2.St} {H : Hp} (r : RelE K mg M env σ H) (vs : List Nat) : RelE K mg M (wipeE env vs) (L2.wipe σ vs) H :=
  ⟨by rw [wipeE_len, wipe_length]; exact r.len, fun i d e => by
    obtain ⟨a, b⟩ := wipeE_some e
    obtain ⟨v, c, q⟩ := r.get i d a
    exact ⟨v, by rw [wipe_get b]; exact c, q⟩⟩
/-- what is set of a block's own names is forgotten with them -/
theorem wipe_off {σ σ' : L2.St} {js vs : List Nat} (h : Off js (L2.wipe σ vs) σ') (hs : ∀ j ∈ js, j ∈ vs) : L2.wipe σ' vs = L2.wipe σ vs := by
  have hl : σ'.length = σ.length := by rw [h.1, wipe_length]
  apply List.ext_getElem?
  intro i
  by_cases hv : i ∈ vs
  · by_cases hi : i < σ.length
    · rw [wipe_hit (by omega) hv, wipe_hit hi hv]
    · rw [List.getElem?_eq_none (by rw [wipe_length]; omega), List.getElem?_eq_none (by rw [wipe_length]; omega)]
  · rw [wipe_get hv, h.2 i fun z => hv (hs i z)]
/-- the growing list is barred -/
def Mp.bar (M : Mp) (p : Addr) : Mp := ⟨M.c, p :: M.b⟩
theorem Ext.bar {M : Mp} {H : Hp} {p : Addr} {o : HO} (h : H p = none) : Ext M H (M.bar p) (upd H p o) :=
  ⟨⟨[p], rfl, fun a ha => by rw [List.mem_singleton.mp ha]; exact h⟩, ⟨[], by simp [Mp.bar], fun _ h => nomatch h⟩, fun a u e _ => by rw [upd_ne (ne_of_none e h)]; exact e, fun a u e => ⟨u, by rw [upd_ne (ne_of_none e h)]; exact e⟩⟩
theorem RelH.bar {M : Mp} {st : Sto} {H : Hp} {p : Addr} {o : HO} (r : RelH K mg M st H) (h : H p = none) : RelH K mg (M.bar p) st (upd H p o) := by
  have x : Ext M H (M.bar p) (upd H p o) := Ext.bar h
  have fr := r.fresh h
  refine ⟨r.len, r.nd, fun k c a e1 e2 => ?_, fun a ha => ?_⟩
  · have q := r.cell k c a e1 e2
    obtain ⟨o', q'⟩ := q.live
    exact q.mono x (by rw [upd_ne (ne_of_none q' h)])
  · rcases List.mem_cons.mp ha with e | ha
    · subst e
      exact ⟨fr.1, o, upd_same⟩
    · obtain ⟨o', q⟩ := (r.blk a ha).2
      exact ⟨(r.blk a ha).1, x.live a o' q⟩
/-- the barred list grows -/
theorem Ext.grow {M0 M : Mp} {H0 H : Hp} {p : Addr} {o : HO} (x : Ext M0 H0 M H) (h : H0 p = none) : Ext M0 H0 M (upd H p o) :=
  ⟨x.b, x.c, fun a u e ha => by rw [upd_ne (ne_of_none e h)]; exact x.keep a u e ha, fun a u e => by rw [upd_ne (ne_of_none e h)]; exact x.live a u e⟩
mutual
theorem RV.grow {M : Mp} {H : Hp} {p : Addr} {o : HO} (hp : p ∈ M.b) : ∀ {d : D} {v : V}, RV K mg M H d v → RV K mg M (upd H p o) d v
  | _, _, .non => .non
  | _, _, .bl b => .bl b
  | _, _, .int i => .int i
  | _, _, .str s => .str s
  | _, _, .tup t r => .tup (t.imp (fun ⟨o', d, a, b⟩ => ⟨o', d, by
      have ne : ∀ q, M.av q → q ≠ p := fun q hq e => hq.2 (by rw [e]; exact hp)
      rw [upd_ne (ne _ b)]
      exact a, b⟩) id) (RVs.grow hp r)
  | _, _, .lst t r => .lst ⟨by
      have ne : ∀ q, M.av q → q ≠ p := fun q hq e => hq.2 (by rw [e]; exact hp)
      obtain ⟨a, b⟩ := t
      rcases a with a | ⟨o', a⟩
      · exact .inl (by rw [upd_ne (ne _ b)]; exact a)
      · exact .inr ⟨o', by rw [upd_ne (ne _ b)]; exact a⟩, t.2⟩ (RVs.grow hp r)
  | _, _, .ref h => .ref h
  | _, _, .gl h r => .gl h r
  | _, _, .ty n => .ty n
  | _, _, .exc h e a => .exc h (by rw [upd_ne (fun z => a.2 (by rw [z]; exact hp))]; exact e) a
theorem RVs.grow {M : Mp} {H : Hp} {p : Addr} {o : HO} (hp : p ∈ M.b) : ∀ {ds : List D} {vs : List V}, RVs K mg M H ds vs → RVs K mg M (upd H p o) ds vs
  | _, _, .nil => .nil
  | _, _, .cons h r => .cons (RV.grow hp h) (RVs.grow hp r)
end
theorem RFs.grow {κ : Type} {M : Mp} {H : Hp} {p : Addr} {o : HO} (hp : p ∈ M.b) {fs : List (κ × D)} {gs : List (κ × V)} (h : RFs K mg M H fs gs) : RFs K mg M (upd H p o) fs gs := by
  induction h with
  | nil => exact .nil
  | cons a _ ih => exact .cons (a.grow hp) ih
theorem RelH.grow {M : Mp} {st : Sto} {H : Hp} {p : Addr} {o : HO} (r : RelH K mg M st H) (hp : p ∈ M.b) : RelH K mg M st (upd H p o) := by
  refine ⟨r.len, r.nd, fun k c a e1 e2 => ?_, fun a ha => ⟨(r.blk a ha).1, ?_⟩⟩
  · have hne : a ≠ p := fun e => (r.blk p hp).1 (by rw [← e]; exact List.mem_of_getElem? e2)
    have q := r.cell k c a e1 e2
    cases c with
    | lst ds => obtain ⟨vs, a1, a2⟩ := q; exact ⟨vs, by rw [upd_ne hne]; exact a1, a2.grow hp⟩
    | ins c fs => obtain ⟨C, dx, gs, a0, a1, a2⟩ := q; exact ⟨C, dx, gs, a0, by rw [upd_ne hne]; exact a1, a2.grow hp⟩
    | dct kvs => obtain ⟨ws, a1, a2⟩ := q; exact ⟨ws, by rw [upd_ne hne]; exact a1, a2.grow hp⟩
  · by_cases e : a = p
    · subst e; exact ⟨o, upd_same⟩
    · obtain ⟨o', q⟩ := (r.blk a ha).2
      exact ⟨o', by rw [upd_ne e]; exact q⟩
theorem RelE.grow {M : Mp} {env : Env} {σ : L2.St} {H : Hp} {p : Addr} {o : HO} (hp : p ∈ M.b) (r : RelE K mg M env σ H) : RelE K mg M env σ (upd H p o) := ⟨r.len, fun i d e => let ⟨v, a, q⟩ := r.get i d e; ⟨v, a, q.grow hp⟩⟩
theorem RelH.less {M M' : Mp} {st : Sto} {H : Hp} (l : M.Less M') (hb : ∀ a ∈ M'.b, a ∈ M.b) (r : RelH K mg M st H) : RelH K mg M' st H :=
  ⟨by rw [l.1]; exact r.len, by rw [l.1]; exact r.nd, fun k c a e1 e2 => (r.cell k c a e1 (by rw [← l.1]; exact e2)).less l, fun a ha => ⟨by rw [l.1]; exact (r.blk a (hb a ha)).1, (r.blk a (hb a ha)).2⟩⟩
theorem Post.mono {α β : Type} {Rp : Mp → Hp → α → β → Prop} {M M1 : Mp} {σ : L2.St} {H H1 : Hp} {r : R α} {Q : β → Hp → Prop} (h : Post K mg Rp W M σ H r Q) (x : Ext M H M1 H1) : Post K mg Rp W M1 σ H1 r Q := by
  cases r with
  | ok d st => exact fun M' v H' y => h M' v H' (x.trans y)
  | exc z st => exact fun M' H' C y => h M' H' C (x.trans y)
  | bad => exact h
/-- the state within a comprehension: the list so far -/
def CS (K : PySem.W.Frag) (mg : Str → Option Value) (M0 : Mp) (H0 : Hp) (p : Addr) (ds : List D) (st : Sto) (M : Mp) (H : Hp) : Prop := Ext M0 H0 M H ∧ p ∈ M.b ∧ RelH K mg M st H ∧ ∃ vs, H p = some (.lst vs) ∧ RVs K mg M H ds vs
def PC (K : PySem.W.Frag) (mg : Str → Option Value) (M0 : Mp) (H0 : Hp) (p : Addr) (Mc : Mp) (Hc : Hp) (r : R (List D)) (N : Hp → Prop) : Prop := match r with
  | .ok ds st => ∀ M H, CS K mg M0 H0 p ds st M H → ExtW Mc Hc M H → N H
  | _ => False
theorem CS.next {M0 M M1 : Mp} {H0 H H1 : Hp} {p : Addr} {ds : List D} {st st1 : Sto} (c : CS K mg M0 H0 p ds st M H) (x : Ext M H M1 H1) (r : RelH K mg M1 st1 H1) : CS K mg M0 H0 p ds st1 M1 H1 := by
  obtain ⟨c1, c2, c3, vs, c4, c5⟩ := c
  obtain ⟨B, b1, b2⟩ := x.b
  exact ⟨c1.trans x, by rw [b1]; exact List.mem_append_right _ c2, r, vs, x.keep p _ c4 (c3.blk p c2).1, c5.mono x⟩
theorem CS.app {M0 M : Mp} {H0 H : Hp} {p : Addr} {ds : List D} {st : Sto} {d : D} {v : V} (hp : H0 p = none) (c : CS K mg M0 H0 p ds st M H) (h : RV K mg M H d v) : ∃ vs, H p = some (.lst vs) ∧ vs.length = ds.length ∧ CS K mg M0 H0 p (ds ++ [d]) st M (upd H p (.lst (vs ++ [v]))) := by
  obtain ⟨c1, c2, c3, vs, c4, c5⟩ := c
  exact ⟨vs, c4, c5.length.symm, c1.grow hp, c2, c3.grow c2, vs ++ [v], upd_same, (c5.append (.cons h .nil)).grow c2⟩
end
section
variable {X : Cx} {W : WX}
abbrev XTs (X : Cx) (W : WX) (es : List Expr) (f : Ft) : Prop := PTs X es (tT X.K X.mg W f)
theorem ts_nil : XTs X W [] fYes := ⟨fun pins s σ H Q I ⟨M, env, st, r, p⟩ => pts_nil.run pins s σ H Q I (p M true H (Ext.refl _ _) r.h rfl)⟩
theorem ts_one {c : Expr} {f : Ft} (h : XT X W c f) : XTs X W [c] f := pts_one h
abbrev W0 : WX := fun _ _ _ _ => False
theorem PC.mono {K : PySem.W.Frag} {mg : Str → Option Value} {M0 Mc M1 : Mp} {H0 Hc H1 : Hp} {p : Addr} {r : R (List D)} {N : Hp → Prop} (h : PC K mg M0 H0 p Mc Hc r N) (x : ExtW Mc Hc M1 H1) : PC K mg M0 H0 p M1 H1 r N := by
  cases r with
  | ok ds st => exact fun M H c y => h M H c (x.trans y)
  | exc z st => exact h
  | bad => exact h
theorem PC.bind {K : PySem.W.Frag} {mg : Str → Option Value} {M0 Mc : Mp} {H0 Hc : Hp} {p : Addr} {r : R (List D)} {g : List D → Sto → R (List D)} {N N' : Hp → Prop} (h : PC K mg M0 H0 p Mc Hc (r.bind g) N) (k : ∀ ds st M H, r = .ok ds st → CS K mg M0 H0 p ds st M H → ExtW Mc Hc M H → PC K mg M0 H0 p M H (g ds st) N → N' H) : PC K mg M0 H0 p Mc Hc r N' := by
  cases r with
  | ok ds st => exact fun M H c x => k ds st M H rfl c x (PC.mono (r := g ds st) h x)
  | exc z st => exact h
  | bad => exact h
/-- the loop, whatever a turn does behind its target: Body, read for every next wish -/
theorem comp_loop {K : PySem.W.Frag} {mg : Str → Option Value} {M0 Mb : Mp} {H0 Hb : Hp} {p : Addr} {J : It} {S : Src} {t : Tg} {stp : Stp} {wenv : Env} {σ : L2.St} {N : Hp → Prop} {Body : L2.St → Hp → (Hp → Prop) → Prop} {vs : List Nat}
    (hs : ∀ j ∈ t.slots, j ∈ vs) (wk : Walk K mg J Mb Hb S) (re : RelE K mg Mb wenv (L2.wipe σ vs) Hb)
    (hbody : ∀ env acc st σ2 M H N', Rel K mg M env st σ2 H → CS K mg M0 H0 p acc st M H → PC K mg M0 H0 p M H (stp env acc st) N' → Body σ2 H N')
    {acc : List D} {st : Sto} {M : Mp} {H : Hp} (c : CS K mg M0 H0 p acc st M H) (hx : ExtW Mb Hb M H) (h : PC K mg M0 H0 p M H (loopG S t stp wenv S.n 0 acc st) N) :
    ∃ Wn : Nat → Nat → Hp → Prop, (∃ m, Wn 0 m H) ∧ ∀ i m H, Wn i m H → (J.stop i H ∧ N H) ∨ (J.go i H ∧ ∃ Nx : Hp → Prop, (∀ H', Nx H' → ∃ m', m' < m ∧ Wn (i + 1) m' H') ∧ ∀ x H', J.yld i H x H' → gD K mg t x (L2.wipe σ vs) H' fun σ2 H2 => L2.wipe σ2 vs = L2.wipe σ vs ∧ Body σ2 H2 Nx) := by
  refine ⟨fun i m H => ∃ M acc st, CS K mg M0 H0 p acc st M H ∧ ExtW Mb Hb M H ∧ i + m = S.n ∧ PC K mg M0 H0 p M H (loopG S t stp wenv m i acc st) N, ⟨S.n, M, acc, st, c, hx, by omega, h⟩, ?_⟩
  rintro i m H1 ⟨M1, acc1, st1, c1, x1, em, p1⟩
  have r1 := c1.2.2.1
  cases m with
  | zero =>
    unfold loopG at p1
    cases h1 : S.cur st1 with
    | none => rw [h1] at p1; exact p1.elim
    | some ds =>
      rw [h1] at p1
      dsimp only at p1
      by_cases hl : ds.length = S.n
      · rw [if_pos hl] at p1
        exact .inl ⟨wk.stop M1 H1 st1 ds i x1 r1 h1 hl (by omega), p1 M1 H1 c1 (Ext.refl _ _).w⟩
      · rw [if_neg hl] at p1
        exact p1.elim
  | succ m =>
    unfold loopG at p1
    cases h1 : S.at st1 i with
    | none => rw [h1] at p1; exact p1.elim
    | some d =>
      rw [h1] at p1
      dsimp only at p1
      cases h2 : bindT t d wenv st1 with
      | none => rw [h2] at p1; exact p1.elim
      | some env3 =>
        rw [h2] at p1
        dsimp only at p1
        obtain ⟨ds, g1, g2, g3⟩ := Src.at_some h1
        refine .inr ⟨wk.go M1 H1 st1 ds i d x1 r1 g1 g2 g3, fun H' => ∃ M' acc' st', CS K mg M0 H0 p acc' st' M' H' ∧ ExtW Mb Hb M' H' ∧ PC K mg M0 H0 p M' H' (loopG S t stp wenv m (i + 1) acc' st') N, fun H' ⟨M', acc', st', a1, a2, a3⟩ => ⟨m, by omega, M', acc', st', a1, a2, by omega, a3⟩, fun v H3 y => ?_⟩
        obtain ⟨y1, y2, y3⟩ := wk.yld M1 H1 st1 ds i d v H3 x1 r1 g1 g2 g3 y
        have x3 : ExtW Mb Hb M1 H3 := x1.trans y1.w
        refine ⟨M1, wenv, st1, d, env3, ⟨y2, re.monoW x3⟩, y3, h2, fun σ' r' off => ⟨wipe_off off hs, ?_⟩⟩
        refine hbody env3 acc1 st1 σ' M1 H3 _ r' (c1.next y1 y2) (PC.bind (PC.mono p1 y1.w) fun ds' st' M' H' _ c' x' p' => ?_)
        exact ⟨M', ds', st', c', x3.trans x', p'⟩
/-- the body of one clause -/
def body1 (K : PySem.W.Frag) (mg : Str → Option Value) (c : Ft) (e : Fe) (p : Addr) : L2.St → Hp → (Hp → Prop) → Prop := fun σ2 H2 Nx => tT K mg W0 c σ2 H2 fun b H3 =>
    if b = true then tF K mg W0 e σ2 H3 fun y H4 => ∃ acc, H4 p = some (.lst acc) ∧ acc.length < sizeLine ∧ Nx (upd H4 p (.lst (acc ++ [y]))) else Nx H3
theorem pc_bind {K : PySem.W.Frag} {mg : Str → Option Value} {α β : Type} {Rp : Mp → Hp → α → β → Prop} {M0 M : Mp} {H0 H : Hp} {p : Addr} {σ : L2.St} {r : R α} {g : α → Sto → R (List D)} {N : Hp → Prop} {Q : β → Hp → Prop}
    (h : PC K mg M0 H0 p M H (r.bind g) N) (k : ∀ M1 d st1 v H1, Ext M H M1 H1 → RelH K mg M1 st1 H1 → Rp M1 H1 d v → PC K mg M0 H0 p M1 H1 (g d st1) N → Q v H1) : Post K mg Rp W0 M σ H r Q := by
  cases r with
  | ok d st => exact fun M' v H' x rh rv => k M' d st v H' x rh rv (PC.mono (r := g d st) h x.w)
  | exc z st => exact h.elim
  | bad => exact h
theorem body1_ok {K : PySem.W.Frag} {mg : Str → Option Value} {M0 : Mp} {H0 : Hp} {p : Addr} {c : Ft} {e : Fe} (hp : H0 p = none) (env : Env) (acc : List D) (st : Sto) (σ2 : L2.St) (M : Mp) (H : Hp) (N' : Hp → Prop) (r : Rel K mg M env st σ2 H) (cs : CS K mg M0 H0 p acc st M H)
    (h : PC K mg M0 H0 p M H (step1 c e env acc st) N') : body1 K mg c e p σ2 H N' := by
  refine ⟨M, env, st, r, pc_bind h fun M1 b st1 v H1 x1 r1 q1 p1 => ?_⟩
  subst q1
  cases b with
  | false =>
    rw [if_neg Bool.false_ne_true] at p1 ⊢
    exact p1 M1 H1 (cs.next x1 r1) (Ext.refl _ _).w
  | true =>
    rw [if_pos rfl] at p1 ⊢
    refine ⟨M1, env, st1, r.mono x1 r1, pc_bind p1 fun M2 d st2 v H2 x2 r2 q2 p2 => ?_⟩
    by_cases hl : acc.length < 100000
    · rw [if_pos hl] at p2
      have cs2 := (cs.next x1 r1).next x2 r2
      obtain ⟨vs, e1, e2, e3⟩ := cs2.app hp q2
      refine ⟨vs, e1, by rw [e2]; exact Nat.lt_of_lt_of_le hl (by decide), p2 M2 _ e3 ?_⟩
      refine ⟨(Ext.refl M2 H2).b, (Ext.refl M2 H2).c, fun a o h _ hb => ?_, fun a o h => ?_⟩
      · rw [upd_ne fun z => hb (by rw [z]; exact cs2.2.1)]
        exact h
      · by_cases z : a = p
        · subst z; exact ⟨_, upd_same⟩
        · exact ⟨o, by rw [upd_ne z]; exact h⟩
    · rw [if_neg hl] at p2
      exact p2.elim
/-- the end of the whole: the bar is taken away -/
theorem loop_end {K : PySem.W.Frag} {mg : Str → Option Value} {M M1 : Mp} {H H1 : Hp} {p0 : Addr} {σ : L2.St} {Q : VK} {r : R (List D)} {st1 : Sto} (x1 : Ext M H M1 H1) (r1 : RelH K mg M1 st1 H1) (hp0 : H1 p0 = none)
    (p : Post K mg (RV K mg) W M σ H (match r with | .ok ds st2 => .ok (.lst ds) st2 | _ => .bad) Q) : PC K mg M1 H1 p0 (M1.bar p0) (upd H1 p0 (.lst [])) r fun H' => Q (.ref p0) H' := by
  cases r with
  | ok ds st2 =>
    intro M2 H2 cs _
    obtain ⟨x3, hin, r3, vs, hv, rv⟩ := cs
    have p' : ∀ M' v H', Ext M H M' H' → RelH K mg M' st2 H' → RV K mg M' H' (.lst ds) v → Q v H' := p
    obtain ⟨B, hb, b2⟩ := x3.b
    have less : M2.Less ⟨M2.c, M1.b⟩ := ⟨rfl, fun a ha => ⟨ha.1, fun z => ha.2 (by rw [hb]; exact List.mem_append_right _ z)⟩⟩
    refine p' ⟨M2.c, M1.b⟩ (.ref p0) H2 ?_ (r3.less less fun a ha => by rw [hb]; exact List.mem_append_right _ ha) (.lst ⟨.inl hv, (r3.blk p0 hin).1, fun z => ?_⟩ (rv.less less))
    · have y := x1.trans x3
      exact ⟨x1.b, y.c, y.keep, y.live⟩
    · obtain ⟨_, o, q⟩ := r1.blk p0 z
      rw [hp0] at q
      cases q
  | exc z st2 => exact p.elim
  | bad => exact p.elim
theorem loop_ok {K : PySem.W.Frag} {mg : Str → Option Value} {src : Fi} {t : Tg} {stp : Stp} {own : List Nat} {σ : L2.St} {H : Hp} {Q : VK} {Body : Addr → L2.St → Hp → (Hp → Prop) → Prop} (ho : ∀ j ∈ t.slots, j ∈ own)
    (hbody : ∀ M0 H0 p, H0 p = none → ∀ env acc st σ2 M H N', Rel K mg M env st σ2 H → CS K mg M0 H0 p acc st M H → PC K mg M0 H0 p M H (stp env acc st) N' → Body p σ2 H N') (h : tF K mg W (fLoop src t stp own) σ H Q) :
    iD K mg W src σ H fun J H1 => ∀ D, H1 D = none → ∃ W : Nat → Nat → Hp → Prop, (∃ m, W 0 m (upd H1 D (.lst []))) ∧ ∀ i m H, W i m H →
      (J.stop i H ∧ Q (.ref D) H) ∨ (J.go i H ∧ ∃ Nx : Hp → Prop, (∀ H', Nx H' → ∃ m', m' < m ∧ W (i + 1) m' H') ∧ ∀ x H', J.yld i H x H' → gD K mg t x (L2.wipe σ own) H' fun σ2 H2 => L2.wipe σ2 own = L2.wipe σ own ∧ Body D σ2 H2 Nx) := by
  obtain ⟨M, env, st, r, p⟩ := h
  refine ⟨M, env, st, r, ?_⟩
  unfold fLoop at p
  cases e : src env st with
  | bad => rw [e] at p; exact p.elim
  | exc x st1 => rw [e] at p; exact p
  | ok S st1 =>
    rw [e] at p
    dsimp only at p
    intro M1 H1 J x1 r1 wk p0 hp0
    exact comp_loop (M0 := M1) (H0 := H1) ho wk ((r.e.mono x1).wipe own) (hbody M1 H1 p0 hp0) (M := M1.bar p0)
      ⟨Ext.bar hp0, List.mem_cons_self, r1.bar hp0, [], upd_same, .nil⟩ (Ext.bar hp0).w (loop_end x1 r1 hp0 p)
theorem comp_ok {K : PySem.W.Frag} {mg : Str → Option Value} {src : Fi} {t : Tg} {c : Ft} {f : Fe} {own : List Nat} {σ : L2.St} {H : Hp} {Q : VK} (ho : ∀ j ∈ t.slots, j ∈ own) (h : tF K mg W (fComp src t c f own) σ H Q) :
    tLc (iD K mg W src) (gD K mg t) (tT K mg W0 c) (tF K mg W0 f) own σ H Q :=
  loop_ok (Body := fun p => body1 K mg c f p) ho (fun M0 H0 p hp => body1_ok hp) h
def body2 (K : PySem.W.Frag) (mg : Str → Option Value) (c : Ft) (src1 : Fi) (t1 : Tg) (c1 : Ft) (e : Fe) (vs1 : List Nat) (p : Addr) : L2.St → Hp → (Hp → Prop) → Prop := fun σ2 H2 Nx => tT K mg W0 c σ2 H2 fun b H3 =>
    if b = true then iD K mg W0 src1 σ2 H3 fun J1 H4 => ∃ W1 : Nat → Nat → Hp → Prop, (∃ m, W1 0 m H4) ∧ ∀ j k H, W1 j k H →
      (J1.stop j H ∧ Nx H) ∨ (J1.go j H ∧ ∃ Nx1 : Hp → Prop, (∀ H', Nx1 H' → ∃ k', k' < k ∧ W1 (j + 1) k' H') ∧ ∀ x H', J1.yld j H x H' → gD K mg t1 x (L2.wipe σ2 vs1) H' fun σ3 H5 => L2.wipe σ3 vs1 = L2.wipe σ2 vs1 ∧ body1 K mg c1 e p σ3 H5 Nx1) else Nx H3
theorem body2_ok {K : PySem.W.Frag} {mg : Str → Option Value} {M0 : Mp} {H0 : Hp} {p : Addr} {c c1 : Ft} {src1 : Fi} {t1 : Tg} {e : Fe} {vs1 : List Nat} (ho : ∀ j ∈ t1.slots, j ∈ vs1) (hp : H0 p = none) (env : Env) (acc : List D) (st : Sto) (σ2 : L2.St) (M : Mp) (H : Hp) (N' : Hp → Prop) (r : Rel K mg M env st σ2 H) (cs : CS K mg M0 H0 p acc st M H)
    (h : PC K mg M0 H0 p M H (step2 c src1 t1 c1 e vs1 env acc st) N') : body2 K mg c src1 t1 c1 e vs1 p σ2 H N' := by
  refine ⟨M, env, st, r, pc_bind h fun M1 b st1 v H1 x1 r1 q1 p1 => ?_⟩
  subst q1
  cases b with
  | false =>
    rw [if_neg Bool.false_ne_true] at p1 ⊢
    exact p1 M1 H1 (cs.next x1 r1) (Ext.refl _ _).w
  | true =>
    rw [if_pos rfl] at p1 ⊢
    refine ⟨M1, env, st1, r.mono x1 r1, ?_⟩
    cases es : src1 env st1 with
    | bad => rw [es] at p1; exact p1.elim
    | exc x st2 => rw [es] at p1; exact p1.elim
    | ok S st2 =>
      rw [es] at p1
      intro M2 H2 J x2 r2 wk
      have p2 : PC K mg M0 H0 p M1 H1 (loopG S t1 (step1 c1 e) (wipeE env vs1) S.n 0 acc st2) N' := p1
      exact comp_loop (M0 := M0) (H0 := H0) ho wk (((r.mono x1 r1).e.mono x2).wipe vs1) (body1_ok hp) (M := M2) ((cs.next x1 r1).next x2 r2) (Ext.refl _ _).w (p2.mono x2.w)
theorem comp2_ok {K : PySem.W.Frag} {mg : Str → Option Value} {src src1 : Fi} {t t1 : Tg} {c c1 : Ft} {f : Fe} {own vs1 : List Nat} {σ : L2.St} {H : Hp} {Q : VK} (ho : ∀ j ∈ t.slots, j ∈ own) (h1 : ∀ j ∈ t1.slots, j ∈ vs1) (h : tF K mg W (fComp2 src t c src1 t1 c1 f own vs1) σ H Q) :
    tLc2 (iD K mg W src) (gD K mg t) (tT K mg W0 c) (iD K mg W0 src1) (gD K mg t1) (tT K mg W0 c1) (tF K mg W0 f) own vs1 σ H Q :=
  loop_ok (Body := fun p => body2 K mg c src1 t1 c1 f vs1 p) ho (fun M0 H0 p hp => body2_ok h1 hp) h
theorem x_comp {elt tg iter : Expr} {ifs : List Expr} {scope : Scope} {own : List (Str × Nat)} {pos : Pos} {src : Fi} {t : Tg} {c : Ft} {f : Fe} (hc : X.calm = true) (hN : X.N.Nodup) (hi : XI X W tg iter src) (ok : BlkOk X.N X.env.scope scope own)
    (hg : ∀ (s : Shared) (H : Hp) (C : Addr) (cl : List (Str × Addr)) (fp : List Addr), XG (X.blk s H scope (compEnvC scope cl C X.env) fp) tg t) (ht : ∀ (s : Shared) (H : Hp) (C : Addr) (cl : List (Str × Addr)) (fp : List Addr), XTs (X.blk s H scope (compEnvC scope cl C X.env) fp) W0 ifs c)
    (he : ∀ (s : Shared) (H : Hp) (C : Addr) (cl : List (Str × Addr)) (fp : List Addr), XE (X.blk s H scope (compEnvC scope cl C X.env) fp) W0 elt f) (ho : ∀ j ∈ t.slots, j ∈ own.map (·.2) := by decide) (hs : ∀ x, foldedSetIterable iter X.env x = pure x := by intro _; rfl) :
    XE X W (.ListComp elt [⟨tg, iter, ifs, 0⟩] scope pos) (fComp src t c f (own.map (·.2))) :=
  (pe_lc hc hN hi ok hg ht he hs).fb fun _ _ _ => comp_ok ho
theorem x_comp2 {elt tg iter tg1 iter1 : Expr} {ifs ifs1 : List Expr} {scope : Scope} {own : List (Str × Nat)} {vs1 : List Nat} {pos : Pos} {src src1 : Fi} {t t1 : Tg} {c c1 : Ft} {f : Fe} (hc : X.calm = true) (hN : X.N.Nodup) (hi : XI X W tg iter src) (ok : BlkOk X.N X.env.scope scope own)
    (hg : ∀ (s : Shared) (H : Hp) (C : Addr) (cl : List (Str × Addr)) (fp : List Addr), XG (X.blk s H scope (compEnvC scope cl C X.env) fp) tg t) (ht : ∀ (s : Shared) (H : Hp) (C : Addr) (cl : List (Str × Addr)) (fp : List Addr), XTs (X.blk s H scope (compEnvC scope cl C X.env) fp) W0 ifs c)
    (hi1 : ∀ (s : Shared) (H : Hp) (C : Addr) (cl : List (Str × Addr)) (fp : List Addr), XI (X.blk s H scope (compEnvC scope cl C X.env) fp) W0 tg1 iter1 src1)
    (hg1 : ∀ (s : Shared) (H : Hp) (C : Addr) (cl : List (Str × Addr)) (fp : List Addr), XG (X.blk s H scope (compEnvC scope cl C X.env) fp) tg1 t1) (ht1 : ∀ (s : Shared) (H : Hp) (C : Addr) (cl : List (Str × Addr)) (fp : List Addr), XTs (X.blk s H scope (compEnvC scope cl C X.env) fp) W0 ifs1 c1)
    (he : ∀ (s : Shared) (H : Hp) (C : Addr) (cl : List (Str × Addr)) (fp : List Addr), XE (X.blk s H scope (compEnvC scope cl C X.env) fp) W0 elt f) (hv : ∀ i ∈ vs1, i ∈ own.map (·.2) := by decide) (ho : ∀ j ∈ t.slots, j ∈ own.map (·.2) := by decide) (ho1 : ∀ j ∈ t1.slots, j ∈ vs1 := by decide)
    (hs : ∀ x, foldedSetIterable iter X.env x = pure x := by intro _; rfl) (hs1 : ∀ env x, foldedSetIterable iter1 env x = pure x := by intro _ _; rfl) :
    XE X W (.ListComp elt [⟨tg, iter, ifs, 0⟩, ⟨tg1, iter1, ifs1, 0⟩] scope pos) (fComp2 src t c src1 t1 c1 f (own.map (·.2)) vs1) :=
  (pe_lc2 hc hN hi ok hv hg ht hi1 hg1 ht1 he hs hs1).fb fun _ _ _ => comp2_ok ho ho1
end
end Fb

/-! Fb.H: statements, methods of lists. -/
namespace Fb
open PySem PySem.Spec PyProof.Rows L2

/-- an expression's end within a statement -/
def RS.of {α : Type} (r : R α) (env : Env) (k : α → Sto → RS) : RS := match r with
  | .ok a st => k a st
  | .exc x st => .exc x env st
  | .bad => .bad
section
variable {X : Cx} {W : WX}
theorem PostS.of {K : PySem.W.Frag} {mg : Str → Option Value} {α β : Type} {Rp : Mp → Hp → α → β → Prop} {M : Mp} {env : Env} {st0 : Sto} {σ : L2.St} {H : Hp} {r : R α} {k : α → Sto → RS} {Q : Ends} {Q' : β → Hp → Prop}
    (rl : Rel K mg M env st0 σ H) (h : PostS K mg W M H (RS.of r env k) Q) (g : ∀ M1 d st1 v H1, r = .ok d st1 → Ext M H M1 H1 → RelH K mg M1 st1 H1 → Rp M1 H1 d v → PostS K mg W M1 H1 (k d st1) Q → Q' v H1) : Post K mg Rp W M σ H r Q' := by
  cases r with
  | ok d st => exact fun M' v H' x rh rv => g M' d st v H' rfl x rh rv (PostS.mono (r := k d st) h x)
  | exc z st => exact fun M' H' C x rh hm => h M' σ H' C x (rl.mono x rh) hm
  | bad => exact h
def sSet (t : Tg) (f : Fe) : Fs := fun env st => RS.of (f env st) env fun d st => match bindT t d env st with
  | some env1 => .nx env1 st
  | none => .bad
theorem set_ok {K : PySem.W.Frag} {mg : Str → Option Value} {t : Tg} {f : Fe} {Q : Ends} {σ : L2.St} {H : Hp} (h : tS K mg W (sSet t f) Q σ H) : tAsg (tF K mg W f) (gD K mg t) Q σ H := by
  obtain ⟨M, env, st, r, p⟩ := h
  refine ⟨M, env, st, r, PostS.of r p fun M1 d st1 v H1 _ x1 r1 q1 p1 => ?_⟩
  cases e : bindT t d env st1 with
  | none => rw [e] at p1; exact p1.elim
  | some env1 =>
    rw [e] at p1
    exact ⟨M1, env, st1, d, env1, r.mono x1 r1, q1, e, fun σ' r' _ => p1 M1 σ' H1 (Ext.refl _ _) r'⟩
theorem s_asg {tg e : Expr} {t : Tg} {f : Fe} {pos : Pos} (he : XE X W e f) (hg : XG X tg t) (hs : swapsWithSole [tg] e pos.line X.env = pure false := by rfl) (hw : swappedStores [tg] e X.env = pure none := by rfl)
    (h1 : (assignEach [tg] X.env).map (·.2) = [assign tg X.env] := by rfl) : XS X W (.Assign [tg] e pos) (sSet t f) := (ps_asg he hg hs hw h1).fb fun _ _ _ => set_ok
theorem name_ok {K : PySem.W.Frag} {mg : Str → Option Value} {i : Nat} {f : Fe} {Q : Ends} {σ : L2.St} {H : Hp} (h : tS K mg W (sSet (.nm i) f) Q σ H) : tAsg (tF K mg W f) (gName i) Q σ H := by
  obtain ⟨M, env, st, r, p⟩ := h
  refine ⟨M, env, st, r, PostS.of r p fun M1 d st1 v H1 _ x1 r1 q1 p1 => ?_⟩
  exact p1 M1 _ H1 (Ext.refl _ _) ⟨r1, (r.mono x1 r1).e.set q1 i⟩
theorem s_set {i : Nat} {x : Str} {e : Expr} {f : Fe} {pos' pos : Pos} (hN : X.N.Nodup) (hi : X.N[i]? = some x) (hx : Loc X.env.scope x) (he : XE X W e f) (hs : swapsWith e (some (.Name x pos')) pos.line X.env = pure false := by rfl)
    (hf : X.fn x = true ∨ X.env.scope.names.lookup x = some .local := by first | exact .inl rfl | exact .inr rfl | assumption) : XS X W (.Assign [.Name x pos'] e pos) (sSet (.nm i) f) := (ps_set hN hi hx he hs hf).fb fun _ _ _ => name_ok
theorem s_setLc {i : Nat} {y : Str} {py : Pos} {elt tg iter : Expr} {ifs : List Expr} {scope : Scope} {own : List (Str × Nat)} {pos spos : Pos} {src : Fi} {t : Tg} {c : Ft} {f : Fe} (hc : X.calm = true) (hN : X.N.Nodup) (hy : X.N[i]? = some y) (hyl : X.env.scope.names.lookup y = some .local)
    (hsw : swapsWith (.ListComp elt [⟨tg, iter, ifs, 0⟩] scope pos) (some (.Name y py)) spos.line X.env = pure true) (hi : XI X W tg iter src) (ok : BlkOk X.N X.env.scope scope own)
    (hg : ∀ (s : Shared) (H : Hp) (C : Addr) (cl : List (Str × Addr)) (fp : List Addr), XG (X.blk s H scope (compEnvC scope cl C X.env) fp) tg t) (ht : ∀ (s : Shared) (H : Hp) (C : Addr) (cl : List (Str × Addr)) (fp : List Addr), XTs (X.blk s H scope (compEnvC scope cl C X.env) fp) W0 ifs c)
    (he : ∀ (s : Shared) (H : Hp) (C : Addr) (cl : List (Str × Addr)) (fp : List Addr), XE (X.blk s H scope (compEnvC scope cl C X.env) fp) W0 elt f) (ho : ∀ j ∈ t.slots, j ∈ own.map (·.2) := by decide) (hs : ∀ x, foldedSetIterable iter X.env x = pure x := by intro _; rfl) :
    XS X W (.Assign [.Name y py] (.ListComp elt [⟨tg, iter, ifs, 0⟩] scope pos) spos) (sSet (.nm i) (fComp src t c f (own.map (·.2)))) :=
  (ps_setLc hc hN hy hyl hsw hi ok hg ht he hs).fb fun _ _ _ h => comp_ok ho (name_ok h)
theorem s_setLc2 {i : Nat} {y : Str} {py : Pos} {elt tg iter tg1 iter1 : Expr} {ifs ifs1 : List Expr} {scope : Scope} {own : List (Str × Nat)} {vs1 : List Nat} {pos spos : Pos} {src src1 : Fi} {t t1 : Tg} {c c1 : Ft} {f : Fe} (hc : X.calm = true) (hN : X.N.Nodup) (hy : X.N[i]? = some y) (hyl : X.env.scope.names.lookup y = some .local)
    (hsw : swapsWith (.ListComp elt [⟨tg, iter, ifs, 0⟩, ⟨tg1, iter1, ifs1, 0⟩] scope pos) (some (.Name y py)) spos.line X.env = pure true) (hi : XI X W tg iter src) (ok : BlkOk X.N X.env.scope scope own)
    (hg : ∀ (s : Shared) (H : Hp) (C : Addr) (cl : List (Str × Addr)) (fp : List Addr), XG (X.blk s H scope (compEnvC scope cl C X.env) fp) tg t) (ht : ∀ (s : Shared) (H : Hp) (C : Addr) (cl : List (Str × Addr)) (fp : List Addr), XTs (X.blk s H scope (compEnvC scope cl C X.env) fp) W0 ifs c)
    (hi1 : ∀ (s : Shared) (H : Hp) (C : Addr) (cl : List (Str × Addr)) (fp : List Addr), XI (X.blk s H scope (compEnvC scope cl C X.env) fp) W0 tg1 iter1 src1)
    (hg1 : ∀ (s : Shared) (H : Hp) (C : Addr) (cl : List (Str × Addr)) (fp : List Addr), XG (X.blk s H scope (compEnvC scope cl C X.env) fp) tg1 t1) (ht1 : ∀ (s : Shared) (H : Hp) (C : Addr) (cl : List (Str × Addr)) (fp : List Addr), XTs (X.blk s H scope (compEnvC scope cl C X.env) fp) W0 ifs1 c1)
    (he : ∀ (s : Shared) (H : Hp) (C : Addr) (cl : List (Str × Addr)) (fp : List Addr), XE (X.blk s H scope (compEnvC scope cl C X.env) fp) W0 elt f) (hv : ∀ i ∈ vs1, i ∈ own.map (·.2) := by decide) (ho : ∀ j ∈ t.slots, j ∈ own.map (·.2) := by decide) (ho1 : ∀ j ∈ t1.slots, j ∈ vs1 := by decide)
    (hs : ∀ x, foldedSetIterable iter X.env x = pure x := by intro _; rfl) (hs1 : ∀ env x, foldedSetIterable iter1 env x = pure x := by intro _ _; rfl) :
    XS X W (.Assign [.Name y py] (.ListComp elt [⟨tg, iter, ifs, 0⟩, ⟨tg1, iter1, ifs1, 0⟩] scope pos) spos) (sSet (.nm i) (fComp2 src t c src1 t1 c1 f (own.map (·.2)) vs1)) :=
  (ps_setLc2 hc hN hy hyl hsw hi ok hv hg ht hi1 hg1 ht1 he hs hs1).fb fun _ _ _ h => comp2_ok ho ho1 (name_ok h)
/-- a, b = x, y -/
def sPar (js : List Nat) (f : Fa) : Fs := fun env st => RS.of (f env st) env fun ds st => match setAll js ds env with
  | some env1 => .nx env1 st
  | none => .bad
theorem s_par {i j : Nat} {x y : Str} {a b : Expr} {f : Fa} {px py pt pos : Pos} {kt k2 pt2} (hc : X.calm = true) (hN : X.N.Nodup) (hi : X.N[i]? = some x) (hj : X.N[j]? = some y) (hij : i ≠ j)
    (hx : X.env.scope.names.lookup x = some .local) (hy : X.env.scope.names.lookup y = some .local) (ha : XA X W [a, b] f)
    (hw : swappedStores [.Tuple [.Name x px, .Name y py] kt pt] (.Tuple [a, b] k2 pt2) X.env = pure (some [x, y]))
    (hs : swapsWithSole [.Tuple [.Name x px, .Name y py] kt pt] (.Tuple [a, b] k2 pt2) pos.line X.env = pure false := by rfl) :
    XS X W (.Assign [.Tuple [.Name x px, .Name y py] kt pt] (.Tuple [a, b] k2 pt2) pos) (sPar [i, j] f) :=
  (ps_par hc hN hi hj hij hx hy ha hw hs).fb fun Q σ H ⟨M, env, st, r, p⟩ => ⟨M, env, st, r, PostS.of r p fun M1 ds st1 vs H1 _ x1 r1 q1 p1 => by
    cases e : setAll [i, j] ds env with
    | none => rw [e] at p1; exact p1.elim
    | some env1 =>
      rw [e] at p1
      match ds, q1, e with
      | [d1, d2], q1, e =>
        cases e
        obtain ⟨v, u, rfl, a1, a2⟩ := q1.two
        exact ⟨v, u, rfl, p1 M1 _ H1 (Ext.refl _ _) ⟨r1, ((r.mono x1 r1).e.set a1 i).set a2 j⟩⟩
      | [], _, e => cases e
      | [_], _, e => cases e
      | _ :: _ :: _ :: _, _, e => cases e⟩
theorem RVs.three {K : PySem.W.Frag} {mg : Str → Option Value} {M : Mp} {H : Hp} {d e f : D} {vs : List V} (h : RVs K mg M H [d, e, f] vs) : ∃ v u w, vs = [v, u, w] ∧ RV K mg M H d v ∧ RV K mg M H e u ∧ RV K mg M H f w := by
  cases h with
  | cons a h =>
    obtain ⟨v, u, rfl, b, c⟩ := h.two
    exact ⟨_, _, _, rfl, a, b, c⟩
theorem s_par3 {i j l : Nat} {x y z : Str} {a b c : Expr} {f : Fa} {px py pz pt pos : Pos} {kt k2 pt2} (hc : X.calm = true) (hN : X.N.Nodup) (hi : X.N[i]? = some x) (hj : X.N[j]? = some y) (hl : X.N[l]? = some z) (hij : i ≠ j) (hil : i ≠ l) (hjl : j ≠ l)
    (hx : X.env.scope.names.lookup x = some .local) (hy : X.env.scope.names.lookup y = some .local) (hz : X.env.scope.names.lookup z = some .local) (ha : XA X W [a, b, c] f)
    (hw : swappedStores [.Tuple [.Name x px, .Name y py, .Name z pz] kt pt] (.Tuple [a, b, c] k2 pt2) X.env = pure (some [x, y, z]))
    (hs : swapsWithSole [.Tuple [.Name x px, .Name y py, .Name z pz] kt pt] (.Tuple [a, b, c] k2 pt2) pos.line X.env = pure false := by rfl) :
    XS X W (.Assign [.Tuple [.Name x px, .Name y py, .Name z pz] kt pt] (.Tuple [a, b, c] k2 pt2) pos) (sPar [i, j, l] f) :=
  (ps_par3 hc hN hi hj hl hij hil hjl hx hy hz ha hw hs).fb fun Q σ H ⟨M, env, st, r, p⟩ => ⟨M, env, st, r, PostS.of r p fun M1 ds st1 vs H1 _ x1 r1 q1 p1 => by
    cases e : setAll [i, j, l] ds env with
    | none => rw [e] at p1; exact p1.elim
    | some env1 =>
      rw [e] at p1
      match ds, q1, e with
      | [d1, d2, d3], q1, e =>
        cases e
        obtain ⟨v, u, w, rfl, a1, a2, a3⟩ := q1.three
        exact ⟨v, u, w, rfl, p1 M1 _ H1 (Ext.refl _ _) ⟨r1, (((r.mono x1 r1).e.set a1 i).set a2 j).set a3 l⟩⟩
      | [], _, e => cases e
      | [_], _, e => cases e
      | [_, _], _, e => cases e
      | _ :: _ :: _ :: _ :: _, _, e => cases e⟩
/-- o[i] = e, o a cell -/
def putD (o i v : D) (st : Sto) : Option Sto := match o, i with
  | .ref k, .int n => match st[k]? with
    | some (.lst ds) => (ixN ds.length n).map fun j => st.set k (.lst (ds.set j v))
    | _ => none
  | _, _ => none
def sPut (fo fi fv : Fe) : Fs := fun env st => RS.of (fv env st) env fun v st => RS.of (fo env st) env fun o st => RS.of (fi env st) env fun i st => match putD o i v st with
  | some st => .nx env st
  | none => .bad
theorem s_put {o i e : Expr} {fo fi fv : Fe} {pos' pos : Pos} (he : XE X W e fv) (ho : XE X W o fo) (hi : XE X W i fi)
    (hs : swapsWithSole [.Subscript o i pos'] e pos.line X.env = pure false := by rfl) (hw : swappedStores [.Subscript o i pos'] e X.env = pure none := by rfl)
    (h1 : (assignEach [.Subscript o i pos'] X.env).map (·.2) = [assign (.Subscript o i pos') X.env] := by rfl)
    (ha : ∀ v, assign (.Subscript o i pos') X.env v = (do
      let ov ← holding [v] (eval o X.env)
      let iv ← holding [v, ov] (eval i X.env)
      standAt pos'
      holding [v, ov, iv] (setItem ov iv v)
      release [v, ov, iv] []) := by intro _; rfl) : XS X W (.Assign [.Subscript o i pos'] e pos) (sPut fo fi fv) :=
  (ps_asg he (pg_sub ho hi set_list ha) hs hw h1).fb fun Q σ H ⟨M, env, st, r, p⟩ => ⟨M, env, st, r, PostS.of r p fun M1 v st1 vv H1 _ x1 r1 q1 p1 =>
    ⟨M1, env, st1, r.mono x1 r1, PostS.of (r.mono x1 r1) p1 fun M2 d2 st2 v2 H2 _ x2 r2 q2 p2 =>
      have rr2 := (r.mono x1 r1).mono x2 r2
      ⟨M2, env, st2, rr2, PostS.of rr2 p2 fun M3 d3 st3 v3 H3 _ x3 r3 q3 p3 => by
      cases e : putD d2 d3 v st3 with
      | none => rw [e] at p3; exact p3.elim
      | some st4 =>
        rw [e] at p3
        unfold putD at e
        split at e
        · rename_i k n _ _
          split at e
          · rename_i ds hds
            cases hj : ixN ds.length n with
            | none => rw [hj] at e; cases e
            | some j =>
              rw [hj] at e
              cases e
              have q2' := q2.mono x3
              cases q2' with
              | @ref _ a hk =>
                cases q3
                obtain ⟨vs, c1, c2⟩ := r3.cell k _ a hds hk
                refine ⟨a, vs, n, j, rfl, rfl, c1, by rw [← c2.length]; exact hj, ?_⟩
                have x4 : Ext M3 H3 M3 (upd H3 a (.lst (vs.set j vv))) := Ext.wr r3 hk
                refine p3 M3 _ _ x4 ⟨r3.wr hk ⟨_, upd_same, (RVs.set ((q1.mono x2).mono x3) j c2).mono x4⟩, ((rr2.mono x3 r3).e).mono x4⟩
          · cases e
        · cases e⟩⟩⟩
/-- name op= e -/
def rIp (K : PySem.W.Frag) (mg : Str → Option Value) (g : D → D → Sto → Option D) : TIp := rD K mg g
def sAug (i : Nat) (g : D → D → Sto → Option D) (f : Fe) : Fs := fun env st => match env[i]? with
  | some (some d) => RS.of (f env st) env fun e st => match g d e st with
    | some z => .nx (env.set i (some z)) st
    | none => .bad
  | _ => .bad
theorem s_aug {i : Nat} {x : Str} {e : Expr} {f : Fe} {op : Operator} {g : D → D → Sto → Option D} {pos' pos : Pos} (hN : X.N.Nodup) (hi : X.N[i]? = some x) (hx : Loc X.env.scope x) (he : XE X W e f) (ho : PIp X op (rD X.K X.mg g))
    (hf : X.fn x = true ∨ X.env.scope.names.lookup x = some .local := by first | exact .inl rfl | exact .inr rfl | assumption) : XS X W (.AugAssign (.Name x pos') op e pos) (sAug i g f) :=
  (ps_aug hN hi hx he ho hf).fb fun Q σ H ⟨M, env, st, r, p⟩ => by
    unfold sAug at p
    split at p
    · rename_i d hd
      obtain ⟨v, hv, rv⟩ := r.e.get i d hd
      refine ⟨v, hv, M, env, st, r, PostS.of r p fun M1 d1 st1 v1 H1 _ x1 r1 q1 p1 => ?_⟩
      cases e : g d d1 st1 with
      | none => rw [e] at p1; exact p1.elim
      | some z =>
        rw [e] at p1
        exact ⟨M1, st1, d, d1, z, r1, rv.mono x1, q1, e, fun u H' x rh ru => p1 M1 _ H' x ⟨rh, (((r.mono x1 r1).mono x rh).e.set ru i)⟩⟩
    · exact p.elim
theorem ip_addD : PIp X .Add (rD X.K X.mg fun d e _ => match d, e with | .int i, .int j => some (.int (i + j)) | _, _ => none) := by
  intro pins s σ H x y v u Q I rx ry ⟨M, st, d, e, z, r, hd, he, hg, q⟩
  dsimp only at hg
  split at hg
  · cases hg
    cases hd
    cases he
    exact ip_add pins s σ H _ _ v u Q I rx ry ⟨_, _, rfl, rfl, q _ H (Ext.refl _ _) r (.int _)⟩
  · cases hg
/-! ### the others -/
def sRet (f : Fe) : Fs := fun env st => RS.of (f env st) env fun d st => .rt d st
def sRetN : Fs := fun _ st => .rt .non st
def sExpr (f : Fe) : Fs := fun env st => RS.of (f env st) env fun _ st => .nx env st
def sIf (c : Ft) (f g : Fs) : Fs := fun env st => RS.of (c env st) env fun b st => if b = true then f env st else g env st
def sNop : Fs := fun env st => .nx env st
def sSeq (f g : Fs) : Fs := fun env st => (f env st).bind g
theorem s_ret {e : Expr} {f : Fe} {pos : Pos} (h : XE X W e f) : XS X W (.Return (some e) pos) (sRet f) :=
  (ps_ret h).fb fun Q σ H ⟨M, env, st, r, p⟩ => ⟨M, env, st, r, PostS.of r p fun M1 d st1 v H1 _ x1 r1 q1 p1 => p1 M1 v H1 (Ext.refl _ _) r1 q1⟩
theorem s_retN {pos : Pos} : XS X W (.Return none pos) sRetN := ps_retN.fb fun Q σ H ⟨M, env, st, r, p⟩ => p M .non H (Ext.refl _ _) r.h .non
theorem s_expr {e : Expr} {f : Fe} {pos : Pos} (h : XE X W e f) (hs : swapsWith e none pos.line X.env = pure false := by rfl) : XS X W (.Expr e pos) (sExpr f) :=
  (ps_expr h hs).fb fun Q σ H ⟨M, env, st, r, p⟩ => ⟨M, env, st, r, PostS.of r p fun M1 d st1 v H1 _ x1 r1 q1 p1 => p1 M1 σ H1 (Ext.refl _ _) (r.mono x1 r1)⟩
theorem s_if {c : Expr} {a b : List Stmt} {t : Ft} {f g : Fs} {pos : Pos} (hc : XT X W c t) (ha : XSs X W a f) (hb : XSs X W b g) : XS X W (.If c a b pos) (sIf t f g) :=
  (ps_if hc ha hb).fb fun Q σ H ⟨M, env, st, r, p⟩ => ⟨M, env, st, r, PostS.of r p fun M1 b st1 v H1 _ x1 r1 q1 p1 => by
    subst q1
    cases b with
    | true => exact ⟨M1, env, st1, r.mono x1 r1, p1⟩
    | false => exact ⟨M1, env, st1, r.mono x1 r1, p1⟩⟩
theorem s_pass {pos : Pos} : XS X W (.Pass pos) sNop := ps_pass.fb fun Q σ H ⟨M, env, st, r, p⟩ => p M σ H (Ext.refl _ _) r
theorem ss_nil : XSs X W [] sNop := pss_nil.fb fun Q σ H ⟨M, env, st, r, p⟩ => p M σ H (Ext.refl _ _) r
theorem ss_cons {s : Stmt} {ss : List Stmt} {f g : Fs} (h : XS X W s f) (k : XSs X W ss g) : XSs X W (s :: ss) (sSeq f g) :=
  (pss_cons h k).fb fun Q σ H ⟨M, env, st, r, p⟩ => ⟨M, env, st, r, PostS.bind p fun M1 env1 st1 σ1 H1 _ x1 r1 p1 => ⟨M1, env1, st1, r1, p1⟩⟩
theorem ss_one {s : Stmt} {f : Fs} (h : XS X W s f) : XSs X W [s] f := pss_one h

/-! ### methods that change a list -/
abbrev Gm := D → List D → Sto → Option (D × Sto)
def fMt (g : Gm) (fo : Fe) (fa : Fa) : Fe := fun env st => (fo env st).bind fun o st => match seqL st o with
  | none => .bad
  | some _ => (fa env st).bind fun ds st => match g o ds st with
    | some (z, st) => .ok z st
    | none => .bad
/-- the wish of a method by values -/
def rMt (K : PySem.W.Frag) (mg : Str → Option Value) (g : Gm) : V → List V → Hp → VK → Prop := fun x xs H Q => ∃ M st o ds z st', RelH K mg M st H ∧ RV K mg M H o x ∧ RVs K mg M H ds xs ∧ g o ds st = some (z, st') ∧
  ∀ v H', Ext M H M H' → RelH K mg M st' H' → RV K mg M H' z v → Q v H'
theorem x_mt {o e : Expr} {es : List Expr} {id : String} {name : Str} {apos cpos : Pos} {g : Gm} {fo : Fe} {fa : Fa} (slot : Slot "list" name id) (hty : typeOf (.builtin id) = pure (.type "method_descriptor")) (hm : MtM X id (rMt X.K X.mg g)) (ho : XE X W o fo) (ha : XA X W (e :: es) fa)
    (hbase : attributeBase o name X.env (eval o X.env) = eval o X.env := by rfl)
    (hfew : ((backTo cpos (starEach (e :: es) X.env)).all (fun x => !x.1) && (backToKw cpos (keywordEach [] X.env)).all (fun x => x.1.isSome)
      && decide ((e :: es).length + ([] : List Keyword).length + (if ([] : List Keyword).isEmpty then 0 else 1) < 30)) = true := by rfl)
    (hline : (apos.endLine == cpos.line) = true := by rfl) (hs : starEach (e :: es) X.env = (false, eval e X.env) :: starEach es X.env := by rfl) (hplain : (backTo cpos (starEach es X.env)).any (·.1) = false := by rfl) :
    XE X W (.Call (.Attribute o name apos) (e :: es) [] cpos) (fMt g fo fa) :=
  (pe_bm F.plainAttrs_list slot hty hm ho ha hbase hfew hline hs hplain).fb fun σ H Q ⟨M, env, st, r, p⟩ => ⟨M, env, st, r, Post.bind p fun M1 d1 st1 v1 H1 _ x1 r1 q1 p1 => by
    cases e : seqL st1 d1 with
    | none => rw [e] at p1; exact p1.elim
    | some ds =>
      rw [e] at p1
      obtain ⟨a, xs, rfl, h2, _⟩ := seqL_ok r1 q1 e
      refine ⟨.inl ⟨rfl, xs, .inl h2⟩, M1, env, st1, r.mono x1 r1, Post.bind p1 fun M2 ds st2 vs H2 _ x2 r2 q2 p2 => ?_⟩
      cases e2 : g d1 ds st2 with
      | none => rw [e2] at p2; exact p2.elim
      | some w => rw [e2] at p2; exact ⟨M2, st2, d1, ds, w.1, w.2, r2, q1.mono x2, q2, e2, fun v H' x rh rv => p2 M2 v H' x rh rv⟩⟩
theorem x_mt0 {o : Expr} {id : String} {name : Str} {apos cpos : Pos} {g : Gm} {fo : Fe} (slot : Slot "list" name id) (hty : typeOf (.builtin id) = pure (.type "method_descriptor")) (hm : MtM X id (rMt X.K X.mg g)) (ho : XE X W o fo)
    (hbase : attributeBase o name X.env (eval o X.env) = eval o X.env := by rfl) (hline : (apos.endLine == cpos.line) = true := by rfl) :
    XE X W (.Call (.Attribute o name apos) [] [] cpos) (fMt g fo fNil) :=
  (pe_bm0 F.plainAttrs_list slot hty hm ho hbase hline).fb fun σ H Q ⟨M, env, st, r, p⟩ => ⟨M, env, st, r, Post.bind p fun M1 d1 st1 v1 H1 _ x1 r1 q1 p1 => by
    cases e : seqL st1 d1 with
    | none => rw [e] at p1; exact p1.elim
    | some ds =>
      rw [e] at p1
      obtain ⟨a, xs, rfl, h2, _⟩ := seqL_ok r1 q1 e
      refine ⟨.inl ⟨rfl, xs, .inl h2⟩, ?_⟩
      have p1' : Post X.K X.mg (RV X.K X.mg) W M1 σ H1 (match g d1 [] st1 with | some (z, st) => .ok z st | none => .bad) Q := p1
      cases e2 : g d1 [] st1 with
      | none => rw [e2] at p1'; exact p1'.elim
      | some w => rw [e2] at p1'; exact ⟨M1, st1, d1, [], w.1, w.2, r1, q1, .nil, e2, fun v H' x rh rv => p1' M1 v H' x rh rv⟩⟩
def celL (st : Sto) : D → Option (Nat × List D)
  | .ref k => match st[k]? with
    | some (.lst ds) => some (k, ds)
    | _ => none
  | _ => none
theorem celL_ok {K : PySem.W.Frag} {mg : Str → Option Value} {M : Mp} {st : Sto} {H : Hp} {d : D} {v : V} {k : Nat} {ds : List D} (r : RelH K mg M st H) (h : RV K mg M H d v) (e : celL st d = some (k, ds)) : ∃ a xs, v = .ref a ∧ M.c[k]? = some a ∧ H a = some (.lst xs) ∧ RVs K mg M H ds xs := by
  cases h with
  | ref hk =>
    unfold celL at e
    dsimp only at e
    split at e
    · rename_i ds' hc
      cases e
      obtain ⟨vs, q1, q2⟩ := r.cell _ _ _ hc hk
      exact ⟨_, _, rfl, hk, q1, q2⟩
    · cases e
  | _ => cases e
def gAppend : Gm := fun o ds st => match ds with
  | [d] => (celL st o).bind fun z => if z.2.length < 100000 then some (.non, st.set z.1 (.lst (z.2 ++ [d]))) else none
  | _ => none
theorem m_append : MtM X "list.append" (rMt X.K X.mg gAppend) := by
  intro pins s σ H x xs v us Q I rx rxs ⟨M, st, o, ds, z, st', r, ho, hds, hg, q⟩
  unfold gAppend at hg
  split at hg
  · rename_i d
    cases h1 : celL st o with
    | none => rw [h1] at hg; cases hg
    | some w =>
      obtain ⟨k, es⟩ := w
      rw [h1] at hg
      have hg' : (if es.length < 100000 then some (D.non, st.set k (.lst (es ++ [d]))) else none) = some (z, st') := hg
      split at hg'
      · rename_i hl
        cases hg'
        obtain ⟨a, ys, rfl, hk, e1, e2⟩ := celL_ok r ho h1
        obtain ⟨y, rfl, ry⟩ := hds.one
        have x4 : Ext M H M (upd H a (.lst (ys ++ [y]))) := Ext.wr r hk
        exact mt_append pins s σ H _ _ v us Q I rx rxs ⟨a, ys, y, rfl, rfl, e1, by rw [← e2.length]; exact Nat.lt_of_lt_of_le hl (by decide), q _ _ x4 (r.wr hk ⟨_, upd_same, (e2.append (.cons ry .nil)).mono x4⟩) .non⟩
      · cases hg'
  · cases hg
def gPop : Gm := fun o ds st => match ds with
  | [] => (celL st o).bind fun z => (z.2[z.2.length - 1]?).map fun d => (d, st.set z.1 (.lst z.2.dropLast))
  | _ => none
theorem RVs.dropLast {K : PySem.W.Frag} {mg : Str → Option Value} {M : Mp} {H : Hp} {ds : List D} {vs : List V} (h : RVs K mg M H ds vs) : RVs K mg M H ds.dropLast vs.dropLast := by
  rw [List.dropLast_eq_take, List.dropLast_eq_take, h.length]
  exact h.take _
theorem m_pop : MtM X "list.pop" (rMt X.K X.mg gPop) := by
  intro pins s σ H x xs v us Q I rx rxs ⟨M, st, o, ds, z, st', r, ho, hds, hg, q⟩
  unfold gPop at hg
  split at hg
  · cases h1 : celL st o with
    | none => rw [h1] at hg; cases hg
    | some w =>
      obtain ⟨k, es⟩ := w
      rw [h1] at hg
      have hg' : (es[es.length - 1]?).map (fun d => (d, st.set k (.lst es.dropLast))) = some (z, st') := hg
      cases h2 : es[es.length - 1]? with
      | none => rw [h2] at hg'; cases hg'
      | some d =>
        rw [h2] at hg'
        cases hg'
        obtain ⟨a, ys, rfl, hk, e1, e2⟩ := celL_ok r ho h1
        cases hds
        obtain ⟨y, e3, ry⟩ := e2.get h2
        have x4 : Ext M H M (upd H a (.lst ys.dropLast)) := Ext.wr r hk
        exact mt_pop pins s σ H _ _ v us Q I rx rxs ⟨a, ys, y, rfl, rfl, e1, by rw [← e2.length]; exact e3, q _ _ x4 (r.wr hk ⟨_, upd_same, e2.dropLast.mono x4⟩) (ry.mono x4)⟩
  · cases hg
theorem RVs.eraseIdx {K : PySem.W.Frag} {mg : Str → Option Value} {M : Mp} {H : Hp} : ∀ {ds : List D} {vs : List V} (i : Nat), RVs K mg M H ds vs → RVs K mg M H (ds.eraseIdx i) (vs.eraseIdx i)
  | _, _, _, .nil => .nil
  | _, _, 0, .cons _ r => r
  | _, _, i + 1, .cons h r => .cons h (RVs.eraseIdx i r)
def gPopAt : Gm := fun o ds st => match ds with
  | [.int i] => if -100000 ≤ i ∧ i ≤ 100000 then (celL st o).bind fun z => (seqIndex? i z.2.length).bind fun j => (z.2[j]?).map fun d => (d, st.set z.1 (.lst (z.2.eraseIdx j))) else none
  | _ => none
theorem m_popAt : MtM X "list.pop" (rMt X.K X.mg gPopAt) := by
  intro pins s σ H x xs v us Q I rx rxs ⟨M, st, o, ds, z, st', r, ho, hds, hg, q⟩
  unfold gPopAt at hg
  split at hg
  · rename_i i
    split at hg
    · rename_i hi
      cases h1 : celL st o with
      | none => rw [h1] at hg; cases hg
      | some w =>
        obtain ⟨k, es⟩ := w
        rw [h1] at hg
        have hg' : ((seqIndex? i es.length).bind fun j => (es[j]?).map fun d => (d, st.set k (.lst (es.eraseIdx j)))) = some (z, st') := hg
        cases h3 : seqIndex? i es.length with
        | none => rw [h3] at hg'; cases hg'
        | some j =>
          rw [h3] at hg'
          have hg2 : ((es[j]?).map fun d => (d, st.set k (.lst (es.eraseIdx j)))) = some (z, st') := hg'
          cases h2 : es[j]? with
          | none => rw [h2] at hg2; cases hg2
          | some d =>
            rw [h2] at hg2
            cases hg2
            obtain ⟨a, ys, rfl, hk, e1, e2⟩ := celL_ok r ho h1
            obtain ⟨y0, rfl, hy0⟩ := hds.one
            cases hy0
            obtain ⟨y, e3, ry⟩ := e2.get h2
            have x4 : Ext M H M (upd H a (.lst (ys.eraseIdx j))) := Ext.wr r hk
            exact mt_popAt pins s σ H _ _ v us Q I rx rxs ⟨a, ys, i, j, y, rfl, rfl, e1, by omega, by omega, by rw [← e2.length]; exact h3, e3, q _ _ x4 (r.wr hk ⟨_, upd_same, (e2.eraseIdx j).mono x4⟩) (ry.mono x4)⟩
    · cases hg
  · cases hg
def gExtend : Gm := fun o ds st => match ds with
  | [d] => (celL st o).bind fun z => (celL st d).bind fun w => if z.2.length + w.2.length ≤ 100000 then some (.non, st.set z.1 (.lst (z.2 ++ w.2))) else none
  | _ => none
theorem m_extend : MtM X "list.extend" (rMt X.K X.mg gExtend) := by
  intro pins s σ H x xs v us Q I rx rxs ⟨M, st, o, ds, z, st', r, ho, hds, hg, q⟩
  unfold gExtend at hg
  split at hg
  · rename_i d
    cases h1 : celL st o with
    | none => rw [h1] at hg; cases hg
    | some w =>
      obtain ⟨k, es⟩ := w
      cases h2 : celL st d with
      | none => rw [h1, h2] at hg; cases hg
      | some w2 =>
        obtain ⟨k2, es2⟩ := w2
        rw [h1, h2] at hg
        have hg' : (if es.length + es2.length ≤ 100000 then some (D.non, st.set k (.lst (es ++ es2))) else none) = some (z, st') := hg
        split at hg'
        · rename_i hl
          cases hg'
          obtain ⟨a, ys, rfl, hk, e1, e2⟩ := celL_ok r ho h1
          obtain ⟨y0, rfl, hy0⟩ := hds.one
          obtain ⟨a2, ys2, rfl, hk2, f1, f2⟩ := celL_ok r hy0 h2
          have x4 : Ext M H M (upd H a (.lst (ys ++ ys2))) := Ext.wr r hk
          exact mt_extend pins s σ H _ _ v us Q I rx rxs ⟨a, a2, ys, ys2, rfl, rfl, e1, f1, by rw [← e2.length, ← f2.length]; exact szl hl, q _ _ x4 (r.wr hk ⟨_, upd_same, (e2.append f2).mono x4⟩) .non⟩
        · cases hg'
  · cases hg
end
end Fb

/-! Fb.I: defs and their calls. -/
namespace Fb
open PySem PySem.Spec PyProof.Rows L2

abbrev Fn := List D → Sto → R D
/-- what a def promises -/
def spM (K : PySem.W.Frag) (mg : Str → Option Value) (n : Nat) (m : Fn) : Sp := fun vs H Q E => vs.length = n ∧ ∃ M st ds, RelH K mg M st H ∧ RVs K mg M H ds vs ∧ Post K mg (RV K mg) (fun c d _ H => E c d H) M [] H (m ds st) Q
def startE (N : Nat) (ds : List D) : Env := ds.map some ++ List.replicate (N - ds.length) none
/-- a body's end is the def's end -/
def RS.body (r : RS) : R D := match r with
  | .nx _ st => .ok .non st
  | .rt d st => .ok d st
  | .exc x _ st => .exc x st
  | .bad => .bad
def runB (N n : Nat) (f : Fs) : Fn := fun ds st => if ds.length = n then (f (startE N ds) st).body else .bad
section
variable {K : PySem.W.Frag} {mg : Str → Option Value}
theorem start_rel {M : Mp} {H : Hp} {ds : List D} {vs : List V} (N : List Str) (r : RVs K mg M H ds vs) : RelE K mg M (startE N.length ds) (start N vs) H := by
  have hl := r.length
  have h1 : start N vs = vs.map some ++ List.replicate (N.length - vs.length) none := rfl
  refine ⟨by rw [h1]; unfold startE; simp [hl], fun i d e => ?_⟩
  unfold startE at e
  by_cases hi : i < ds.length
  · rw [List.getElem?_append_left (by simpa using hi), List.getElem?_map] at e
    cases q : ds[i]? with
    | none => rw [q] at e; cases e
    | some d' =>
      rw [q] at e
      cases e
      obtain ⟨v, hv, rv⟩ := r.get q
      refine ⟨v, ?_, rv⟩
      rw [h1, List.getElem?_append_left (by rw [List.length_map, ← hl]; exact hi), List.getElem?_map, hv]
      rfl
  · rw [List.getElem?_append_right (by simpa using hi)] at e
    have := List.mem_of_getElem? e
    rw [List.mem_replicate] at this
    cases this.2
theorem body_ok {M : Mp} {st : Sto} {H : Hp} {ds : List D} {vs : List V} {N : List Str} {n : Nat} {f : Fs} {Q : VK} {E : XK} (rh : RelH K mg M st H) (r : RVs K mg M H ds vs)
    (p : Post K mg (RV K mg) (fun c d _ H => E c d H) M [] H (runB N.length n f ds st) Q) : tS K mg (fun c d _ H => E c d H) f { nx := fun _ H' => Q .non H', rt := Q } (start N vs) H := by
  refine ⟨M, startE N.length ds, st, ⟨rh, start_rel N r⟩, ?_⟩
  unfold runB at p
  split at p
  · cases e : f (startE N.length ds) st with
    | nx env st' => rw [e] at p; exact fun M' σ' H' x rl => p M' .non H' x rl.h .non
    | rt d st' => rw [e] at p; exact p
    | exc z env st' => rw [e] at p; exact fun M' σ' H' C x rl hm => p M' H' C x rl.h hm
    | bad => rw [e] at p; exact p
  · exact p.elim
end
section
variable {P : Program} {w : World} {K : PySem.W.Frag} {mg : Str → Option Value} {base : Heap}
/-- the rule for a def -/
theorem ok_def {x qual : Str} {params : Arguments} {body : List Stmt} {scope : Scope} {dvs : List V} {kws : List (Str × V)} {f : Addr} {fd : FuncData} {N ps : List Str} {k n : Nat} {g : Fs} (F : FunD K x qual params body scope dvs kws f fd) (S : FnScope N ps scope)
    (hn : ps.length = n)
    (hbody : ∀ (cdv : Value) (A : Around) (outer : List PySem.Env) (s : Shared) (H : Hp) (E : XK), Room k (A.deeper (envOfC qual scope s.heap.objs.size f cdv)) →
      XSs (cxOf (L2.CX P w) P w K mg base N qual scope f cdv A outer s H E) (fun c d _ H => E c d H) body g) : FnOk P w K mg base (L2.CX P w) (k + 1) f fd ps (spM K mg n (runB N.length n g)) :=
  F.ok S (fun vs H Q E h => by rw [h.1, hn]) fun cdv A outer s H vs Q E hr h => by
    obtain ⟨_, M, st, ds, rh, r, p⟩ := h
    exact ⟨_, hbody cdv A outer s H E hr, body_ok rh r p⟩
end
section
variable {X : Cx} {W : WX}
def fCall (m : Fn) (f : Fa) : Fe := fun env st => (f env st).bind m
theorem x_call {k n : Nat} {f : Addr} {fd : FuncData} {ps : List Str} {m : Fn} {x : Str} {p pos : Pos} {e : Expr} {es : List Expr} {fa : Fa} (tk : Takes X W) (F : FnOk X.prog X.w X.K X.mg X.base (L2.CX X.prog X.w) k f fd ps (spM X.K X.mg n m)) (hr : Room k X.A) (hg : Gl X x) (hm : X.mg x = some (.ref f))
    (hk : PySem.W.keepIn X.K (.ref f) = true) (hb : Binds X.K fd ps []) (hn : ps.length = n) (ha : XA X W (e :: es) fa) (hl : lenA fa n)
    (hdb : (x == ("__debug__" : Str)) = false := by decide) (he : starEach (e :: es) X.env = (false, eval e X.env) :: starEach es X.env := by rfl) (hpl : (backTo pos (starEach es X.env)).any (·.1) = false := by rfl) :
    XE X W (.Call (.Name x p) (e :: es) [] pos) (fCall m fa) :=
  (pe_callS F hr hg hm hk hb (fun σ => passAt tk σ) ha hdb he hpl).fb fun σ H Q ⟨M, env, st, r, q⟩ => ⟨M, env, st, r, Post.bind q fun M1 ds st1 vs H1 e1 x1 r1 q1 p1 => by
    refine ⟨by rw [← q1.length]; exact hl env st ds st1 e1, M1, st1, ds, r1, q1, ?_⟩
    cases e2 : m ds st1 with
    | ok d s => rw [e2] at p1; exact p1
    | exc d s => rw [e2] at p1; exact p1
    | bad => rw [e2] at p1; exact p1⟩
theorem x_call0 {k : Nat} {f : Addr} {fd : FuncData} {m : Fn} {x : Str} {p pos : Pos} (tk : Takes X W) (F : FnOk X.prog X.w X.K X.mg X.base (L2.CX X.prog X.w) k f fd [] (spM X.K X.mg 0 m)) (hr : Room k X.A) (hg : Gl X x) (hm : X.mg x = some (.ref f))
    (hk : PySem.W.keepIn X.K (.ref f) = true) (hb : Binds X.K fd [] [])
    (hdb : (x == ("__debug__" : Str)) = false := by decide) :
    XE X W (.Call (.Name x p) [] [] pos) (fCall m fNil) := by
  refine ⟨fun pins s σ H Q I ⟨M, env, st, r, q⟩ => ?_⟩
  refine wpAny_Call_Name_kw (ld_glob I hg hm ?_ hdb)
  refine PySem.W.callWith_K0 I.kIn hk (run_fnS (us := []) (vs := []) F hr hb (passAt tk σ) I .nil ⟨rfl, M, st, [], r.h, .nil, ?_⟩)
  have q' : Post X.K X.mg (RV X.K X.mg) W M σ H (m [] st) Q := q
  cases e2 : m [] st with
  | ok d s => rw [e2] at q'; exact q'
  | exc d s => rw [e2] at q'; exact q'
  | bad => rw [e2] at q'; exact q'
/-! ### raise X('..') -/
def sRaise (x : Str) : Fs := fun env st => .exc x env st
theorem s_raise {C : Addr} {bmB : List Value} {B newId initId : String} {x m : Str} {j : Nat} {p p2 pc pos : Pos} (hc : X.calm = true) (tk : Takes X W) (F : ExcBaseFacts B newId initId bmB) (q : PySem.W.excIn X.K C bmB newId = true) (gC : X.mg x = some (.ref C)) (kC : PySem.W.keepIn X.K (.ref C) = true) (r : Raises X (.ref C)) (hg : Gl X x)
    (hdb : (x == ("__debug__" : Str)) = false := by decide) : XS X W (.Raise (some (.Call (.Name x p) [.Constant (.str m) j p2] [] pc)) none pos) (sRaise x) :=
  (ps_raise hc tk (pmk_own F q gC kC r hg hdb)).fb fun Q σ H ⟨M, env, st, rl, h⟩ => h M σ H C (Ext.refl _ _) rl gC
end
end Fb

/-! Fb.J: defs as wholes, raising by name, new cells from + and from calls. -/
namespace Fb
open PySem PySem.Spec PyProof.Rows L2
abbrev ga := He.ga
/-- a def of the module: what it does, how it is called -/
structure Def (P : Program) (w : World) (K : PySem.W.Frag) (mg : Str → Option Value) (base : Heap) (x : Str) (ps : List Str) (k n : Nat) (m : Fn) : Prop where
  ex : ∃ fd, FnOk P w K mg base (L2.CX P w) k (ga K x) fd ps (spM K mg n m) ∧ Binds K fd ps [] ∧ ∃ oc od osl, K.lookup (ga K x) = some ⟨oc, od, .func fd, osl⟩
  kp : PySem.W.keepIn K (.ref (ga K x)) = true
  gl : mg x = some (.ref (ga K x))
  ln : ps.length = n
/-- a def as it stands -/
structure DefF (K : PySem.W.Frag) (mg : Str → Option Value) (x : Str) (st : Stmt) : Prop where
  ex : ∃ fd, FunD K x x (defArgs st) (defBody st) (defScope st) [] [] (ga K x) fd
  gl : mg x = some (.ref (ga K x))
theorem DefF.def_ {P : Program} {w : World} {K : PySem.W.Frag} {mg : Str → Option Value} {base : Heap} {x : Str} {st : Stmt} {N ps : List Str} {k : Nat} {g : Fs} (F : DefF K mg x st) (S : FnScope N ps (defScope st))
    (hb : ∀ (kV doc pm : Value) (an : Option Addr) (cdv ct : Value) (us : List Value), us.length = ps.length → bindArgs (PySem.W.fnOf x x (defArgs st) (defBody st) (defScope st) .none kV doc pm an cdv ct) ⟨us, []⟩ = pure (ps.zip us))
    (hbody : ∀ (f : Addr) (cdv : Value) (A : Around) (outer : List PySem.Env) (s : Shared) (H : Hp) (E : XK), Room k (A.deeper (envOfC x (defScope st) s.heap.objs.size f cdv)) →
      XSs (cxOf (L2.CX P w) P w K mg base N x (defScope st) f cdv A outer s H E) (fun c d _ H => E c d H) (defBody st) g) : Def P w K mg base x ps (k + 1) ps.length (runB N.length ps.length g) := by
  obtain ⟨fd, F1⟩ := F.ex
  refine ⟨⟨fd, ok_def F1 S rfl (fun cdv A outer s H E hr => hbody _ cdv A outer s H E hr), F1.bindsN hb, ?_⟩, F1.kp, F.gl, rfl⟩
  obtain ⟨oc, od, _, _, _, _, _, _, _, osl, _, lk, _⟩ := F1.ex
  exact ⟨oc, od, osl, lk⟩
theorem Def.eq {P : Program} {w : World} {K : PySem.W.Frag} {mg : Str → Option Value} {base : Heap} {x : Str} {ps : List Str} {k n : Nat} {m m' : Fn} (d : Def P w K mg base x ps k n m) (e : m = m') : Def P w K mg base x ps k n m' := e ▸ d
/-- an own class of exceptions -/
structure ExcF (K : PySem.W.Frag) (mg : Str → Option Value) (x : Str) : Prop where
  gl : mg x = some (.ref (ga K x))
  q : PySem.W.excIn K (ga K x) He.veBase "ValueError.__new__" = true
  kp : PySem.W.keepIn K (.ref (ga K x)) = true
  sb : PySem.W.subIn K (.ref (ga K x)) (.type "BaseException") = some true
  ty : PySem.W.typeIn K (.ref (ga K x)) = some (.type "type")
theorem hu100 {k : Nat} {A : Around} (r : Room k A) : A.units + 100 < cLine := by have := r.un; omega
section
variable {X : Cx} {W : WX}
theorem x_def {k k' n : Nat} {ps : List Str} {m : Fn} {x : Str} {p pos : Pos} {e : Expr} {es : List Expr} {fa : Fa} (D : Def X.prog X.w X.K X.mg X.base x ps k n m) (tk : Takes X W) (hr : Room k' X.A) (hk : k ≤ k') (hg : Gl X x) (ha : XA X W (e :: es) fa) (hl : lenA fa n)
    (hdb : (x == ("__debug__" : Str)) = false := by decide) (he : starEach (e :: es) X.env = (false, eval e X.env) :: starEach es X.env := by rfl) (hpl : (backTo pos (starEach es X.env)).any (·.1) = false := by rfl) :
    XE X W (.Call (.Name x p) (e :: es) [] pos) (fCall m fa) := by
  obtain ⟨fd, F, b, _⟩ := D.ex
  exact x_call tk F (hr.mono hk) hg D.gl D.kp b D.ln ha hl hdb he hpl
theorem s_raiseF {x m : Str} {j : Nat} {p p2 pc pos : Pos} (F : ExcF X.K X.mg x) (hc : X.calm = true) (tk : Takes X W) (hg : Gl X x)
    (hdb : (x == ("__debug__" : Str)) = false := by decide) : XS X W (.Raise (some (.Call (.Name x p) [.Constant (.str m) j p2] [] pc)) none pos) (sRaise x) :=
  s_raise hc tk PySem.F.excBase_ValueError F.q F.gl F.kp (raises_own F.sb F.ty) hg hdb
/-! ### new cells -/
/-- a list made by an operator, to be changed -/
def rDC (K : PySem.W.Frag) (mg : Str → Option Value) (g : D → D → Sto → Option (List D)) : R2 := fun x y H Q => ∃ M st d e ds, RelH K mg M st H ∧ RV K mg M H d x ∧ RV K mg M H e y ∧ g d e st = some ds ∧
  ∀ p vs, H p = none → RVs K mg (M.push p) (upd H p (.lst vs)) ds vs → Q (.ref p) (upd H p (.lst vs))
def fBinC (g : D → D → Sto → Option (List D)) (fa fb : Fe) : Fe := fun env st => (fa env st).bind fun a st => (fb env st).bind fun b st => match g a b st with
  | some ds => .ok (.ref st.length) (st ++ [.lst ds])
  | none => .bad
theorem x_binC {op : Operator} {a b : Expr} {pos : Pos} {fa fb : Fe} {g : D → D → Sto → Option (List D)} (ho : OpR X (binaryOp op) (rDC X.K X.mg g)) (ha : XE X W a fa) (hb : XE X W b fb) : XE X W (.BinOp a op b pos) (fBinC g fa fb) :=
  (pe_op ho ha hb).fb fun σ H Q ⟨M, env, st, r, p⟩ => ⟨M, env, st, r, Post.bind p fun M1 d1 st1 v1 H1 _ x1 r1 q1 p1 =>
    ⟨M1, env, st1, r.mono x1 r1, Post.bind p1 fun M2 d2 st2 v2 H2 _ x2 r2 q2 p2 => by
      cases e : g d1 d2 st2 with
      | none => rw [e] at p2; exact p2.elim
      | some ds =>
        rw [e] at p2
        exact ⟨M2, st2, d1, d2, ds, r2, q1.mono x2, q2, e, fun pp vs hp rv => p2 (M2.push pp) (.ref pp) _ (Ext.push hp) (r2.push hp ⟨vs, upd_same, rv⟩) (.ref (push_get r2.len))⟩⟩⟩
def gCatC (d e : D) (st : Sto) : Option (List D) := (seqL st d).bind fun ds => (seqL st e).bind fun es => if ds.length + es.length ≤ 100000 then some (ds ++ es) else none
theorem o_catC : OpR X (binaryOp .Add) (rDC X.K X.mg gCatC) := by
  intro pins s σ H x y v u Q I rx ry ⟨M, st, d, e, zs, r, hd, he, hg, q⟩
  unfold gCatC at hg
  cases h1 : seqL st d with
  | none => rw [h1] at hg; cases hg
  | some ds =>
    cases h2 : seqL st e with
    | none => rw [h1, h2] at hg; cases hg
    | some es =>
      rw [h1, h2] at hg
      have hg' : (if ds.length + es.length ≤ 100000 then some (ds ++ es) else none) = some zs := hg
      split at hg'
      · rename_i hl
        cases hg'
        obtain ⟨a, xs, rfl, h3, rv⟩ := seqL_ok r hd h1
        obtain ⟨b, ys, rfl, h4, rw'⟩ := seqL_ok r he h2
        refine op_catL pins s σ H _ _ v u Q I rx ry ⟨a, b, xs, ys, rfl, rfl, h3, h4, by rw [← rv.length, ← rw'.length]; exact szl hl, fun p hp => q p _ hp ((rv.append rw').mono (Ext.push hp))⟩
      · cases hg'
end
end Fb

/-! Fb.L: the end of a law. -/
namespace Fb
open PySem PySem.Spec PyProof.Rows L2
/-- an exception of some world -/
def CXw (P : Program) : CXT := fun outer H s E u s' => ∃ w, L2.CX P w outer H s E u s'
theorem noExc {P : Program} (H : Hp) (s : Shared) (e : Value) (s' : Shared) (h : CXw P [] H s (fun _ _ _ => False) e s') : False := by
  obtain ⟨w, _, _, _, _, _, _, _, _, _, _, _, _, z⟩ := h
  exact z
theorem fnOk_w {P : Program} {w : World} {K : PySem.W.Frag} {mg : Str → Option Value} {base : Heap} {k : Nat} {f : Addr} {fd : FuncData} {ps : List Str} {sp : Sp} (F : FnOk P w K mg base (L2.CX P w) k f fd ps sp) : FnOk P w K mg base (CXw P) k f fd ps sp :=
  ⟨F.len, fun A outer s H args us vs Q E hr he hb hv hs => codeAny_mono (F.run A outer s H args us vs Q E hr he hb hv hs) fun r s' h => by
    cases r with
    | error e => exact ⟨w, h⟩
    | ok f => cases f <;> exact h⟩
/-- nothing that the top leaves is a list -/
def noList (K : PySem.W.Frag) : Bool := K.all fun q => match q.2.cls with
  | .type t => t != "list"
  | _ => true
theorem noList_ok {K : PySem.W.Frag} (h : noList K = true) {a : Addr} {o : Obj} (e : K.lookup a = some o) : o.cls ≠ .type "list" := fun z => by
  have q := List.all_eq_true.mp h (a, o) (He.lookup_mem e)
  dsimp only at q
  rw [z] at q
  simp at q
/-- a tuple of texts that the top has written -/
def wrB (K : PySem.W.Frag) (x : Str) (l : List Str) : Bool := He.tupB K x (l.map He.Dv.str) && (match K.lookup (ga K x) with | some o => o.dict.isNone | none => false)
theorem wrB_ok {K : PySem.W.Frag} {x : Str} {l : List Str} (h : wrB K x l = true) : WrT K (ga K x) (l.map V.str) ∧ ∃ o, K.lookup (ga K x) = some o ∧ o.dict = none := by
  obtain ⟨h, h2⟩ := Bool.and_eq_true_iff.mp h
  refine ⟨?_, ?_⟩
  rotate_left
  · split at h2
    · rename_i o e
      exact ⟨o, e, by simpa using h2⟩
    · cases h2
  have q := He.tupB_ok h (fun _ => none)
  have e : (l.map He.Dv.str).map (He.Dv.v K) = l.map V.str := by rw [List.map_map]; rfl
  rw [e] at q
  rcases q with q | q
  · rcases q with q | ⟨_, q⟩ <;> cases q
  · exact q
/-- the law's own end -/
theorem law_end {P : Program} {w : World} {K : PySem.W.Frag} {h : Heap} {mg : Str → Option Value} {fa : Addr} {x : Str} {st : Stmt} {k : Nat} {m : Fn} (hx : noList K = true) (KX : K.In h) (G : h.Ns mainGlobals mg) (hmg : mg ("law" : Str) = some (.ref fa)) (F : DefF K mg "law" st)
    (hb : ∀ (kV doc pm : Value) (an : Option Addr) (cdv ct : Value) (us : List Value), us.length = [x].length → bindArgs (PySem.W.fnOf "law" "law" (defArgs st) (defBody st) (defScope st) .none kV doc pm an cdv ct) ⟨us, []⟩ = pure ([x].zip us))
    (ok : ∀ base : Heap, Def P w K mg base "law" [x] k 1 m) (H : ∀ ns : List Int, ns.length ≤ 63 → ∃ st, m [.lst (ns.map D.int)] [] = .ok (.bl true) st) :
    ∃ (K : PySem.W.Frag) (fd : FuncData) (sp : Sp), K.In h ∧ (∀ (s : Shared) (u : Value), BindsTo s fd ⟨[u], []⟩ [(x, u)]) ∧
        (∀ (H : Hp) (a : Addr) (ns : List Int), ns.length ≤ 63 → Only H → SqL K H a (ns.map V.int) → sp [.ref a] H (fun v _ => v = .bl true) fun _ _ _ => False) ∧
        ∀ base : Heap, K.In base → base.Ns mainGlobals mg → FnOk P w K mg base (CXw P) k fa fd [x] sp := by
  have e := hmg.symm.trans F.gl
  cases e
  obtain ⟨fd, F1⟩ := F.ex
  have b := FunD.bindsA (ps := [x]) F1 hb
  refine ⟨K, fd, spM K mg 1 m, KX, fun s u => b s [u] rfl, fun Hh a ns hl _ hS => ?_, fun base _ _ => ?_⟩
  · have hR : Rd Hh a (.lst (ns.map V.int)) := by
      rcases hS with hS | hS
      · exact hS
      · obtain ⟨o, its, n, hk, hc, _⟩ := hS
        exact absurd hc (noList_ok hx hk)
    obtain ⟨st, e⟩ := H ns hl
    refine ⟨rfl, ⟨[], []⟩, [], [.lst (ns.map D.int)], ⟨rfl, List.nodup_nil, fun k c a e _ => by simp at e, fun a ha => nomatch ha⟩, .cons (.lst ⟨hR, (fun z => nomatch z), (fun z => nomatch z)⟩ (rvs_ints ns)) .nil, ?_⟩
    rw [e]
    exact fun M' v H' _ _ rv => by cases rv; rfl
  · obtain ⟨fd', F2, _, oc', od', osl', l2⟩ := (ok base).ex
    obtain ⟨oc, od, _, _, _, _, _, _, _, osl, _, l1, _⟩ := F1.ex
    rw [l1] at l2
    cases l2
    exact fnOk_w F2
end Fb

/-! Fb.M: data with a Lean type; what the combinators give. -/
namespace Fb
open PySem

/-- Lean values as data -/
class Dd (α : Type) [DecidableEq α] extends PySem.W.Datum α where
  d : α → D
  py : ∀ a, toPyD (d a) = some (PySem.W.Datum.toD a)
instance : Dd Int := ⟨D.int, fun _ => rfl⟩
instance : Dd Bool := ⟨D.bl, fun _ => rfl⟩
instance : Dd Str := ⟨D.str, fun _ => rfl⟩
section
variable {α β : Type} [DecidableEq α] [Dd α] [DecidableEq β] [Dd β]
theorem toPys_map : ∀ xs : List α, toPys (xs.map Dd.d) = some (xs.map PySem.W.Datum.toD)
  | [] => rfl
  | x :: xs => by rw [List.map_cons, toPys, Dd.py x, toPys_map xs]; rfl
instance : Dd (List α) := ⟨fun xs => .lst (xs.map Dd.d), fun xs => by rw [toPyD, toPys_map]; rfl⟩
instance : Dd (PySem.W.Tup α) := ⟨fun xs => .tup (xs.items.map Dd.d), fun xs => by rw [toPyD, toPys_map]; rfl⟩
instance : Dd (α × β) := ⟨fun p => .tup [Dd.d p.1, Dd.d p.2], fun p => by rw [toPyD, toPys, toPys, toPys, Dd.py p.1, Dd.py p.2]; rfl⟩
theorem drf_of {d : D} {p : PyData} (h : toPyD d = some p) (st : Sto) : drf st d = d := by
  cases d with
  | ref k => cases h
  | _ => rfl
theorem pyOf_d (a : α) (st : Sto) : pyOf st (Dd.d a) = some (PySem.W.Datum.toD a) := by
  unfold pyOf
  rw [drf_of (Dd.py a), Dd.py a]
theorem gEq_d (a b : α) (st : Sto) (h : PySem.W.Datum.depth α ≤ 60 := by decide) : gEq (Dd.d a) (Dd.d b) st = some (.bl (decide (a = b))) := by
  unfold gEq
  rw [pyOf_d, pyOf_d]
  show (if _ then _ else _) = _
  rw [if_pos (Nat.le_trans (Nat.min_le_left _ _) (Nat.le_trans (PySem.W.Datum.depth_le a) h)), PySem.W.Datum.eqv]
theorem gNe_d (a b : α) (st : Sto) (h : PySem.W.Datum.depth α ≤ 60 := by decide) : gNe (Dd.d a) (Dd.d b) st = some (.bl (!decide (a = b))) := by
  unfold gNe
  rw [pyOf_d, pyOf_d]
  show (if _ then _ else _) = _
  rw [if_pos (Nat.le_trans (Nat.min_le_left _ _) (Nat.le_trans (PySem.W.Datum.depth_le a) h)), PySem.W.Datum.eqv]
theorem any_d (a : α) : ∀ xs : List α, ((xs.map PySem.W.Datum.toD).any fun y => PyData.eqv y (PySem.W.Datum.toD a)) = decide (a ∈ xs)
  | [] => by simp
  | x :: xs => by
    rw [List.map_cons, List.any_cons, any_d a xs, PySem.W.Datum.eqv, ← Bool.decide_or]
    congr 1
    rw [List.mem_cons, eq_comm (a := a)]
theorem gIn_l (a : α) (xs : List α) (st : Sto) (h : PySem.W.Datum.depth α ≤ 60 := by decide) : gIn (Dd.d a) (Dd.d xs) st = some (.bl (decide (a ∈ xs))) := by
  unfold gIn
  rw [pyOf_d, pyOf_d]
  show ((if _ then some _ else none : Option Bool).map D.bl) = _
  rw [if_pos (Nat.le_trans (Nat.min_le_right _ _) (Nat.le_trans (PySem.W.Datum.depth_le a) h)), any_d]
  rfl
theorem gIn_t (a : α) (xs : List α) (st : Sto) (h : PySem.W.Datum.depth α ≤ 60 := by decide) : gIn (Dd.d a) (Dd.d (PySem.W.Tup.mk xs)) st = some (.bl (decide (a ∈ xs))) := by
  unfold gIn
  rw [pyOf_d, pyOf_d]
  show ((if _ then some _ else none : Option Bool).map D.bl) = _
  rw [if_pos (Nat.le_trans (Nat.min_le_right _ _) (Nat.le_trans (PySem.W.Datum.depth_le a) h)), any_d]
  rfl
theorem gNi_l (a : α) (xs : List α) (st : Sto) (h : PySem.W.Datum.depth α ≤ 60 := by decide) : gNi (Dd.d a) (Dd.d xs) st = some (.bl (!decide (a ∈ xs))) := by
  unfold gNi
  rw [pyOf_d, pyOf_d]
  show ((if _ then some _ else none : Option Bool).map fun b => D.bl (!b)) = _
  rw [if_pos (Nat.le_trans (Nat.min_le_right _ _) (Nat.le_trans (PySem.W.Datum.depth_le a) h)), any_d]
  rfl
theorem gNi_t (a : α) (xs : List α) (st : Sto) (h : PySem.W.Datum.depth α ≤ 60 := by decide) : gNi (Dd.d a) (Dd.d (PySem.W.Tup.mk xs)) st = some (.bl (!decide (a ∈ xs))) := by
  unfold gNi
  rw [pyOf_d, pyOf_d]
  show ((if _ then some _ else none : Option Bool).map fun b => D.bl (!b)) = _
  rw [if_pos (Nat.le_trans (Nat.min_le_right _ _) (Nat.le_trans (PySem.W.Datum.depth_le a) h)), any_d]
  rfl
end
section
variable {α : Type} [DecidableEq α] [Dd α] [PySem.W.DatumOrd α]
end
/-- a tuple of ints -/
def T (l : List Int) : D := .tup (l.map D.int)
abbrev tD (l : List Int) : PyData := .tuple (l.map .int)
theorem T_py (l : List Int) : toPyD (T l) = some (tD l) := Dd.py (α := PySem.W.Tup Int) ⟨l⟩
theorem Ts_py (ls : List (List Int)) : toPys (ls.map T) = some (ls.map tD) := by
  induction ls with
  | nil => rfl
  | cons l ls ih => rw [List.map_cons, toPys, T_py, ih]; rfl
/-- the first least -/
def lmin (l : List Int) (ls : List (List Int)) : List Int := ls.foldl (fun a y => if y < a then y else a) l
def lmax (l : List Int) (ls : List (List Int)) : List Int := ls.foldl (fun a y => if a < y then y else a) l
theorem tD_lt (l m : List Int) : PySem.W.dataLt (tD l) (tD m) = decide (l < m) := (PySem.W.dataLt_tuple _ _).trans (PySem.W.dataLt_ints l m)
theorem minD_T (l : List Int) (ls : List (List Int)) : PySem.W.minD (tD l) (ls.map tD) = tD (lmin l ls) := by
  unfold PySem.W.minD lmin
  induction ls generalizing l with
  | nil => rfl
  | cons k r ih =>
    rw [List.map_cons, List.foldl_cons, List.foldl_cons, ← ih, tD_lt]
    by_cases h : k < l <;> simp [h]
theorem maxD_T (l : List Int) (ls : List (List Int)) : PySem.W.maxD (tD l) (ls.map tD) = tD (lmax l ls) := by
  unfold PySem.W.maxD lmax
  induction ls generalizing l with
  | nil => rfl
  | cons k r ih =>
    rw [List.map_cons, List.foldl_cons, List.foldl_cons, ← ih, tD_lt]
    by_cases h : l < k <;> simp [h]
theorem ofPys_ints : ∀ l : List Int, ofPys (l.map .int) = l.map D.int
  | [] => rfl
  | x :: l => by rw [List.map_cons, ofPys, ofPys_ints l]; rfl
theorem ofPy_tD (l : List Int) : ofPy (tD l) = T l := by
  show D.tup (ofPys (l.map .int)) = _
  rw [ofPys_ints]
  rfl
theorem alike_ints : ∀ l m : List Int, PySem.W.alikeAll (l.map .int) (m.map .int) = true
  | [], _ => by rw [List.map_nil, PySem.W.alikeAll]
  | _ :: _, [] => by rw [List.map_nil, List.map_cons, PySem.W.alikeAll]
  | x :: l, y :: m => by rw [List.map_cons, List.map_cons, PySem.W.alikeAll, alike_ints l m]; simp [PySem.W.alike]
theorem alike_tD (l m : List Int) : PySem.W.alike (tD l) (tD m) = true := by
  rw [PySem.W.alike]
  exact alike_ints l m
theorem alikeB_tDs (ls : List (List Int)) : alikeB (ls.map tD) = true := by
  unfold alikeB
  rw [List.all_eq_true]
  intro x hx
  obtain ⟨l, _, rfl⟩ := List.mem_map.mp hx
  rw [Bool.and_eq_true, List.all_eq_true]
  refine ⟨rfl, fun y hy => ?_⟩
  obtain ⟨m, _, rfl⟩ := List.mem_map.mp hy
  exact alike_tD l m
theorem depth_ints : ∀ l : List Int, PyData.depthAll (l.map .int) = 0
  | [] => rfl
  | x :: l => by rw [List.map_cons, PyData.depthAll, depth_ints l]; rfl
theorem depth_tDs : ∀ ls : List (List Int), PyData.depthAll (ls.map tD) ≤ 1
  | [] => Nat.zero_le _
  | l :: ls => by
    rw [List.map_cons, PyData.depthAll]
    have := depth_tDs ls
    have e : (tD l).depth = 1 := by
      show PyData.depthAll (l.map .int) + 1 = 1
      rw [depth_ints]
    omega
theorem best_one {two : Int → Int → Int} {best : PyData → List PyData → PyData} (d : D) (st : Sto) : gBest two best [d] st = (seqA st d).bind fun xs => (toPys xs).bind fun ps => match ps with
    | [] => none
    | p :: ps => if alikeB (p :: ps) = true ∧ PyData.depthAll (p :: ps) ≤ 60 then some (ofPy (best p ps)) else none := by cases d <;> rfl
theorem best_T {two : Int → Int → Int} {best : PyData → List PyData → PyData} {b : List Int → List (List Int) → List Int} (hb : ∀ l ls, best (tD l) (ls.map tD) = tD (b l ls)) {d : D} {st : Sto} {l : List Int} {ls : List (List Int)} (e : seqA st d = some ((l :: ls).map T)) : gBest two best [d] st = some (T (b l ls)) := by
  rw [best_one, e]
  show ((toPys ((l :: ls).map T)).bind fun ps => match ps with
    | [] => none
    | p :: ps => if alikeB (p :: ps) = true ∧ PyData.depthAll (p :: ps) ≤ 60 then some (ofPy (best p ps)) else none) = _
  rw [Ts_py]
  show (if alikeB ((l :: ls).map tD) = true ∧ PyData.depthAll ((l :: ls).map tD) ≤ 60 then some (ofPy (best (tD l) (ls.map tD))) else none) = _
  rw [if_pos ⟨alikeB_tDs _, Nat.le_trans (depth_tDs _) (by decide)⟩, hb, ofPy_tD]
theorem gMin_T {d : D} {st : Sto} {l : List Int} {ls : List (List Int)} (e : seqA st d = some ((l :: ls).map T)) : gMin [d] st = some (T (lmin l ls)) := best_T minD_T e
theorem gMax_T {d : D} {st : Sto} {l : List Int} {ls : List (List Int)} (e : seqA st d = some ((l :: ls).map T)) : gMax [d] st = some (T (lmax l ls)) := best_T maxD_T e
/-- of ints -/
theorem int_py (l : List Int) : toPys (l.map D.int) = some (l.map .int) := toPys_map l
theorem alikeB_ints (l : List Int) : alikeB (l.map .int) = true := by
  unfold alikeB
  rw [List.all_eq_true]
  intro x hx
  obtain ⟨i, _, rfl⟩ := List.mem_map.mp hx
  rw [Bool.and_eq_true, List.all_eq_true]
  refine ⟨rfl, fun y hy => ?_⟩
  obtain ⟨m, _, rfl⟩ := List.mem_map.mp hy
  simp [PySem.W.alike]
theorem best_I {two : Int → Int → Int} {best : PyData → List PyData → PyData} {b : Int → List Int → Int} (hb : ∀ l ls, best (.int l) (ls.map .int) = .int (b l ls)) {d : D} {st : Sto} {l : Int} {ls : List Int} (e : seqA st d = some ((l :: ls).map D.int)) : gBest two best [d] st = some (.int (b l ls)) := by
  rw [best_one, e]
  show ((toPys ((l :: ls).map D.int)).bind fun ps => match ps with
    | [] => none
    | p :: ps => if alikeB (p :: ps) = true ∧ PyData.depthAll (p :: ps) ≤ 60 then some (ofPy (best p ps)) else none) = _
  rw [int_py]
  show (if alikeB ((l :: ls).map .int) = true ∧ PyData.depthAll ((l :: ls).map .int) ≤ 60 then some (ofPy (best (.int l) (ls.map .int))) else none) = _
  rw [if_pos ⟨alikeB_ints _, by rw [depth_ints]; decide⟩, hb]
  rfl
theorem gMin_I {d : D} {st : Sto} {l : Int} {ls : List Int} (e : seqA st d = some ((l :: ls).map D.int)) : gMin [d] st = some (.int (ls.foldl min l)) := best_I PySem.W.minD_ints e
theorem gMax_I {d : D} {st : Sto} {l : Int} {ls : List Int} (e : seqA st d = some ((l :: ls).map D.int)) : gMax [d] st = some (.int (ls.foldl max l)) := best_I PySem.W.maxD_ints e

/-! ### loops over a list -/
def compF (t : Tg) (stp : Stp) (wenv : Env) : List D → List D → Sto → R (List D)
  | [], acc, st => .ok acc st
  | d :: ds, acc, st => match bindT t d wenv st with
    | none => .bad
    | some env1 => (stp env1 acc st).bind (compF t stp wenv ds)
def forF (t : Tg) (body : Fs) : List D → Fs
  | [], env, st => .nx env st
  | d :: ds, env, st => match bindT t d env st with
    | none => .bad
    | some env1 => (body env1 st).bind (forF t body ds)
theorem fix_at (ds : List D) (st : Sto) (i : Nat) : (Src.fix ds).at st i = ds[i]? := by
  show (if ds.length = ds.length then ds[i]? else none) = _
  rw [if_pos rfl]
theorem fix_end (ds : List D) (st : Sto) {α : Type} (x y : α) : (match (Src.fix ds).cur st with
    | some es => if es.length = (Src.fix ds).n then x else y
    | none => y) = x := by
  show (if ds.length = ds.length then x else y) = x
  rw [if_pos rfl]
theorem loop_fix {t : Tg} {stp : Stp} {wenv : Env} (ds : List D) : ∀ (n i : Nat) (acc : List D) (st : Sto), i + n = ds.length → loopG (.fix ds) t stp wenv n i acc st = compF t stp wenv (ds.drop i) acc st
  | 0, i, acc, st, h => by
    unfold loopG
    rw [List.drop_of_length_le (by omega)]
    exact fix_end ds st _ _
  | n + 1, i, acc, st, h => by
    have hlt : i < ds.length := by omega
    unfold loopG
    rw [fix_at, List.getElem?_eq_getElem hlt, List.drop_eq_getElem_cons hlt]
    show (match bindT t ds[i] wenv st with
      | none => R.bad
      | some env1 => (stp env1 acc st).bind (loopG (.fix ds) t stp wenv n (i + 1))) = match bindT t ds[i] wenv st with
      | none => .bad
      | some env1 => (stp env1 acc st).bind (compF t stp wenv (ds.drop (i + 1)))
    have e : loopG (.fix ds) t stp wenv n (i + 1) = compF t stp wenv (ds.drop (i + 1)) := by
      funext acc st
      exact loop_fix ds n (i + 1) acc st (by omega)
    rw [e]
theorem for_fix {t : Tg} {body : Fs} (ds : List D) : ∀ (n i : Nat) (env : Env) (st : Sto), i + n = ds.length → forL (.fix ds) t body n i env st = forF t body (ds.drop i) env st
  | 0, i, env, st, h => by
    unfold forL
    rw [List.drop_of_length_le (by omega)]
    exact fix_end ds st _ _
  | n + 1, i, env, st, h => by
    have hlt : i < ds.length := by omega
    unfold forL
    rw [fix_at, List.getElem?_eq_getElem hlt, List.drop_eq_getElem_cons hlt]
    show (match bindT t ds[i] env st with
      | none => RS.bad
      | some env1 => (body env1 st).bind (forL (.fix ds) t body n (i + 1))) = match bindT t ds[i] env st with
      | none => .bad
      | some env1 => (body env1 st).bind (forF t body (ds.drop (i + 1)))
    have e : forL (.fix ds) t body n (i + 1) = forF t body (ds.drop (i + 1)) := by
      funext env st
      exact for_fix ds n (i + 1) env st (by omega)
    rw [e]
/-- the end of a comprehension -/
def R.lst (r : R (List D)) : R D := match r with
  | .ok ds st => .ok (.lst ds) st
  | _ => .bad
theorem comp_fix {src : Fi} {t : Tg} {c : Ft} {e : Fe} {own : List Nat} {env : Env} {st st1 : Sto} {ds : List D} (h : src env st = .ok (.fix ds) st1) : fComp src t c e own env st = (compF t (step1 c e) (wipeE env own) ds [] st1).lst := by
  unfold fComp fLoop
  rw [h]
  show (match loopG (.fix ds) t (step1 c e) (wipeE env own) ds.length 0 [] st1 with | .ok ds st2 => R.ok (D.lst ds) st2 | _ => R.bad) = _
  rw [loop_fix ds ds.length 0 [] st1 (by omega)]
  show _ = (compF t (step1 c e) (wipeE env own) (ds.drop 0) [] st1).lst
  cases compF t (step1 c e) (wipeE env own) (ds.drop 0) [] st1 <;> rfl
/-- two for's: the inner list -/
def inF (src : Fi) (t : Tg) (c1 : Ft) (e : Fe) (vs1 : List Nat) : Stp := fun env acc st => match src env st with
  | .ok S st => loopG S t (step1 c1 e) (wipeE env vs1) S.n 0 acc st
  | .exc x st => .exc x st
  | .bad => .bad
theorem comp2_fix {src src1 : Fi} {t t1 : Tg} {c c1 : Ft} {e : Fe} {own vs1 : List Nat} {env : Env} {st st1 : Sto} {ds : List D} (h : src env st = .ok (.fix ds) st1) : fComp2 src t c src1 t1 c1 e own vs1 env st = (compF t (step2 c src1 t1 c1 e vs1) (wipeE env own) ds [] st1).lst := by
  unfold fComp2 fLoop
  rw [h]
  show (match loopG (.fix ds) t (step2 c src1 t1 c1 e vs1) (wipeE env own) ds.length 0 [] st1 with | .ok ds st2 => R.ok (D.lst ds) st2 | _ => R.bad) = _
  rw [loop_fix ds ds.length 0 [] st1 (by omega)]
  show _ = (compF t (step2 c src1 t1 c1 e vs1) (wipeE env own) (ds.drop 0) [] st1).lst
  cases compF t (step2 c src1 t1 c1 e vs1) (wipeE env own) (ds.drop 0) [] st1 <;> rfl
theorem step2_fix {src1 : Fi} {t1 : Tg} {c c1 : Ft} {e : Fe} {vs1 : List Nat} {env : Env} {acc : List D} {st st1 st2 : Sto} {ds : List D} (hc : c env st = .ok true st1) (h : src1 env st1 = .ok (.fix ds) st2) : step2 c src1 t1 c1 e vs1 env acc st = compF t1 (step1 c1 e) (wipeE env vs1) ds acc st2 := by
  unfold step2
  rw [hc]
  show R.bind (src1 env st1) _ = _
  rw [h]
  exact loop_fix ds ds.length 0 acc st2 (by omega)
theorem sFor_fix {src : Fi} {t : Tg} {body : Fs} {env : Env} {st st1 : Sto} {ds : List D} (h : src env st = .ok (.fix ds) st1) : sFor src t body env st = forF t body ds env st1 := by
  unfold sFor
  rw [h]
  exact for_fix ds ds.length 0 env st1 (by omega)
/-- a map: nothing changes -/
theorem compF_map {t : Tg} {c : Ft} {e : Fe} {wenv : Env} {st : Sto} {α : Type} (g : α → D) (k : α → D) : ∀ (xs : List α) (acc : List D), acc.length + xs.length ≤ 100000 →
    (∀ x ∈ xs, ∃ env1, bindT t (g x) wenv st = some env1 ∧ c env1 st = .ok true st ∧ e env1 st = .ok (k x) st) → compF t (step1 c e) wenv (xs.map g) acc st = .ok (acc ++ xs.map k) st
  | [], acc, _, _ => by simp [compF]
  | x :: xs, acc, hl, h => by
    rw [List.length_cons] at hl
    obtain ⟨env1, e1, e2, e3⟩ := h x List.mem_cons_self
    rw [List.map_cons, compF, e1]
    have es : step1 c e env1 acc st = .ok (acc ++ [k x]) st := by
      unfold step1
      rw [e2]
      show R.bind (e env1 st) _ = _
      rw [e3]
      exact if_pos (by omega)
    show R.bind (step1 c e env1 acc st) _ = _
    rw [es]
    show compF t (step1 c e) wenv (xs.map g) (acc ++ [k x]) st = _
    rw [compF_map g k xs (acc ++ [k x]) (by simp; omega) fun y hy => h y (List.mem_cons_of_mem _ hy), List.append_assoc]
    rfl
/-- a map of those that pass -/
theorem compF_filter {t : Tg} {c : Ft} {e : Fe} {wenv : Env} {st : Sto} {α : Type} (g : α → D) (p : α → Bool) (k : α → D) : ∀ (xs : List α) (acc : List D), acc.length + xs.length ≤ 100000 →
    (∀ x ∈ xs, ∃ env1, bindT t (g x) wenv st = some env1 ∧ c env1 st = .ok (p x) st ∧ (p x = true → e env1 st = .ok (k x) st)) → compF t (step1 c e) wenv (xs.map g) acc st = .ok (acc ++ (xs.filter p).map k) st
  | [], acc, _, _ => by simp [compF]
  | x :: xs, acc, hl, h => by
    rw [List.length_cons] at hl
    obtain ⟨env1, e1, e2, e3⟩ := h x List.mem_cons_self
    rw [List.map_cons, compF, e1]
    cases hp : p x with
    | true =>
      rw [List.filter_cons_of_pos hp]
      have es : step1 c e env1 acc st = .ok (acc ++ [k x]) st := by
        unfold step1
        rw [e2, hp]
        show R.bind (e env1 st) _ = _
        rw [e3 hp]
        exact if_pos (by omega)
      show R.bind (step1 c e env1 acc st) _ = _
      rw [es]
      show compF t (step1 c e) wenv (xs.map g) (acc ++ [k x]) st = _
      rw [compF_filter g p k xs (acc ++ [k x]) (by simp; omega) fun y hy => h y (List.mem_cons_of_mem _ hy), List.append_assoc]
      rfl
    | false =>
      rw [List.filter_cons_of_neg (by rw [hp]; exact Bool.false_ne_true)]
      have es : step1 c e env1 acc st = .ok acc st := by
        unfold step1
        rw [e2, hp]
        rfl
      show R.bind (step1 c e env1 acc st) _ = _
      rw [es]
      show compF t (step1 c e) wenv (xs.map g) acc st = _
      rw [compF_filter g p k xs acc (by omega) fun y hy => h y (List.mem_cons_of_mem _ hy)]
/-- a loop that goes through: Inv at each turn -/
theorem forF_all {t : Tg} {body : Fs} {α : Type} (g : α → D) (I : List α → Env → Sto → Prop) : ∀ (xs : List α) (env : Env) (st : Sto), I xs env st →
    (∀ x xs env st, I (x :: xs) env st → ∃ env1 env2 st2, bindT t (g x) env st = some env1 ∧ body env1 st = .nx env2 st2 ∧ I xs env2 st2) → ∃ env' st', forF t body (xs.map g) env st = .nx env' st' ∧ I [] env' st'
  | [], env, st, i, _ => ⟨env, st, rfl, i⟩
  | x :: xs, env, st, i, h => by
    obtain ⟨env1, env2, st2, e1, e2, i2⟩ := h x xs env st i
    obtain ⟨env', st', e3, i3⟩ := forF_all g I xs env2 st2 i2 h
    refine ⟨env', st', ?_, i3⟩
    rw [List.map_cons, forF, e1]
    show RS.bind (body env1 st) _ = _
    rw [e2]
    exact e3
end Fb

/-! Fb.N: evaluation by simp. -/
namespace Fb
open PySem
theorem loop_fix' {t : Tg} {stp : Stp} {wenv : Env} (ds acc : List D) (st : Sto) : loopG (.fix ds) t stp wenv (Src.fix ds).n 0 acc st = compF t stp wenv ds acc st := loop_fix ds ds.length 0 acc st (by omega)
theorem for_fix' {t : Tg} {body : Fs} (ds : List D) (env : Env) (st : Sto) : forL (.fix ds) t body (Src.fix ds).n 0 env st = forF t body ds env st := for_fix ds ds.length 0 env st (by omega)
theorem fLoop_ok {src : Fi} {t : Tg} {stp : Stp} {own : List Nat} {env : Env} {st : Sto} : fLoop src t stp own env st = (match src env st with
  | .ok S st1 => (loopG S t stp (wipeE env own) S.n 0 [] st1).lst
  | .exc x st1 => .exc x st1
  | .bad => .bad) := by
  unfold fLoop
  cases src env st with
  | ok S st1 =>
    show (match loopG S t stp (wipeE env own) S.n 0 [] st1 with | .ok ds st2 => R.ok (D.lst ds) st2 | _ => R.bad) = (loopG S t stp (wipeE env own) S.n 0 [] st1).lst
    cases loopG S t stp (wipeE env own) S.n 0 [] st1 <;> rfl
  | exc x st1 => rfl
  | bad => rfl
section
variable {α β : Type} {a : α} {x : Str} {st : Sto} {env : Env} {d e : D} {ds es : List D} {f g : Fe} {fs gs : Fs} {c c' : Ft} {i j : Int} {b b' : Bool} {fa : Fa} {op : D → D → Sto → Option D}
@[simp] theorem e_bind1 {k : α → Sto → R β} : R.bind (.ok a st) k = k a st := (rfl)
@[simp] theorem e_bind2 {k : α → Sto → R β} : R.bind (.exc x st) k = .exc x st := (rfl)
@[simp] theorem e_bind3 {k : α → Sto → R β} : R.bind .bad k = .bad := (rfl)
@[simp] theorem e_sbind1 {k : Env → Sto → RS} : RS.bind (.nx env st) k = k env st := (rfl)
@[simp] theorem e_sbind2 {k : Env → Sto → RS} : RS.bind (.rt d st) k = .rt d st := (rfl)
@[simp] theorem e_sbind3 {k : Env → Sto → RS} : RS.bind (.exc x env st) k = .exc x env st := (rfl)
@[simp] theorem e_of1 {k : α → Sto → RS} : RS.of (.ok a st) env k = k a st := (rfl)
@[simp] theorem e_of2 {k : α → Sto → RS} : RS.of (.exc x st) env k = .exc x env st := (rfl)
@[simp] theorem e_of3 {k : α → Sto → RS} : RS.of .bad env k = .bad := (rfl)
@[simp] theorem e_body1 : RS.body (.nx env st) = .ok .non st := (rfl)
@[simp] theorem e_body2 : RS.body (.rt d st) = .ok d st := (rfl)
@[simp] theorem e_body3 : RS.body (.exc x env st) = .exc x st := (rfl)
@[simp] theorem e_lst1 : R.lst (.ok ds st) = .ok (.lst ds) st := (rfl)
@[simp] theorem e_seq : sSeq fs gs env st = (fs env st).bind gs := (rfl)
@[simp] theorem e_set {t : Tg} : sSet t f env st = RS.of (f env st) env fun d st => match bindT t d env st with | some env1 => .nx env1 st | none => .bad := (rfl)
@[simp] theorem e_par {js : List Nat} : sPar js fa env st = RS.of (fa env st) env fun ds st => match setAll js ds env with | some env1 => .nx env1 st | none => .bad := (rfl)
@[simp] theorem e_if : sIf c fs gs env st = RS.of (c env st) env fun b st => if b = true then fs env st else gs env st := (rfl)
@[simp] theorem e_ret : sRet f env st = RS.of (f env st) env fun d st => .rt d st := (rfl)
@[simp] theorem e_retN : sRetN env st = .rt .non st := (rfl)
@[simp] theorem e_expr : sExpr f env st = RS.of (f env st) env fun _ st => .nx env st := (rfl)
@[simp] theorem e_raise : sRaise x env st = .exc x env st := (rfl)
@[simp] theorem e_nop : sNop env st = .nx env st := (rfl)
@[simp] theorem e_put {fo fi fv : Fe} : sPut fo fi fv env st = RS.of (fv env st) env fun v st => RS.of (fo env st) env fun o st => RS.of (fi env st) env fun i st => match putD o i v st with | some st => .nx env st | none => .bad := (rfl)
@[simp] theorem e_put1 {k : Nat} : putD (.ref k) (.int i) d st = (match st[k]? with
    | some (.lst ds) => (L2.ixN ds.length i).map fun j => st.set k (.lst (ds.set j d))
    | _ => none) := (rfl)
@[simp] theorem e_var {k : Nat} : fVar k env st = (match env[k]? with | some (some d) => .ok d st | _ => .bad) := (rfl)
@[simp] theorem e_c : fC d env st = .ok d st := (rfl)
@[simp] theorem e_bin : fBin op f g env st = (f env st).bind fun a st => (g env st).bind fun b st => match op a b st with | some z => .ok z st | none => .bad := (rfl)
@[simp] theorem e_binC {oc : D → D → Sto → Option (List D)} : fBinC oc f g env st = (f env st).bind fun a st => (g env st).bind fun b st => match oc a b st with | some ds => .ok (.ref st.length) (st ++ [.lst ds]) | none => .bad := (rfl)
@[simp] theorem e_test : fTest f env st = (f env st).bind fun d st => match d with | .bl b => .ok b st | _ => .bad := (rfl)
@[simp] theorem e_chain {op' : D → D → Sto → Option D} {h : Fe} : fChain op op' f g h env st = (f env st).bind fun a st => (g env st).bind fun b st => match op a b st with
  | some (.bl true) => (h env st).bind fun c st => match op' b c st with
    | some z => .ok z st
    | none => .bad
  | some (.bl false) => .ok (.bl false) st
  | _ => .bad := (rfl)
@[simp] theorem e_and : fAnd c c' env st = (c env st).bind fun b st => if b = true then c' env st else .ok false st := (rfl)
@[simp] theorem e_or : fOr c c' env st = (c env st).bind fun b st => if b = true then .ok true st else c' env st := (rfl)
@[simp] theorem e_not : fNot c env st = (c env st).bind fun b st => .ok (!b) st := (rfl)
@[simp] theorem e_andV : fAndV f g env st = (f env st).bind fun d st => match d with | .bl true => g env st | .bl false => .ok (.bl false) st | _ => .bad := (rfl)
@[simp] theorem e_orV : fOrV f g env st = (f env st).bind fun d st => match d with | .bl true => .ok (.bl true) st | .bl false => g env st | _ => .bad := (rfl)
@[simp] theorem e_notV : fNotV f env st = (f env st).bind fun d st => match d with | .bl b => .ok (.bl (!b)) st | _ => .bad := (rfl)
@[simp] theorem e_ifV : fIf c f g env st = (c env st).bind fun b st => if b = true then f env st else g env st := (rfl)
@[simp] theorem e_neg : fNeg f env st = (f env st).bind fun d st => match d with | .int i => .ok (.int (-i)) st | _ => .bad := (rfl)
@[simp] theorem e_nil : fNil env st = .ok [] st := (rfl)
@[simp] theorem e_cons : fCons f fa env st = (f env st).bind fun d st => (fa env st).bind fun ds st => .ok (d :: ds) st := (rfl)
@[simp] theorem e_tup : fTup fa env st = (fa env st).bind fun ds st => .ok (.tup ds) st := (rfl)
@[simp] theorem e_lst : fLst fa env st = (fa env st).bind fun ds st => .ok (.lst ds) st := (rfl)
@[simp] theorem e_cel : fCel fa env st = (fa env st).bind fun ds st => .ok (.ref st.length) (st ++ [.lst ds]) := (rfl)
@[simp] theorem e_cb {h : List D → Sto → Option D} : fCb h fa env st = (fa env st).bind fun ds st => match h ds st with | some z => .ok z st | none => .bad := (rfl)
@[simp] theorem e_call {m : Fn} : fCall m fa env st = (fa env st).bind m := (rfl)
@[simp] theorem e_sl {l h : Fo} : fSl f l h env st = (f env st).bind fun d st => (l env st).bind fun lo st => (h env st).bind fun hi st => match gSl d lo hi st with | some z => .ok z st | none => .bad := (rfl)
@[simp] theorem e_oN : oNone env st = .ok none st := (rfl)
@[simp] theorem e_oS : oSome f env st = (f env st).bind fun d st => match d with | .int i => .ok (some i) st | _ => .bad := (rfl)
@[simp] theorem e_rev : fRev f env st = (f env st).bind fun d st => match gRev d st with | some z => .ok z st | none => .bad := (rfl)
@[simp] theorem e_mt {h : Gm} : fMt h f fa env st = (f env st).bind fun o st => match seqL st o with
  | none => .bad
  | some _ => (fa env st).bind fun ds st => match h o ds st with
    | some (z, st) => .ok z st
    | none => .bad := (rfl)
@[simp] theorem e_set0 : setAll [] [] env = some env := (rfl)
@[simp] theorem e_set1 {k : Nat} {ks : List Nat} : setAll (k :: ks) (d :: ds) env = setAll ks ds (env.set k (some d)) := (rfl)
@[simp] theorem e_bn {k : Nat} : bindT (.nm k) d env st = some (env.set k (some d)) := (rfl)
@[simp] theorem e_bt {ks : List Nat} : bindT (.tp ks) d env st = (seqA st d).bind fun ds => setAll ks ds env := (rfl)
@[simp] theorem e_wipe0 : wipeE env [] = env := (rfl)
@[simp] theorem e_wipe1 {k : Nat} {ks : List Nat} : wipeE env (k :: ks) = (wipeE env ks).set k none := (rfl)
@[simp] theorem e_sqt : seqA st (.tup ds) = some ds := (rfl)
@[simp] theorem e_sql : seqA st (.lst ds) = some ds := (rfl)
@[simp] theorem e_sqr {k : Nat} : seqA st (.ref k) = seqL st (.ref k) := (rfl)
@[simp] theorem e_sll : seqL st (.lst ds) = some ds := (rfl)
@[simp] theorem e_slr {k : Nat} : seqL st (.ref k) = (match st[k]? with | some (.lst ds) => some ds | _ => none) := (rfl)
@[simp] theorem e_add : gAdd (.int i) (.int j) st = some (.int (i + j)) := (rfl)
@[simp] theorem e_addT : gAdd (.tup ds) (.tup es) st = if ds.length + es.length ≤ 100000 then some (.tup (ds ++ es)) else none := (rfl)
@[simp] theorem e_addL : gAdd (.lst ds) (.lst es) st = if ds.length + es.length ≤ 100000 then some (.lst (ds ++ es)) else none := (rfl)
@[simp] theorem e_catC : gCatC (.lst ds) (.lst es) st = if ds.length + es.length ≤ 100000 then some (ds ++ es) else none := (rfl)
@[simp] theorem e_sub : gSub (.int i) (.int j) st = some (.int (i - j)) := (rfl)
@[simp] theorem e_mul : gMul (.int i) (.int j) st = if i.natAbs < 2 ^ 64 ∨ j.natAbs < 2 ^ 64 then some (.int (i * j)) else none := (rfl)
@[simp] theorem e_fdv : gFdv (.int i) (.int j) st = if 0 < j ∧ j < 2 ^ 64 then some (.int (i / j)) else none := (rfl)
@[simp] theorem e_mod : gMod (.int i) (.int j) st = if 0 < j then some (.int (i % j)) else none := (rfl)
@[simp] theorem e_pow : gPow (.int i) (.int j) st = if 0 ≤ j ∧ j ≤ 1000 ∧ i.natAbs < 2 ^ 64 then some (.int (i ^ j.toNat)) else none := (rfl)
@[simp] theorem e_le : gLe (.int i) (.int j) st = some (.bl (decide (i ≤ j))) := (rfl)
@[simp] theorem e_gt : gGt (.int i) (.int j) st = some (.bl (decide (j < i))) := (rfl)
@[simp] theorem e_ge : gGe (.int i) (.int j) st = some (.bl (decide (j ≤ i))) := (rfl)
@[simp] theorem e_lt : gLt (.int i) (.int j) st = some (.bl (decide (i < j))) := (rfl)
@[simp] theorem e_ix : gIx d (.int i) st = (seqA st d).bind fun ds => L2.atI ds i := (rfl)
@[simp] theorem e_eqI : gEq (.int i) (.int j) st = some (.bl (decide (i = j))) := gEq_d i j st
@[simp] theorem e_neI : gNe (.int i) (.int j) st = some (.bl (!decide (i = j))) := gNe_d i j st
@[simp] theorem e_eqB : gEq (.bl b) (.bl b') st = some (.bl (decide (b = b'))) := gEq_d b b' st
@[simp] theorem e_neB : gNe (.bl b) (.bl b') st = some (.bl (!decide (b = b'))) := gNe_d b b' st
@[simp] theorem e_eqS {x y : Str} : gEq (.str x) (.str y) st = some (.bl (decide (x = y))) := gEq_d x y st
@[simp] theorem e_neS {x y : Str} : gNe (.str x) (.str y) st = some (.bl (!decide (x = y))) := gNe_d x y st
@[simp] theorem e_eqT {l m : List Int} : gEq (T l) (T m) st = some (.bl (decide (l = m))) := by
  have h := gEq_d (PySem.W.Tup.mk l) (PySem.W.Tup.mk m) st
  have e : decide (PySem.W.Tup.mk l = PySem.W.Tup.mk m) = decide (l = m) := decide_eq_decide.mpr (by rw [PySem.W.Tup.mk.injEq])
  exact h.trans (by rw [e])
@[simp] theorem e_neT {l m : List Int} : gNe (T l) (T m) st = some (.bl (!decide (l = m))) := by
  have h := gNe_d (PySem.W.Tup.mk l) (PySem.W.Tup.mk m) st
  have e : decide (PySem.W.Tup.mk l = PySem.W.Tup.mk m) = decide (l = m) := decide_eq_decide.mpr (by rw [PySem.W.Tup.mk.injEq])
  exact h.trans (by rw [e])
@[simp] theorem e_sl1 {lo hi : Option Int} : gSl (.tup ds) lo hi st = some (.tup (cutD ds lo hi)) := (rfl)
@[simp] theorem e_sl2 {lo hi : Option Int} : gSl (.lst ds) lo hi st = some (.lst (cutD ds lo hi)) := (rfl)
@[simp] theorem e_rv1 : gRev (.tup ds) st = some (.tup ds.reverse) := (rfl)
@[simp] theorem e_rv2 : gRev (.lst ds) st = some (.lst ds.reverse) := (rfl)
@[simp] theorem e_len1 : gLen [.tup ds] st = some (.int ds.length) := (rfl)
@[simp] theorem e_len2 : gLen [.lst ds] st = some (.int ds.length) := (rfl)
@[simp] theorem e_len3 {k : Nat} : gLen [.ref k] st = (seqL st (.ref k)).map fun xs => .int xs.length := (rfl)
@[simp] theorem e_sum : gSum [d] st = (seqA st d).bind fun xs => (toInts xs).map fun ns => .int ns.sum := (rfl)
@[simp] theorem e_ints0 : toInts [] = some [] := (rfl)
@[simp] theorem e_ints1 : toInts (.int i :: ds) = (toInts ds).map (i :: ·) := (rfl)
@[simp] theorem e_bools0 : toBools [] = some [] := (rfl)
@[simp] theorem e_bools1 : toBools (.bl b :: ds) = (toBools ds).map (b :: ·) := (rfl)
@[simp] theorem e_abs : gAbs [.int i] st = some (.int (if i < 0 then -i else i)) := (rfl)
@[simp] theorem e_int1 : gInt [.int i] st = some (.int i) := (rfl)
@[simp] theorem e_int2 : gInt [.bl b] st = some (.int (if b then 1 else 0)) := (rfl)
@[simp] theorem e_tuple1 : gTuple [.tup ds] st = some (.tup ds) := (rfl)
@[simp] theorem e_tuple2 : gTuple [.lst ds] st = some (.tup ds) := (rfl)
@[simp] theorem e_list : gList [d] st = (seqA st d).map .lst := (rfl)
@[simp] theorem e_all : gAll [.lst ds] st = (toBools ds).map fun bs => .bl (bs.all id) := by
  show (toBools ds).map _ = _
  rfl
@[simp] theorem e_any : gAny [.lst ds] st = (toBools ds).map fun bs => .bl (bs.any id) := by
  show (toBools ds).map _ = _
  rfl
@[simp] theorem e_sorted : gSorted [d] st = (seqA st d).bind fun xs => (toInts xs).bind fun ns => if ns.length < 64 then some (.lst ((isort ns).map .int)) else none := (rfl)
@[simp] theorem e_min2 : gMin [.int i, .int j] st = some (.int (if j < i then j else i)) := (rfl)
@[simp] theorem e_max2 : gMax [.int i, .int j] st = some (.int (if j > i then j else i)) := (rfl)
@[simp] theorem e_isi {n : String} : gIsi [d, .ty n] st = (tyName st d).bind fun t => (L2.kitB t n).map .bl := (rfl)
@[simp] theorem e_ty1 : tyName st (.int i) = some "int" := (rfl)
@[simp] theorem e_ty2 : tyName st (.bl b) = some "bool" := (rfl)
@[simp] theorem e_ty3 : tyName st (.tup ds) = some "tuple" := (rfl)
@[simp] theorem e_ty4 : tyName st (.lst ds) = some "list" := (rfl)
@[simp] theorem e_ty5 {x : Str} : tyName st (.str x) = some "str" := (rfl)
@[simp] theorem e_ty6 : tyName st .non = some "NoneType" := (rfl)
@[simp] theorem e_is1 : gIs (.bl b) (.bl b') st = some (.bl (decide (b = b'))) := (rfl)
@[simp] theorem e_is2 : gIsN (.bl b) (.bl b') st = some (.bl (!decide (b = b'))) := (rfl)
@[simp] theorem e_src : fSrc f env st = (f env st).bind fun d st => match srcOf d st with | some S => .ok S st | none => .bad := (rfl)
@[simp] theorem e_srct : srcOf (.tup ds) st = some (.fix ds) := (rfl)
@[simp] theorem e_srcl : srcOf (.lst ds) st = some (.fix ds) := (rfl)
@[simp] theorem e_rng1 : fRange1 fa env st = (fa env st).bind fun ds st => match rng1 ds with | some S => .ok S st | none => .bad := (rfl)
@[simp] theorem e_rng2 : fRange2 fa env st = (fa env st).bind fun ds st => match rng2 ds with | some S => .ok S st | none => .bad := (rfl)
@[simp] theorem e_r1 : rng1 [.int j] = if -1000000 ≤ j ∧ j ≤ 1000000 then some (.fix (rangeD 0 j.toNat)) else none := (rfl)
@[simp] theorem e_r2 : rng2 [.int i, .int j] = if -1000000 ≤ i ∧ i ≤ 1000000 ∧ -1000000 ≤ j ∧ j ≤ 1000000 then some (.fix (rangeD i (j - i).toNat)) else none := (rfl)
@[simp] theorem rangeD3 : rangeD 0 3 = [.int 0, .int 1, .int 2] := (rfl)
@[simp] theorem rangeD4 : rangeD 0 4 = [.int 0, .int 1, .int 2, .int 3] := (rfl)
@[simp] theorem e_comp {src : Fi} {t : Tg} {own : List Nat} : fComp src t c f own env st = fLoop src t (step1 c f) own env st := (rfl)
@[simp] theorem e_comp2 {src src1 : Fi} {t t1 : Tg} {own vs1 : List Nat} : fComp2 src t c src1 t1 c' f own vs1 env st = fLoop src t (step2 c src1 t1 c' f vs1) own env st := (rfl)
@[simp] theorem e_loop {src : Fi} {t : Tg} {stp : Stp} {own : List Nat} : fLoop src t stp own env st = (match src env st with
  | .ok S st1 => (loopG S t stp (wipeE env own) S.n 0 [] st1).lst
  | .exc x st1 => .exc x st1
  | .bad => .bad) := fLoop_ok
@[simp] theorem e_lfix {t : Tg} {stp : Stp} {wenv : Env} {acc : List D} : loopG (.fix ds) t stp wenv (Src.fix ds).n 0 acc st = compF t stp wenv ds acc st := loop_fix' ds acc st
@[simp] theorem e_for {src : Fi} {t : Tg} : sFor src t fs env st = (match src env st with
  | .ok S st1 => forL S t fs S.n 0 env st1
  | .exc x st1 => .exc x env st1
  | .bad => .bad) := (rfl)
@[simp] theorem e_ffix {t : Tg} : forL (.fix ds) t fs (Src.fix ds).n 0 env st = forF t fs ds env st := for_fix' ds env st
@[simp] theorem e_cmp0 {t : Tg} {stp : Stp} {wenv : Env} {acc : List D} : compF t stp wenv [] acc st = .ok acc st := (rfl)
@[simp] theorem e_cmp1 {t : Tg} {stp : Stp} {wenv : Env} {acc : List D} : compF t stp wenv (d :: ds) acc st = (match bindT t d wenv st with
    | none => .bad
    | some env1 => (stp env1 acc st).bind (compF t stp wenv ds)) := (rfl)
@[simp] theorem e_for0 {t : Tg} : forF t fs [] env st = .nx env st := (rfl)
@[simp] theorem e_for1 {t : Tg} : forF t fs (d :: ds) env st = (match bindT t d env st with
    | none => .bad
    | some env1 => (fs env1 st).bind (forF t fs ds)) := (rfl)
@[simp] theorem e_stp1 {acc : List D} : step1 c f env acc st = (c env st).bind fun b st => if b = true then (f env st).bind fun y st => if acc.length < 100000 then .ok (acc ++ [y]) st else .bad else .ok acc st := (rfl)
@[simp] theorem e_stp2 {acc : List D} {src : Fi} {t : Tg} {vs : List Nat} : step2 c src t c' f vs env acc st = (c env st).bind fun b st => if b = true then (src env st).bind fun S st => loopG S t (step1 c' f) (wipeE env vs) S.n 0 acc st else .ok acc st := (rfl)
@[simp] theorem e_yes : fYes env st = .ok true st := (rfl)
@[simp] theorem e_celR {k : Nat} : celL st (.ref k) = (match st[k]? with | some (.lst ds) => some (k, ds) | _ => none) := (rfl)
@[simp] theorem e_app {o : D} : gAppend o [d] st = (celL st o).bind fun z => if z.2.length < 100000 then some (.non, st.set z.1 (.lst (z.2 ++ [d]))) else none := (rfl)
@[simp] theorem e_pop {o : D} : gPop o [] st = (celL st o).bind fun z => (z.2[z.2.length - 1]?).map fun d => (d, st.set z.1 (.lst z.2.dropLast)) := (rfl)
end
@[simp] theorem k_int_int : L2.kitB "int" "int" = some true := by kernel_rfl
@[simp] theorem k_int_bool : L2.kitB "int" "bool" = some false := by kernel_rfl
@[simp] theorem k_bool_int : L2.kitB "bool" "int" = some true := by kernel_rfl
@[simp] theorem k_bool_bool : L2.kitB "bool" "bool" = some true := by kernel_rfl
@[simp] theorem k_tup_tup : L2.kitB "tuple" "tuple" = some true := by kernel_rfl
@[simp] theorem k_list_tup : L2.kitB "list" "tuple" = some false := by kernel_rfl
@[simp] theorem k_str_str : L2.kitB "str" "str" = some true := by kernel_rfl
@[simp] theorem k_str_int : L2.kitB "str" "int" = some false := by kernel_rfl
@[simp] theorem k_str_tup : L2.kitB "str" "tuple" = some false := by kernel_rfl
@[simp] theorem k_int_tup : L2.kitB "int" "tuple" = some false := by kernel_rfl
@[simp] theorem k_non_tup : L2.kitB "NoneType" "tuple" = some false := by kernel_rfl
@[simp] theorem k_non_int : L2.kitB "NoneType" "int" = some false := by kernel_rfl
@[simp] theorem k_tup_int : L2.kitB "tuple" "int" = some false := by kernel_rfl
@[simp] theorem k_tup_str : L2.kitB "tuple" "str" = some false := by kernel_rfl
@[simp] theorem k_int_str : L2.kitB "int" "str" = some false := by kernel_rfl
@[simp] theorem k_non_str : L2.kitB "NoneType" "str" = some false := by kernel_rfl
@[simp] theorem e_run {N n : Nat} {f : Fs} {ds : List D} {st : Sto} : runB N n f ds st = if ds.length = n then (f (startE N ds) st).body else .bad := (rfl)
@[simp] theorem e_start {N : Nat} {ds : List D} : startE N ds = ds.map some ++ List.replicate (N - ds.length) none := (rfl)
end Fb

namespace Fb
open PySem
theorem cut_from (ds : List D) (k : Nat) : cutD ds (some (k : Int)) none = ds.drop k := by
  unfold cutD
  rw [HT.sIx_nat, HT.sIx_none]
  by_cases h : k ≤ ds.length
  · rw [Nat.min_eq_left h]
    exact List.take_of_length_le (by simp)
  · rw [Nat.min_eq_right (by omega), List.drop_of_length_le (Nat.le_refl _), List.drop_of_length_le (by omega)]
    simp
theorem cut_to (ds : List D) (k : Nat) : cutD ds none (some (k : Int)) = ds.take k := by
  unfold cutD
  rw [HT.sIx_nat, HT.sIx_none, Nat.sub_zero, List.drop_zero]
  by_cases h : k ≤ ds.length
  · rw [Nat.min_eq_left h]
  · rw [Nat.min_eq_right (by omega), List.take_of_length_le (Nat.le_refl _), List.take_of_length_le (by omega)]
theorem cut_mid (ds : List D) (j k : Nat) : cutD ds (some (j : Int)) (some (k : Int)) = (ds.drop j).take (k - j) := by
  unfold cutD
  rw [HT.sIx_nat ds.length 0 j, HT.sIx_nat ds.length ds.length k]
  by_cases h : j ≤ ds.length
  · rw [show min j ds.length = j from Nat.min_eq_left h]
    by_cases h2 : k ≤ ds.length
    · rw [show min k ds.length = k from Nat.min_eq_left h2]
    · rw [show min k ds.length = ds.length from Nat.min_eq_right (by omega), List.take_of_length_le (by simp), List.take_of_length_le (by simp; omega)]
  · rw [show min j ds.length = ds.length from Nat.min_eq_right (by omega), List.drop_of_length_le (Nat.le_refl _), List.drop_of_length_le (by omega)]
    simp
@[simp] theorem cf0 (ds : List D) : cutD ds (some 0) none = ds.drop 0 := cut_from ds 0
@[simp] theorem ct0 (ds : List D) : cutD ds none (some 0) = ds.take 0 := cut_to ds 0
@[simp] theorem cf1 (ds : List D) : cutD ds (some 1) none = ds.drop 1 := cut_from ds 1
@[simp] theorem ct1 (ds : List D) : cutD ds none (some 1) = ds.take 1 := cut_to ds 1
@[simp] theorem cf2 (ds : List D) : cutD ds (some 2) none = ds.drop 2 := cut_from ds 2
@[simp] theorem ct2 (ds : List D) : cutD ds none (some 2) = ds.take 2 := cut_to ds 2
@[simp] theorem cf3 (ds : List D) : cutD ds (some 3) none = ds.drop 3 := cut_from ds 3
@[simp] theorem ct3 (ds : List D) : cutD ds none (some 3) = ds.take 3 := cut_to ds 3
@[simp] theorem cf4 (ds : List D) : cutD ds (some 4) none = ds.drop 4 := cut_from ds 4
@[simp] theorem ct4 (ds : List D) : cutD ds none (some 4) = ds.take 4 := cut_to ds 4
end Fb

/-! tuples of ints as lists of ints -/
namespace Fb
open PySem
section
variable {st : Sto} {l m : List Int} {a b c d : Int}
@[simp] theorem t_sq : seqA st (T l) = some (l.map D.int) := (rfl)
@[simp] theorem t_len : gLen [T l] st = some (.int l.length) := by
  show some (D.int ((l.map D.int).length : Nat)) = _
  rw [List.length_map]
theorem t_sum : gSum [T l] st = some (.int l.sum) := by
  show (toInts (l.map D.int)).map _ = _
  rw [toInts_map]
  rfl
@[simp] theorem t_tuple : gTuple [T l] st = some (T l) := (rfl)
@[simp] theorem t_src : srcOf (T l) st = some (.fix (l.map D.int)) := (rfl)
@[simp] theorem t_ty : tyName st (T l) = some "tuple" := (rfl)
@[simp] theorem t_rev : gRev (T l) st = some (T l.reverse) := by
  show some (D.tup (l.map D.int).reverse) = _
  rw [← List.map_reverse]
  rfl
theorem t_add (h : l.length + m.length ≤ 100000) : gAdd (T l) (T m) st = some (T (l ++ m)) := by
  show (if (l.map D.int).length + (m.map D.int).length ≤ 100000 then some (D.tup (l.map D.int ++ m.map D.int)) else none) = _
  rw [List.length_map, List.length_map, if_pos h, ← List.map_append]
  rfl
theorem t_from (k : Nat) : gSl (T l) (some (k : Int)) none st = some (T (l.drop k)) := by
  show some (D.tup (cutD (l.map D.int) (some (k : Int)) none)) = _
  rw [cut_from, ← List.map_drop]
  rfl
theorem t_to (k : Nat) : gSl (T l) none (some (k : Int)) st = some (T (l.take k)) := by
  show some (D.tup (cutD (l.map D.int) none (some (k : Int)))) = _
  rw [cut_to, ← List.map_take]
  rfl
@[simp] theorem t_f0 : gSl (T l) (some 0) none st = some (T l) := t_from 0
@[simp] theorem t_f1 : gSl (T l) (some 1) none st = some (T (l.drop 1)) := t_from 1
@[simp] theorem t_f2 : gSl (T l) (some 2) none st = some (T (l.drop 2)) := t_from 2
@[simp] theorem t_f3 : gSl (T l) (some 3) none st = some (T (l.drop 3)) := t_from 3
@[simp] theorem t_t0 : gSl (T l) none (some 0) st = some (T []) := t_to 0
@[simp] theorem t_t1 : gSl (T l) none (some 1) st = some (T (l.take 1)) := t_to 1
@[simp] theorem t_t2 : gSl (T l) none (some 2) st = some (T (l.take 2)) := t_to 2
@[simp] theorem t_t3 : gSl (T l) none (some 3) st = some (T (l.take 3)) := t_to 3
@[simp] theorem fold1 : D.tup [.int a] = T [a] := (rfl)
@[simp] theorem fold2 : D.tup [.int a, .int b] = T [a, b] := (rfl)
@[simp] theorem fold3 : D.tup [.int a, .int b, .int c] = T [a, b, c] := (rfl)
@[simp] theorem fold4 : D.tup [.int a, .int b, .int c, .int d] = T [a, b, c, d] := (rfl)
@[simp] theorem t_at0 {x : D} {xs : List D} : L2.atI (x :: xs) 0 = some x := L2.atI_nat (j := 0) rfl
@[simp] theorem t_at1 {x y : D} {xs : List D} : L2.atI (x :: y :: xs) 1 = some y := L2.atI_nat (j := 1) rfl
@[simp] theorem t_at2 {x y z : D} {xs : List D} : L2.atI (x :: y :: z :: xs) 2 = some z := L2.atI_nat (j := 2) rfl
@[simp] theorem t_at3 {x y z v : D} {xs : List D} : L2.atI (x :: y :: z :: v :: xs) 3 = some v := L2.atI_nat (j := 3) rfl
theorem toInts_T : toInts (l.map D.int) = some l := toInts_map l
@[simp] theorem t_inL {ls : List (List Int)} : gIn (T l) (.lst (ls.map T)) st = some (.bl (decide (l ∈ ls))) := by
  have h := gIn_l (PySem.W.Tup.mk l) (ls.map PySem.W.Tup.mk) st
  have e : (Dd.d (ls.map (PySem.W.Tup.mk (α := Int)))) = D.lst (ls.map T) := by
    show D.lst ((ls.map PySem.W.Tup.mk).map Dd.d) = _
    rw [List.map_map]
    rfl
  rw [e] at h
  refine h.trans ?_
  have e2 : decide (PySem.W.Tup.mk l ∈ ls.map PySem.W.Tup.mk) = decide (l ∈ ls) := decide_eq_decide.mpr (by
    rw [List.mem_map]
    exact ⟨fun ⟨x, hx, e⟩ => by cases e; exact hx, fun h => ⟨l, h, rfl⟩⟩)
  rw [e2]
theorem t_map {ls : List (List Int)} : ls.map T = (ls.map PySem.W.Tup.mk).map Dd.d := by
  rw [List.map_map]
  rfl
@[simp] theorem t_neLL {ls ms : List (List Int)} : gNe (.lst (ls.map T)) (.lst (ms.map T)) st = some (.bl (!decide (ls = ms))) := by
  have h := gNe_d (ls.map PySem.W.Tup.mk) (ms.map PySem.W.Tup.mk) st
  rw [t_map, t_map]
  refine h.trans ?_
  have e2 : decide (ls.map (PySem.W.Tup.mk (α := Int)) = ms.map PySem.W.Tup.mk) = decide (ls = ms) := decide_eq_decide.mpr ⟨fun z => (List.map_inj_right (fun _ _ e => by cases e; rfl)).mp z, fun z => by rw [z]⟩
  rw [e2]
@[simp] theorem t_eqLL {ls ms : List (List Int)} : gEq (.lst (ls.map T)) (.lst (ms.map T)) st = some (.bl (decide (ls = ms))) := by
  have h := gEq_d (ls.map PySem.W.Tup.mk) (ms.map PySem.W.Tup.mk) st
  rw [t_map, t_map]
  refine h.trans ?_
  have e2 : decide (ls.map (PySem.W.Tup.mk (α := Int)) = ms.map PySem.W.Tup.mk) = decide (ls = ms) := decide_eq_decide.mpr ⟨fun z => (List.map_inj_right (fun _ _ e => by cases e; rfl)).mp z, fun z => by rw [z]⟩
  rw [e2]
theorem isort_congr (h : l.Perm m) : isort l = isort m := sorted_one ((isort_perm l).trans (h.trans (isort_perm m).symm)) (isort_pw l) (isort_pw m)
end
end Fb

/-! Fb.O: l.count(x), l.index(x). -/
namespace Fb
open PySem PySem.Spec PyProof.Rows L2
section
variable {X : Cx} {W : WX}
def gCnt : Gm := fun o ds st => match ds with
  | [d] => (seqL st o).bind fun xs => (toPys xs).bind fun ps => (toPyD d).bind fun q => if min (PyData.depthAll ps) q.depth ≤ 60 then some (.int ((ps.countP fun y => PyData.eqv y q : Nat) : Int), st) else none
  | _ => none
def gIdx : Gm := fun o ds st => match ds with
  | [d] => (seqL st o).bind fun xs => (toPys xs).bind fun ps => (toPyD d).bind fun q => if min (PyData.depthAll ps) q.depth ≤ 60 then (PySem.SeqAt.dataPlace ps q).map fun j => (.int (j : Nat), st) else none
  | _ => none
theorem m_cnt (hu : X.A.units + 100 < cLine) : MtM X "list.count" (rMt X.K X.mg gCnt) := by
  intro pins s σ H x xs v us Q I rx rxs ⟨M, st, o, ds, z, st', r, ho, hds, hg, q⟩
  unfold gCnt at hg
  split at hg
  · rename_i d
    cases h1 : seqL st o with
    | none => rw [h1] at hg; cases hg
    | some ys =>
      cases h2 : toPys ys with
      | none => rw [h1] at hg; change ((toPys ys).bind _) = _ at hg; rw [h2] at hg; cases hg
      | some ps =>
        cases h3 : toPyD d with
        | none => rw [h1] at hg; change ((toPys ys).bind _) = _ at hg; rw [h2] at hg; change ((toPyD d).bind _) = _ at hg; rw [h3] at hg; cases hg
        | some p =>
          rw [h1] at hg
          change ((toPys ys).bind _) = _ at hg
          rw [h2] at hg
          change ((toPyD d).bind _) = _ at hg
          rw [h3] at hg
          have hg' : (if min (PyData.depthAll ps) p.depth ≤ 60 then some (D.int ((ps.countP fun y => PyData.eqv y p : Nat) : Int), st) else none) = some (z, st') := hg
          split at hg'
          · rename_i hc
            cases hg'
            obtain ⟨a, zs, rfl, hr, rv⟩ := seqL_ok r ho h1
            obtain ⟨y, rfl, ry⟩ := hds.one
            cases rx
            obtain ⟨u, rfl, ru⟩ := Vals.one rxs
            obtain ⟨its, rr, ⟨o', n, ho', hc2, hn2, hdd⟩, _⟩ := I.list (.inl hr)
            obtain ⟨as, rd⟩ := Dp.readsAll I ps zs its (toPys_ok rv h2) rr
            obtain ⟨bs, rd2⟩ := Dp.reads I p _ _ (toPyD_ok ry h3) ru
            exact PySem.SeqAt.count_list_data (PlainL.isList ⟨o', n, ho', hc2, hn2, hdd⟩) (by simpa using rd) rd2 (toPys_plain h2) (toPyD_plain h3) (by omega) ⟨.int _, H, I.tok _, ⟨_, rfl⟩, fin_int r q (.int _)⟩
          · cases hg'
  · cases hg
theorem m_idx (hu : X.A.units + 100 < cLine) : MtM X "list.index" (rMt X.K X.mg gIdx) := by
  intro pins s σ H x xs v us Q I rx rxs ⟨M, st, o, ds, z, st', r, ho, hds, hg, q⟩
  unfold gIdx at hg
  split at hg
  · rename_i d
    cases h1 : seqL st o with
    | none => rw [h1] at hg; cases hg
    | some ys =>
      cases h2 : toPys ys with
      | none => rw [h1] at hg; change ((toPys ys).bind _) = _ at hg; rw [h2] at hg; cases hg
      | some ps =>
        cases h3 : toPyD d with
        | none => rw [h1] at hg; change ((toPys ys).bind _) = _ at hg; rw [h2] at hg; change ((toPyD d).bind _) = _ at hg; rw [h3] at hg; cases hg
        | some p =>
          rw [h1] at hg
          change ((toPys ys).bind _) = _ at hg
          rw [h2] at hg
          change ((toPyD d).bind _) = _ at hg
          rw [h3] at hg
          have hg' : (if min (PyData.depthAll ps) p.depth ≤ 60 then (PySem.SeqAt.dataPlace ps p).map fun j => (D.int (j : Nat), st) else none) = some (z, st') := hg
          split at hg'
          · rename_i hc
            cases h4 : PySem.SeqAt.dataPlace ps p with
            | none => rw [h4] at hg'; cases hg'
            | some j =>
              rw [h4] at hg'
              cases hg'
              obtain ⟨a, zs, rfl, hr, rv⟩ := seqL_ok r ho h1
              obtain ⟨y, rfl, ry⟩ := hds.one
              cases rx
              obtain ⟨u, rfl, ru⟩ := Vals.one rxs
              obtain ⟨its, rr, hpl, hlen⟩ := I.list (.inl hr)
              obtain ⟨as, rd⟩ := Dp.readsAll I ps zs its (toPys_ok rv h2) rr
              obtain ⟨bs, rd2⟩ := Dp.reads I p _ _ (toPyD_ok ry h3) ru
              obtain ⟨⟨cls, dd, data, sls⟩, n, ho', hc2, hn2, hdd⟩ := hpl
              simp only at hc2 hdd
              subst hc2 hdd
              have rd' : ReadsAll s.heap its.toArray.toList ps as := by simpa using rd
              obtain ⟨hj, g1, g2⟩ := PySem.SeqAt.hit_at rd' (toPys_plain h2) h4
              have hsl := sizeLine_eq
              have hvl := rr.length
              have hj2 : j < its.length := by simpa using hj
              exact call_meets PySem.F.slot_list_index ⟨_, ho', rfl⟩ PySem.F.entry_list_index (PySem.F.args_list_index_2 _ _)
                (SeqAt.list_indexAt a its.toArray n dd sls u (fun u => PyData.eqv (SeqAt.readOf s.heap u) p) j hj (by omega) g1 (fun m hm hmj => g2 m hm hmj)) ⟨ho', PySem.SeqAt.items_plain rd' rd2 (toPys_plain h2) (toPyD_plain h3) (by omega), ⟨.int _, H, I.tok _, ⟨_, rfl⟩, fin_int r q (.int _)⟩⟩
          · cases hg'
  · cases hg
@[simp] theorem e_cnt {o d : D} {st : Sto} : gCnt o [d] st = (seqL st o).bind fun xs => (toPys xs).bind fun ps => (toPyD d).bind fun q => if min (PyData.depthAll ps) q.depth ≤ 60 then some (.int ((ps.countP fun y => PyData.eqv y q : Nat) : Int), st) else none := (rfl)
@[simp] theorem e_idx {o d : D} {st : Sto} : gIdx o [d] st = (seqL st o).bind fun xs => (toPys xs).bind fun ps => (toPyD d).bind fun q => if min (PyData.depthAll ps) q.depth ≤ 60 then (PySem.SeqAt.dataPlace ps q).map fun j => (.int (j : Nat), st) else none := (rfl)
end
end Fb

/-! the least of tuples; the eight readings of a ring -/
namespace Fb
open PySem
theorem lmin_spec (l : List Int) (ls : List (List Int)) : lmin l ls ∈ l :: ls ∧ ∀ x ∈ l :: ls, lmin l ls ≤ x := by
  induction ls generalizing l with
  | nil => exact ⟨List.mem_cons_self, fun x hx => by rw [List.mem_singleton.mp hx]; exact List.le_refl _⟩
  | cons k r ih =>
    have e : lmin l (k :: r) = lmin (if k < l then k else l) r := rfl
    rw [e]
    by_cases h : k < l
    · rw [if_pos h]
      obtain ⟨h1, h2⟩ := ih k
      refine ⟨List.mem_cons_of_mem _ h1, fun x hx => ?_⟩
      rcases List.mem_cons.mp hx with rfl | hx
      · exact List.le_trans (h2 k List.mem_cons_self) (List.le_of_lt h)
      · exact h2 x hx
    · rw [if_neg h]
      obtain ⟨h1, h2⟩ := ih l
      refine ⟨?_, fun x hx => ?_⟩
      · rcases List.mem_cons.mp h1 with z | z
        · rw [z]; exact List.mem_cons_self
        · exact List.mem_cons_of_mem _ (List.mem_cons_of_mem _ z)
      · rcases List.mem_cons.mp hx with rfl | hx
        · exact h2 x List.mem_cons_self
        · rcases List.mem_cons.mp hx with rfl | hx
          · exact List.le_trans (h2 l List.mem_cons_self) (List.not_lt.mp h)
          · exact h2 x (List.mem_cons_of_mem _ hx)
theorem lmin_eq {l m : List Int} {ls ms : List (List Int)} (h : ∀ x, x ∈ l :: ls ↔ x ∈ m :: ms) : lmin l ls = lmin m ms := by
  obtain ⟨a1, a2⟩ := lmin_spec l ls
  obtain ⟨b1, b2⟩ := lmin_spec m ms
  exact List.le_antisymm (a2 _ ((h _).mpr b1)) (b2 _ ((h _).mp a1))
def orb : List Int → List (List Int)
  | [a, b, c, d] => [[a, b, c, d], [b, c, d, a], [c, d, a, b], [d, a, b, c], [d, c, b, a], [c, b, a, d], [b, a, d, c], [a, d, c, b]]
  | l => [l]
def first (l : List Int) : List Int := match orb l with
  | x :: xs => lmin x xs
  | [] => l
theorem orb_ne (l : List Int) : ∃ x xs, orb l = x :: xs ∧ first l = lmin x xs := by
  unfold first
  cases h : orb l with
  | nil =>
    unfold orb at h
    split at h <;> cases h
  | cons x xs => exact ⟨x, xs, rfl, rfl⟩
theorem first_mem (l : List Int) : first l ∈ orb l := by
  obtain ⟨x, xs, e1, e2⟩ := orb_ne l
  rw [e1, e2]
  exact (lmin_spec x xs).1
theorem first_le (l : List Int) : ∀ x ∈ orb l, first l ≤ x := by
  obtain ⟨x, xs, e1, e2⟩ := orb_ne l
  rw [e1, e2]
  exact (lmin_spec x xs).2
theorem first_same {l m : List Int} (h : ∀ x, x ∈ orb l ↔ x ∈ orb m) : first l = first m :=
  List.le_antisymm (first_le l _ ((h _).mpr (first_mem m))) (first_le m _ ((h _).mp (first_mem l)))
theorem orb_self (a b c d : Int) : [a, b, c, d] ∈ orb [a, b, c, d] := by simp [orb]
theorem orb_sub {a b c d : Int} {x : List Int} (h : x ∈ orb [a, b, c, d]) : ∃ e f g k, x = [e, f, g, k] ∧ (∀ y, y ∈ orb [a, b, c, d] ↔ y ∈ orb x) := by
  have key : ∀ e f g k : Int, [e, f, g, k] ∈ orb [a, b, c, d] → ∀ y, y ∈ orb [a, b, c, d] ↔ y ∈ orb [e, f, g, k] := by
    intro e f g k hm y
    simp only [orb, List.mem_cons, List.cons.injEq, List.not_mem_nil, or_false, and_true] at hm ⊢
    rcases hm with ⟨rfl, rfl, rfl, rfl⟩ | ⟨rfl, rfl, rfl, rfl⟩ | ⟨rfl, rfl, rfl, rfl⟩ | ⟨rfl, rfl, rfl, rfl⟩ | ⟨rfl, rfl, rfl, rfl⟩ | ⟨rfl, rfl, rfl, rfl⟩ | ⟨rfl, rfl, rfl, rfl⟩ | ⟨rfl, rfl, rfl, rfl⟩ <;> constructor <;> intro z <;> rcases z with z | z | z | z | z | z | z | z <;> simp [z]
  have h' := h
  simp only [orb, List.mem_cons, List.not_mem_nil, or_false] at h'
  rcases h' with rfl | rfl | rfl | rfl | rfl | rfl | rfl | rfl <;> exact ⟨_, _, _, _, rfl, key _ _ _ _ h⟩
theorem first_orb {a b c d : Int} {x : List Int} (h : x ∈ orb [a, b, c, d]) : first x = first [a, b, c, d] := by
  obtain ⟨e, f, g, k, rfl, hk⟩ := orb_sub h
  exact (first_same hk).symm
theorem like_iff (a b c d e f g k : Int) : first [a, b, c, d] = first [e, f, g, k] ↔ [e, f, g, k] ∈ orb [a, b, c, d] := by
  refine ⟨fun h => ?_, fun h => (first_orb h).symm⟩
  obtain ⟨_, _, _, _, e1, h1⟩ := orb_sub (first_mem [a, b, c, d])
  obtain ⟨_, _, _, _, e2, h2⟩ := orb_sub (first_mem [e, f, g, k])
  rw [h1, h, ← h2]
  exact orb_self e f g k
theorem first_first (a b c d : Int) : first (first [a, b, c, d]) = first [a, b, c, d] := first_orb (first_mem _)
/-- the same bars: a property that the eight share -/
theorem orb_all {P : Int → Int → Int → Int → Prop} (r : ∀ a b c d, P a b c d → P b c d a) (m : ∀ a b c d, P a b c d → P d c b a) {a b c d : Int} (h : P a b c d) {e f g k : Int} (hm : [e, f, g, k] ∈ orb [a, b, c, d]) : P e f g k := by
  simp only [orb, List.mem_cons, List.cons.injEq, List.not_mem_nil, or_false, and_true] at hm
  have h1 := r _ _ _ _ h
  have h2 := r _ _ _ _ h1
  have h3 := r _ _ _ _ h2
  have k0 := m _ _ _ _ h
  have k1 := m _ _ _ _ h1
  have k2 := m _ _ _ _ h2
  have k3 := m _ _ _ _ h3
  rcases hm with ⟨rfl, rfl, rfl, rfl⟩ | ⟨rfl, rfl, rfl, rfl⟩ | ⟨rfl, rfl, rfl, rfl⟩ | ⟨rfl, rfl, rfl, rfl⟩ | ⟨rfl, rfl, rfl, rfl⟩ | ⟨rfl, rfl, rfl, rfl⟩ | ⟨rfl, rfl, rfl, rfl⟩ | ⟨rfl, rfl, rfl, rfl⟩ <;> assumption
end Fb

/-! Fb.P: loops over any source, with a store that grows. -/
namespace Fb
open PySem
theorem loop_at {S : Src} {t : Tg} {stp : Stp} {wenv : Env} {α : Type} (g : α → D) (all : List α) (I : List α → List D → Sto → Prop) (hn : S.n = all.length) (hc : ∀ ys acc st, I ys acc st → S.cur st = some (all.map g))
    (h : ∀ x ys acc st, I (x :: ys) acc st → ∃ env1 acc2 st2, bindT t (g x) wenv st = some env1 ∧ stp env1 acc st = .ok acc2 st2 ∧ I ys acc2 st2) :
    ∀ (n i : Nat) (acc : List D) (st : Sto), i + n = all.length → I (all.drop i) acc st → ∃ acc' st', loopG S t stp wenv n i acc st = .ok acc' st' ∧ I [] acc' st'
  | 0, i, acc, st, hi, hI => by
    have e := hc _ _ _ hI
    rw [List.drop_of_length_le (by omega)] at hI
    refine ⟨acc, st, ?_, hI⟩
    unfold loopG
    rw [e]
    show (if (all.map g).length = S.n then _ else _) = _
    rw [if_pos (by rw [List.length_map, hn])]
  | n + 1, i, acc, st, hi, hI => by
    have hlt : i < all.length := by omega
    have e := hc _ _ _ hI
    rw [List.drop_eq_getElem_cons hlt] at hI
    obtain ⟨env1, acc2, st2, e1, e2, e3⟩ := h _ _ _ _ hI
    obtain ⟨acc', st', e4, e5⟩ := loop_at g all I hn hc h n (i + 1) acc2 st2 (by omega) e3
    refine ⟨acc', st', ?_, e5⟩
    have ea : S.at st i = some (g all[i]) := by
      unfold Src.at
      rw [e]
      show (if (all.map g).length = S.n then (all.map g)[i]? else none) = _
      rw [if_pos (by rw [List.length_map, hn]), List.getElem?_map, List.getElem?_eq_getElem hlt]
      rfl
    unfold loopG
    rw [ea]
    show (match bindT t (g all[i]) wenv st with
      | none => R.bad
      | some env1 => (stp env1 acc st).bind (loopG S t stp wenv n (i + 1))) = _
    rw [e1]
    show (stp env1 acc st).bind (loopG S t stp wenv n (i + 1)) = _
    rw [e2]
    exact e4
theorem for_at {S : Src} {t : Tg} {body : Fs} {α : Type} (g : α → D) (all : List α) (I : List α → Env → Sto → Prop) (hn : S.n = all.length) (hc : ∀ ys env st, I ys env st → S.cur st = some (all.map g))
    (h : ∀ x ys env st, I (x :: ys) env st → ∃ env1 env2 st2, bindT t (g x) env st = some env1 ∧ body env1 st = .nx env2 st2 ∧ I ys env2 st2) :
    ∀ (n i : Nat) (env : Env) (st : Sto), i + n = all.length → I (all.drop i) env st → ∃ env' st', forL S t body n i env st = .nx env' st' ∧ I [] env' st'
  | 0, i, env, st, hi, hI => by
    have e := hc _ _ _ hI
    rw [List.drop_of_length_le (by omega)] at hI
    refine ⟨env, st, ?_, hI⟩
    unfold forL
    rw [e]
    show (if (all.map g).length = S.n then _ else _) = _
    rw [if_pos (by rw [List.length_map, hn])]
  | n + 1, i, env, st, hi, hI => by
    have hlt : i < all.length := by omega
    have e := hc _ _ _ hI
    rw [List.drop_eq_getElem_cons hlt] at hI
    obtain ⟨env1, env2, st2, e1, e2, e3⟩ := h _ _ _ _ hI
    obtain ⟨env', st', e4, e5⟩ := for_at g all I hn hc h n (i + 1) env2 st2 (by omega) e3
    refine ⟨env', st', ?_, e5⟩
    have ea : S.at st i = some (g all[i]) := by
      unfold Src.at
      rw [e]
      show (if (all.map g).length = S.n then (all.map g)[i]? else none) = _
      rw [if_pos (by rw [List.length_map, hn]), List.getElem?_map, List.getElem?_eq_getElem hlt]
      rfl
    unfold forL
    rw [ea]
    show (match bindT t (g all[i]) env st with
      | none => RS.bad
      | some env1 => (body env1 st).bind (forL S t body n (i + 1))) = _
    rw [e1]
    show (body env1 st).bind (forL S t body n (i + 1)) = _
    rw [e2]
    exact e4
/-- a comprehension over any source; P: what the store keeps -/
theorem comp_any {src : Fi} {t : Tg} {c : Ft} {e : Fe} {own : List Nat} {env : Env} {st st1 : Sto} {S : Src} {α : Type} (g : α → D) (p : α → Bool) (k : α → D) (xs : List α) (P : Sto → Prop) (hs : src env st = .ok S st1) (hn : S.n = xs.length)
    (hc : ∀ st, P st → S.cur st = some (xs.map g)) (hP : P st1) (hl : xs.length ≤ 100000)
    (h : ∀ x ∈ xs, ∀ st, P st → ∃ env1 st2, bindT t (g x) (wipeE env own) st = some env1 ∧ c env1 st = .ok (p x) st2 ∧ P st2 ∧ (p x = true → ∃ st3, e env1 st2 = .ok (k x) st3 ∧ P st3)) :
    ∃ st', fComp src t c e own env st = .ok (.lst ((xs.filter p).map k)) st' ∧ P st' := by
  obtain ⟨acc', st', e1, ⟨e2, e3, _⟩⟩ := loop_at (S := S) (t := t) (stp := step1 c e) (wenv := wipeE env own) g xs (fun ys acc st => P st ∧ acc ++ (ys.filter p).map k = (xs.filter p).map k ∧ acc.length + ys.length ≤ 100000 ∧ ∀ y ∈ ys, y ∈ xs) hn (fun _ _ st z => hc st z.1)
    (fun x ys acc st ⟨h1, h2, h3, h4⟩ => by
      rw [List.length_cons] at h3
      obtain ⟨env1, st2, f1, f2, f3, f4⟩ := h x (h4 x List.mem_cons_self) st h1
      cases hp : p x with
      | true =>
        obtain ⟨st3, f5, f6⟩ := f4 hp
        refine ⟨env1, acc ++ [k x], st3, f1, ?_, f6, ?_, by simp; omega, fun y hy => h4 y (List.mem_cons_of_mem _ hy)⟩
        · unfold step1
          rw [f2, hp]
          show R.bind (e env1 st2) _ = _
          rw [f5]
          exact if_pos (by omega)
        · rw [← h2, List.filter_cons_of_pos hp]
          simp
      | false =>
        refine ⟨env1, acc, st2, f1, ?_, f3, ?_, by omega, fun y hy => h4 y (List.mem_cons_of_mem _ hy)⟩
        · unfold step1
          rw [f2, hp]
          rfl
        · rw [← h2, List.filter_cons_of_neg (by rw [hp]; exact Bool.false_ne_true)]) xs.length 0 [] st1 (by omega) ⟨hP, rfl, by simpa using hl, fun y hy => hy⟩
  refine ⟨st', ?_, e2⟩
  unfold fComp fLoop
  rw [hs]
  show (match loopG S t (step1 c e) (wipeE env own) S.n 0 [] st1 with | .ok ds st2 => R.ok (D.lst ds) st2 | _ => R.bad) = _
  rw [hn, e1]
  rw [List.filter_nil, List.map_nil, List.append_nil] at e3
  rw [e3]
/-- the same, all pass -/
theorem comp_map {src : Fi} {t : Tg} {e : Fe} {own : List Nat} {env : Env} {st st1 : Sto} {S : Src} {α : Type} (g : α → D) (k : α → D) (xs : List α) (P : Sto → Prop) (hs : src env st = .ok S st1) (hn : S.n = xs.length)
    (hc : ∀ st, P st → S.cur st = some (xs.map g)) (hP : P st1) (hl : xs.length ≤ 100000)
    (h : ∀ x ∈ xs, ∀ st, P st → ∃ env1 st3, bindT t (g x) (wipeE env own) st = some env1 ∧ e env1 st = .ok (k x) st3 ∧ P st3) :
    ∃ st', fComp src t fYes e own env st = .ok (.lst (xs.map k)) st' ∧ P st' := by
  have key := comp_any (src := src) (t := t) (c := fYes) (e := e) (own := own) (env := env) g (fun _ => true) k xs P hs hn hc hP hl (fun x hx st hst => by
    obtain ⟨env1, st3, h1, h2, h3⟩ := h x hx st hst
    exact ⟨env1, st, h1, rfl, hst, fun _ => ⟨st3, h2, h3⟩⟩)
  have ef : xs.filter (fun _ => true) = xs := List.filter_eq_self.mpr fun _ _ => rfl
  rw [ef] at key
  exact key
/-- a list that may change, walked -/
def celS (n k : Nat) : Src := ⟨n, fun st => match st[k]? with
      | some (.lst ds) => some ds
      | _ => none⟩
theorem src_cel {f : Fe} {env : Env} {st st1 : Sto} {k : Nat} {ds : List D} (h : f env st = .ok (.ref k) st1) (h2 : st1[k]? = some (.lst ds)) : fSrc f env st = .ok (celS ds.length k) st1 := by
  unfold fSrc
  rw [h]
  have e : srcOf (.ref k) st1 = some (celS ds.length k) := by
    unfold srcOf
    simp only [h2]
    rfl
  show (match srcOf (.ref k) st1 with | some S => R.ok S st1 | none => R.bad) = _
  rw [e]
theorem cur_cel {n : Nat} {st : Sto} {k : Nat} {ds : List D} (h : st[k]? = some (.lst ds)) : (celS n k).cur st = some ds := by
  show (match st[k]? with
      | some (.lst ds) => some ds
      | _ => none) = some ds
  rw [h]
@[simp] theorem celS_n {n k : Nat} : (celS n k).n = n := (rfl)
end Fb

/-! Fb.Q: try: .. except X as e: .., the caught error may outlive the suite. -/
namespace Fb
open PySem PySem.Spec PyProof.Rows L2
theorem exD_ok {P : Program} {w : World} {H : Hp} {h : Heap} {a : Addr} {cls : Value} {oe : Obj} {vs : Array Value} (e : h.get? a = some oe) (z : Zc cls none oe) (d : oe.data = .fields vs) : ObjOk P w H h a (ExD cls a) :=
  ⟨⟨oe, vs, e, z, d⟩, ⟨oe, e⟩, fun h1 h2 ⟨o, v, q, r⟩ k => ⟨o, v, k o q, r⟩⟩
section
variable {X : Cx}
/-- a new thing in the abstract heap that the entry did not know -/
theorem inv_see {pins : List (Addr × Obj)} {σ : L2.St} {H : Hp} {s : Shared} {a : Addr} {o : HO} {oe : Obj} {vs : Array Value} (I : Inv X pins σ H s) (h0 : X.s_0.heap.get? a = none) (ha : s.heap.get? a = some oe) (hd : oe.data = .fields vs) (na : H a = none) (nL : a ≠ X.env.locals)
    (np : ∀ p ∈ X.pn ++ pins, p.1 ≠ a) (new : ObjOk X.prog X.w (upd H a o) s.heap a o) : Inv X pins σ (upd H a o) s := by
  have up : ∀ b (u : HO), H b = some u → upd H a o b = some u := fun b u e => by rw [upd_ne (ne_of_none e na)]; exact e
  have nc : ∀ x c, X.env.cells.lookup x = some c → c ≠ a := fun x c e z => by
    obtain ⟨v, o', ho, hv⟩ := I.cell x c e
    rw [z, ha] at ho
    cases ho
    rw [hd] at hv
    cases hv
  have dn : ∀ b, b ≠ a → H b = none → upd H a o b = none := fun b hb e => by rw [upd_ne hb]; exact e
  have base : Un X.fs X.ex X.H_0 (upd H a o) X.s_0.heap s.heap :=
    { keep := I.base.keep, slot := I.base.slot, there := I.base.there,
      free := fun b u e n q => dn b (fun z => by rw [z, h0] at e; cases e) (I.base.free b u e n q),
      tups := fun b xs e => up b _ (I.base.tups b xs e), frzs := fun b u xs e => up b _ (I.base.frzs b u xs e),
      tbls := fun b ps e => by
        obtain ⟨more, q⟩ := I.base.tbls b ps e
        exact ⟨more, up b _ q⟩ }
  refine { ok := I.ok, os := I.os, bare := I.bare, base := base, loc := I.loc, cell := I.cell, len := I.len, free := dn _ (Ne.symm nL) I.free, freeC := fun x c e => dn c (nc x c e) (I.freeC x c e), pin := fun p hp => ?_, hok := fun b u e => ?_ }
  · obtain ⟨p1, p2, p3⟩ := I.pin p hp
    exact ⟨p1, dn p.1 (np p hp) p2, p3⟩
  · by_cases hb : b = a
    · subst hb
      rw [upd_same] at e
      cases e
      exact new
    · rw [upd_ne hb] at e
      exact (I.hok b u e).stay (fun c v _ q => q) (fun c q => up c _ q) fun c xs q => up c _ q
/-- into an except suite, no pin -/
theorem inv_in {pins : List (Addr × Obj)} {σ : L2.St} {H : Hp} {s : Shared} (I : Inv X pins σ H s) (a : Addr) : Inv (X.suite a (X.pn ++ pins)) [] σ H s :=
  { ok := I.ok.suite a _, os := I.os, bare := I.bare, base := I.base, loc := I.loc, cell := I.cell, free := I.free, freeC := I.freeC, hok := I.hok, len := I.len, pin := fun p hp => I.pin p (by simpa using hp) }
theorem inv_out {pins pins' : List (Addr × Obj)} {σ : L2.St} {H : Hp} {s : Shared} {a : Addr} (ok : X.Ok) (I : Inv (X.suite a (X.pn ++ pins)) pins' σ H s) : Inv X pins σ H s :=
  { ok := ok, os := I.os, bare := I.bare, base := I.base, loc := I.loc, cell := I.cell, free := I.free, freeC := I.freeC, hok := I.hok, len := I.len, pin := fun p hp => I.pin p (List.mem_append_left pins' hp) }
end
theorem PostS.ext {K : PySem.W.Frag} {mg : Str → Option Value} {W : WX} {M M1 : Mp} {H H1 : Hp} {r : RS} {Q : Ends} (x : Ext M H M1 H1) (h : PostS K mg W M H r Q) : PostS K mg W M1 H1 r Q := by
  cases r with
  | nx e st => exact fun M2 s2 H2 y => h M2 s2 H2 (x.trans y)
  | rt d st => exact fun M2 v2 H2 y => h M2 v2 H2 (x.trans y)
  | exc z e st => exact fun M2 s2 H2 C y => h M2 s2 H2 C (x.trans y)
  | bad => exact h
/-- what the suite makes of a caught error -/
def handS (exs : List Str) (i : Nat) (sf : Fs) (x : Str) (env : Env) (st : Sto) : RS := if x ∈ exs then match sf (env.set i (some (.exc x))) st with
    | .nx env2 st2 => .nx (env2.set i none) st2
    | .rt d st2 => .rt d st2
    | _ => .bad
  else .bad
def sTry (bf : Fs) (exs : List Str) (i : Nat) (sf : Fs) : Fs := fun env st => match bf env st with
  | .exc x env1 st1 => handS exs i sf x env1 st1
  | r => r
section
variable {X : Cx} {W : WX} {x n : Str} {c : Value} {i : Nat} {body suite : List Stmt} {b₀ : Stmt} {np pos pos' : Pos} {bf sf : Fs} {exs : List Str}
theorem s_try (hex0 : X.ex = []) (hs : X.stack = X.env :: X.outer) (hf : X.env.frame = some X.env.locals) (hN : X.N.Nodup) (hi : X.N[i]? = some n) (hln : X.env.kindOf n = some .local) (hc : Names X x c) (tk : Takes X W)
    (hex : ∀ y ∈ exs, ∀ C, X.mg y = some (.ref C) → PySem.W.exmOne X.K (.ref C) c = some true)
    (hb : ∀ (W' : WX) (pn : List (Addr × Obj)) (xe : Value → Shared → Prop), Takes (X.tr pn xe) W' → XSs (X.tr pn xe) W' body bf)
    (hsu : ∀ (a : Addr) (pn : List (Addr × Obj)), XSs (X.suite a pn) (fun _ _ _ _ => False) (b₀ :: suite) sf) :
    XS X W (.Try body [.ExceptHandler (some (.Name x np)) (some n) (b₀ :: suite) pos'] [] [] pos) (sTry bf exs i sf) := by
  refine ⟨fun pins s σ H Q I h => ?_⟩
  obtain ⟨M, env, st, rel, post⟩ := h
  have hok := I.ok
  have frame : X.A.frames = some (X.env :: X.outer) := by rw [hok.frames, hs]
  obtain ⟨Wb, hWb⟩ : ∃ Wb : WX, Wb = fun cls d σ1 H1 => ∃ (y : Str) (C : Addr) (M1 : Mp) (env1 : Env) (st1 : Sto), cls = .ref C ∧ d = none ∧ X.mg y = some (.ref C) ∧ Rel X.K X.mg M1 env1 st1 σ1 H1 ∧ PostS X.K X.mg W M1 H1 (handS exs i sf y env1 st1) Q := ⟨_, rfl⟩
  have want : tS X.K X.mg Wb bf Q σ H := by
    refine ⟨M, env, st, rel, ?_⟩
    unfold sTry at post
    cases e : bf env st with
    | nx env1 st1 => rw [e] at post; exact post
    | rt d st1 => rw [e] at post; exact post
    | bad => rw [e] at post; exact post.elim
    | exc y env1 st1 =>
      rw [e] at post
      intro M1 σ1 H1 C x1 r1 hy
      rw [hWb]
      exact ⟨y, C, M1, env1, st1, rfl, rfl, hy, r1, PostS.ext x1 post⟩
  refine wpAny_Try_except ?_
  have run := (hb Wb (X.pn ++ pins) (fun e t => wpAny (model X.prog X.w) X.A (noteFrame e X.env) (fun _ t2 => wpAny (model X.prog X.w) X.A (setFlight e none) (fun _ t3 => wpAny (model X.prog X.w) X.A
    (handleBy e X.env [.ExceptHandler (some (.Name x np)) (some n) (b₀ :: suite) pos']) (SP X pins Q) X.xe t3) X.xe t2) X.xe t) (fun u t air => ?_)).run [] s σ H Q (I.toTry _) want
  · refine wpAny_mono run (fun f s1 hsp => ?_) fun _ _ z => z
    cases f with
    | next =>
      obtain ⟨σ1, H1, J, q⟩ := hsp
      exact wpAny_execs_nil ⟨σ1, H1, J.ofTry hok, q⟩
    | ret v =>
      obtain ⟨v1, σ1, H1, J, r, q⟩ := hsp
      exact ⟨v1, σ1, H1, J.ofTry hok, r, q⟩
    | brk =>
      obtain ⟨σ1, H1, J, q⟩ := hsp
      exact ⟨σ1, H1, J.ofTry hok, q⟩
    | cont =>
      obtain ⟨σ1, H1, J, q⟩ := hsp
      exact ⟨σ1, H1, J.ofTry hok, q⟩
  · obtain ⟨a, B, sI, pinsB, σ1, H1, cls, d, hu, JB, inB, slots, sky, na, osE, bareE, hW⟩ := air
    rw [hWb] at hW
    obtain ⟨y, C, M1, env1, st1, hcls, hdn, hy, rel1, post1⟩ := hW
    subst hu hcls hdn
    by_cases hm : y ∈ exs
    · have J0 : Inv X pins σ1 H1 sI := JB.ofTry hok
      have skyB : Sky B (X.env :: X.outer) a (Zc (.ref C) none) X.env.locals t.heap := by rw [← hs]; exact sky
      refine Sky.land Zc.steady frame hf skyB fun hA flA slA => ?_
      have JA : Inv X pins σ1 H1 { t with heap := hA } := J0.landed inB flA.1 (slots.trans slA) osE bareE
      obtain ⟨oA, vA, getA, zA, dA⟩ := flA.there
      have offFrames : ∀ {hh : Heap} {ob : Obj} {ws : Array Value}, hh.FunFrames B (X.env :: X.outer) → hh.get? a = some ob → ob.data = .fields ws → a ∉ frs (X.env :: X.outer) := fun ff ge ds hin => by
        obtain ⟨_, ob', ge', bad⟩ := ff.mem hin
        rw [ge] at ge'
        cases ge'
        exact bad _ ds
      have nfr := offFrames flA.2.2.1 getA dA
      have nL : a ≠ X.env.locals := fun z => nfr (List.mem_filterMap.mpr ⟨X.env, List.mem_cons_self, by rw [hf, z]⟩)
      have noI : sI.heap.get? a = none := by
        cases q : sI.heap.get? a with
        | none => rfl
        | some ob =>
          have gB := inB a ob q (by rw [hs]; exact nfr)
          rw [flA.2.1] at gB
          cases gB
      have no0 : X.s_0.heap.get? a = none := by
        cases q : X.s_0.heap.get? a with
        | none => rfl
        | some ob =>
          by_cases hx : a ∈ X.ex
          · exact absurd hx (by rw [hex0]; exact List.not_mem_nil)
          · obtain ⟨o', g'⟩ := J0.base.there a ob q hx
            rw [noI] at g'
            cases g'
      have noP : ∀ p ∈ X.pn ++ pins, p.1 ≠ a := fun p hp z => by
        have := (J0.pin p hp).1
        rw [z, noI] at this
        cases this
      refine wpAny_handleBy_cons (codeAny_handlers_test ?_) (fun q => nomatch q)
      have looks : PySem.W.Looks (model X.prog X.w) hA (typeOf (.ref a)) (.ref C) := fun A' Q' E' t' k q => wpAny_typeOf_ref (k _ _ getA) (by rw [zA.1]; exact q)
      have fits := PySem.W.exm_one (M := model X.prog X.w) JA.kIn looks (hex y hm C hy)
      have JS := inv_in JA a
      have ask : ∀ {Q' E' : Value → Shared → Prop}, Q' c { t with heap := hA } → wpAny (model X.prog X.w) (X.A.mark (some (.ref a))) (eval (.Name x np) X.env) Q' E' { t with heap := hA } := fun {Q' E'} q => by
        obtain ⟨g1, g2, g3⟩ := hc
        rcases g3 with g3 | ⟨g3, g4, g5⟩
        · exact ld_glob (X := X.suite a (X.pn ++ pins)) JS g1 g3 q g2
        · exact ld_blt (X := X.suite a (X.pn ++ pins)) JS g1 g3 g4 q g5 g2
      refine ask (fits.here (codeAny_handlers_suite_as ?_))
      refine HandSPX.lands_againZ flA fun hZ flZ slZ => ?_
      have JZ : Inv X pins σ1 H1 { t with heap := hZ } := J0.landed inB flZ.1 ((slots.trans slA).trans slZ) osE bareE
      obtain ⟨oZ, vZ, getZ, zZ, dZ⟩ := flZ.there
      have JN : Inv X pins σ1 (upd H1 a (ExD (.ref C) a)) { t with heap := hZ } := inv_see JZ no0 getZ dZ na nL noP (exD_ok getZ zZ dZ)
      refine store_ok (X := X.suite a (X.pn ++ pins)) (v := .ref a) (inv_in JN a) hN hi (.inl hln) rfl (fun s5 S5 => ?_) (.inr hln)
      unfold handS at post1
      rw [if_pos hm] at post1
      have xn : Ext M1 H1 M1 (upd H1 a (ExD (.ref C) a)) := Ext.new na
      have relN : Rel X.K X.mg M1 (env1.set i (some (.exc y))) st1 (σ1.set i (some (.ref a))) (upd H1 a (ExD (.ref C) a)) := by
        have e1 := rel1.e.mono xn
        refine ⟨rel1.h.new na, by rw [List.length_set, List.length_set]; exact e1.len, fun j dd ej => ?_⟩
        by_cases hj : j = i
        · subst hj
          have hlt : j < env1.length := by
            have := (List.getElem?_eq_some_iff.mp ej).1
            rwa [List.length_set] at this
          rw [List.getElem?_set_self hlt] at ej
          cases ej
          exact ⟨.ref a, List.getElem?_set_self (by rw [← e1.len]; exact hlt), .exc hy upd_same (rel1.h.fresh na)⟩
        · rw [List.getElem?_set_ne (Ne.symm hj)] at ej
          obtain ⟨v, q1, q2⟩ := e1.get j dd ej
          exact ⟨v, by rw [List.getElem?_set_ne (Ne.symm hj)]; exact q1, q2⟩
      obtain ⟨Q5, hQ5⟩ : ∃ Q5 : Ends, Q5 = { nx := fun σ' H' => Q.nx (σ'.set i none) H', rt := Q.rt, bk := fun _ _ => False, ct := fun _ _ => False } := ⟨_, rfl⟩
      have want5 : tS X.K X.mg (fun _ _ _ _ => False) sf Q5 (σ1.set i (some (.ref a))) (upd H1 a (ExD (.ref C) a)) := by
        refine ⟨M1, _, st1, relN, ?_⟩
        cases e : sf (env1.set i (some (.exc y))) st1 with
        | nx env2 st2 =>
          rw [e] at post1
          intro M2 σ2 H2 x2 r2
          rw [hQ5]
          refine post1 M2 (σ2.set i none) H2 (xn.trans x2) ⟨r2.h, by rw [List.length_set, List.length_set]; exact r2.e.len, fun j dd ej => ?_⟩
          by_cases hj : j = i
          · subst hj
            have hlt : j < env2.length := by
              have := (List.getElem?_eq_some_iff.mp ej).1
              rwa [List.length_set] at this
            rw [List.getElem?_set_self hlt] at ej
            cases ej
          · rw [List.getElem?_set_ne (Ne.symm hj)] at ej
            obtain ⟨v, q1, q2⟩ := r2.e.get j dd ej
            exact ⟨v, by rw [List.getElem?_set_ne (Ne.symm hj)]; exact q1, q2⟩
        | rt dd st2 =>
          rw [e] at post1
          intro M2 v2 H2 x2 r2 rv2
          rw [hQ5]
          exact post1 M2 v2 H2 (xn.trans x2) r2 rv2
        | exc zz env2 st2 => rw [e] at post1; exact post1.elim
        | bad => rw [e] at post1; exact post1.elim
      refine wpAny_mono ((hsu a (X.pn ++ pins)).run [] s5 _ _ Q5 S5 want5) (fun f s6 hsp => ?_) fun _ _ z => z.elim
      rw [hQ5] at hsp
      cases f with
      | next =>
        obtain ⟨σ6, H6, S6, q6⟩ := hsp
        exact gone_ok (inv_out hok S6) hN hi hln fun s7 J7 => ⟨_, _, J7, q6⟩
      | ret u =>
        obtain ⟨v6, σ6, H6, S6, r6, q6⟩ := hsp
        exact gone_ok (inv_out hok S6) hN hi hln fun s7 J7 => ⟨_, _, _, J7, r6, q6⟩
      | brk =>
        obtain ⟨σ6, H6, S6, q6⟩ := hsp
        exact q6.elim
      | cont =>
        obtain ⟨σ6, H6, S6, q6⟩ := hsp
        exact q6.elim
    · unfold handS at post1
      rw [if_neg hm] at post1
      exact post1.elim
end
end Fb

/-! Fb.R: own errors asked for their class, a call of what an expression gives. -/
namespace Fb
open PySem PySem.Spec PyProof.Rows L2
/-- what isinstance and except ask of the own classes of errors; all else: the others it is no instance of -/
structure IsiF (K : PySem.W.Frag) (mg : Str → Option Value) (exs : List Str) : Prop where
  gl : ∀ x ∈ exs, mg x = some (.ref (ga K x))
  ec : ∀ x ∈ exs, ExcC K (ga K x)
  own : ∀ x ∈ exs, ∀ y ∈ exs, PySem.W.kitOne K (.ref (ga K x)) (.ref (ga K y)) = some (decide (x = y))
  val : ∀ x ∈ exs, PySem.W.kitOne K (.ref (ga K x)) (.type "ValueError") = some true
def opEq (a : Option (Option Value)) (b : Value) : Bool := match a with
  | some (some c) => c == b
  | _ => false
theorem opEq_ok {a : Option (Option Value)} {b : Value} (h : opEq a b = true) : a = some (some b) := by
  unfold opEq at h
  split at h
  · rw [beq_iff_eq.mp h]
  · cases h
def excB (K : PySem.W.Frag) (D : Addr) : Bool :=
  opEq (PySem.W.findIn K (.ref D) "__getattribute__") (.builtin "BaseException.__getattribute__") && ((match PySem.W.findIn K (.ref D) "__getattr__" with | some none => true | _ => false) && (PySem.W.subIn K (.ref D) (.type "BaseException") == some true && (PySem.W.hasDictIn K D &&
    (opEq (PySem.W.findIn K (.ref D) "__class__") (.builtin "object.__class__") && (opEq (PySem.W.specialIn K (.builtin "object.__class__") "__get__") (.builtin "getset_descriptor.__get__") && (PySem.W.takesIn K (.builtin "object.__class__") == some true && PySem.W.mroIn K D (.type "object") == some true))))))
theorem excB_ok {K : PySem.W.Frag} {D : Addr} (h : excB K D = true) : ExcC K D := by
  unfold excB at h
  simp only [Bool.and_eq_true, beq_iff_eq] at h
  obtain ⟨h1, h2, h3, h4, h5, h6, h7, h8⟩ := h
  refine ⟨opEq_ok h1, ?_, h3, h4, opEq_ok h5, opEq_ok h6, h7, h8⟩
  split at h2
  · assumption
  · cases h2
def isiB (K : PySem.W.Frag) (exs : List Str) : Bool := exs.all fun x => excB K (ga K x) && (PySem.W.kitOne K (.ref (ga K x)) (.type "ValueError") == some true && exs.all fun y => PySem.W.kitOne K (.ref (ga K x)) (.ref (ga K y)) == some (decide (x = y)))
theorem isiB_ok {K : PySem.W.Frag} {mg : Str → Option Value} {exs : List Str} (h : isiB K exs = true) (g : ∀ x ∈ exs, mg x = some (.ref (ga K x))) : IsiF K mg exs := by
  have h' := List.all_eq_true.mp h
  refine ⟨g, fun x hx => ?_, fun x hx y hy => ?_, fun x hx => ?_⟩
  · exact excB_ok (Bool.and_eq_true_iff.mp (h' x hx)).1
  · have := (Bool.and_eq_true_iff.mp (Bool.and_eq_true_iff.mp (h' x hx)).2).2
    exact beq_iff_eq.mp (List.all_eq_true.mp this y hy)
  · exact beq_iff_eq.mp (Bool.and_eq_true_iff.mp (Bool.and_eq_true_iff.mp (h' x hx)).2).1
/-- an except clause that takes them all -/
def exmB (K : PySem.W.Frag) (b : Str) (exs : List Str) : Bool := exs.all fun x => PySem.W.exmOne K (.ref (ga K x)) (.ref (ga K b)) == some true
theorem exmB_ok {K : PySem.W.Frag} {mg : Str → Option Value} {b : Str} {exs : List Str} (h : exmB K b exs = true) (g : ∀ x ∈ exs, mg x = some (.ref (ga K x))) : ∀ y ∈ exs, ∀ C, mg y = some (.ref C) → PySem.W.exmOne K (.ref C) (.ref (ga K b)) = some true := fun y hy C hC => by
  have e := (g y hy).symm.trans hC
  cases e
  exact beq_iff_eq.mp (List.all_eq_true.mp h y hy)
section
variable {X : Cx} {W : WX}
def gIsX (exs : List Str) (ds : List D) (st : Sto) : Option D := match ds with
  | [.exc x, .gl c] => if x ∈ exs ∧ c ∈ exs then some (.bl (decide (x = c))) else none
  | [.exc x, .ty n] => if x ∈ exs ∧ n = "ValueError" then some (.bl true) else none
  | _ => gIsi ds st
theorem b_isX {exs : List Str} (F : IsiF X.K X.mg exs) : CallD X (.builtin "isinstance") (gIsX exs) := by
  intro pins s σ H vs us Q I rx h
  obtain ⟨M, st, ds, z, r, hd, hg, q⟩ := h
  have ask : ∀ {x : Str} {v : V} {cv : Value} {u1 : Value} {b : Bool}, x ∈ exs → RV X.K X.mg M H (.exc x) v → RelV v u1 → PySem.W.kitOne X.K (.ref (ga X.K x)) cv = some b → (∀ tk, EP X pins σ Q (.bool b) { s with toks := tk }) → wpAny (model X.prog X.w) X.A (call (.builtin "isinstance") [u1, cv]) (EP X pins σ Q) X.xe s := by
    intro x v cv u1 b hx rv ru e k
    cases rv with
    | @exc _ C a hm hH hav =>
      have eC := (F.gl x hx).symm.trans hm
      cases eC
      cases (show u1 = Value.ref a from ru)
      obtain ⟨⟨oe, ws, ge, hz, hf⟩, _, _⟩ := I.hok a _ hH
      have J : PySem.W.InstAt s.heap a oe (ga X.K x) none := by
        obtain ⟨oc, od, oda, osl⟩ := oe
        obtain ⟨z1, z2⟩ := hz
        dsimp only at z1 z2 hf
        subst z1 z2 hf
        exact ⟨ge, rfl, rfl, trivial⟩
      have c := F.ec x hx
      exact PySem.W.kia_one (PySem.W.handS_kitx_exc c.hg c.hk c.hs c.hd c.ha c.hn c.ht c.hm) I.kIn J e (fun z => nomatch z) k
  unfold gIsX at hg
  split at hg
  · rename_i x c
    split at hg
    · rename_i hc
      cases hg
      obtain ⟨v, u, rfl, a1, a2⟩ := hd.two
      obtain ⟨u1, u2, rfl, r1, r2⟩ := vals2 rx
      cases a2 with
      | gl hm rr =>
        have eC := (F.gl c hc.2).symm.trans hm
        cases eC
        have eu : u2 = .ref (ga X.K c) := by
          cases u with
          | ref a =>
            have e1 : Value.ref (ga X.K c) = .ref a := rr
            have e2 : u2 = Value.ref a := r2
            rw [e2, e1]
          | ty n => cases (show Value.ref (ga X.K c) = .type n from rr)
          | non => cases (show Value.ref (ga X.K c) = .none from rr)
          | bl b => cases (show Value.ref (ga X.K c) = .bool b from rr)
          | _ => obtain ⟨_, z⟩ := rr; cases z
        subst eu
        exact ask hc.1 a1 r1 (F.own x hc.1 c hc.2) fun tk => ⟨.bl _, H, I.kept (t' := tk) fun _ _ z => z, rfl, fin_int r q (.bl _)⟩
    · cases hg
  · rename_i x n
    split at hg
    · rename_i hc
      cases hg
      obtain ⟨v, u, rfl, a1, a2⟩ := hd.two
      obtain ⟨u1, u2, rfl, r1, r2⟩ := vals2 rx
      cases a2
      have eu : u2 = .type n := r2
      subst eu
      rw [hc.2]
      exact ask hc.1 a1 r1 (F.val x hc.1) fun tk => ⟨.bl _, H, I.kept (t' := tk) fun _ _ z => z, rfl, fin_int r q (.bl _)⟩
    · cases hg
  · exact b_isi pins s σ H vs us Q I rx ⟨M, st, ds, z, r, hd, hg, q⟩
/-! ### a call of what an expression gives: one of some defs -/
def fCallV (tab : Str → Option Fn) (ff : Fe) (fa : Fa) : Fe := fun env st => (ff env st).bind fun d st => match d with
  | .gl x => match tab x with
    | some m => (fa env st).bind m
    | none => .bad
  | _ => .bad
theorem x_callV {k n : Nat} {tab : Str → Option Fn} {fe e : Expr} {es : List Expr} {ff : Fe} {fa : Fa} {pos : Pos} (tk : Takes X W) (hr : Room k X.A) (hT : ∀ x m, tab x = some m → ∃ j ps, j ≤ k ∧ Def X.prog X.w X.K X.mg X.base x ps j n m) (hf : XE X W fe ff) (ha : XA X W (e :: es) fa) (hl : lenA fa n)
    (ht : eval (.Call fe (e :: es) [] pos) X.env = (do callWith pos (← eval fe X.env) [] (backTo pos (starEach (e :: es) X.env)) (backToKw pos (keywordEach [] X.env))) := by rfl)
    (he : starEach (e :: es) X.env = (false, eval e X.env) :: starEach es X.env := by rfl) (hpl : (backTo pos (starEach es X.env)).any (·.1) = false := by rfl) : XE X W (.Call fe (e :: es) [] pos) (fCallV tab ff fa) := by
  refine ⟨fun pins s σ H Q I ⟨M, env, st, r, q⟩ => ?_⟩
  obtain ⟨QV, hQV⟩ : ∃ QV : VK, QV = fun w H2 => ∃ M1 d1 st1, RelH X.K X.mg M1 st1 H2 ∧ RelE X.K X.mg M1 env σ H2 ∧ RV X.K X.mg M1 H2 d1 w ∧ Post X.K X.mg (RV X.K X.mg) W M1 σ H2 (match d1 with
      | .gl x => match tab x with
        | some m => (fa env st1).bind m
        | none => .bad
      | _ => .bad) Q := ⟨_, rfl⟩
  have first : tF X.K X.mg W ff σ H QV := by
    refine ⟨M, env, st, r, Post.bind q fun M1 d1 st1 v1 H1 e1 x1 r1 q1 p1 => ?_⟩
    rw [hQV]
    exact ⟨M1, d1, st1, r1, r.e.mono x1, q1, p1⟩
  refine Call_ (thn (hf.run pins s σ H QV I first) fun u s1 z => ?_) ht
  rw [hQV] at z
  obtain ⟨w, H2, I2, rw2, M1, d1, st1, r1, re1, q1, p1⟩ := z
  cases q1 with
  | @gl x v0 w0 hm rr =>
    cases ht2 : tab x with
    | none => simp only [ht2] at p1; exact p1.elim
    | some m =>
      simp only [ht2] at p1
      obtain ⟨j, ps, hj, Df⟩ := hT x m ht2
      have ev := Df.gl.symm.trans hm
      cases ev
      have eu : u = .ref (ga X.K x) := by
        cases w with
        | ref a =>
          have e1 : Value.ref (ga X.K x) = .ref a := rr
          have e2 : u = Value.ref a := rw2
          rw [e2, e1]
        | ty n => cases (show Value.ref (ga X.K x) = .type n from rr)
        | non => cases (show Value.ref (ga X.K x) = .none from rr)
        | bl b => cases (show Value.ref (ga X.K x) = .bool b from rr)
        | _ => obtain ⟨_, z⟩ := rr; cases z
      subst eu
      obtain ⟨fd, F, b, _⟩ := Df.ex
      refine PySem.W.callWith_K (h₀ := X.base) I.ok.mod.kin Df.kp (thn (ha.run pos pins s1 σ H2 _ I2 ⟨M1, env, st1, ⟨r1, re1⟩, Post.bind p1 fun M3 ds st3 vs H3 e3 x3 r3 q3 p3 => ?_⟩) fun us s2 ⟨vs, H3, I3, rv, q4⟩ => ⟨I3.kIn, run_fnS F (hr.mono hj) b (passAt tk σ) I3 rv q4⟩) he hpl
      refine ⟨by rw [← q3.length]; exact hl env st1 ds st3 e3, M3, st3, ds, r3, q3, ?_⟩
      cases e2 : m ds st3 with
      | ok d s => rw [e2] at p3; exact p3
      | exc d s => rw [e2] at p3; exact p3
      | bad => rw [e2] at p3; exact p3
  | _ => exact p1.elim
theorem x_def0 {k k' : Nat} {m : Fn} {x : Str} {p pos : Pos} (D : Def X.prog X.w X.K X.mg X.base x [] k 0 m) (tk : Takes X W) (hr : Room k' X.A) (hk : k ≤ k') (hg : Gl X x) (hdb : (x == ("__debug__" : Str)) = false := by decide) :
    XE X W (.Call (.Name x p) [] [] pos) (fCall m fNil) := by
  obtain ⟨fd, F, b, _⟩ := D.ex
  exact x_call0 tk F (hr.mono hk) hg D.gl D.kp b hdb
end
end Fb

/-! Fb.S: t.index(k), t a tuple of ints. -/
namespace Fb
open PySem PySem.Spec PyProof.Rows L2
section
variable {X : Cx} {W : WX}
def tupI : D → Option (List Int)
  | .tup ds => toInts ds
  | _ => none
def fIdxT (fo fa : Fe) : Fe := fun env st => (fo env st).bind fun o st => match tupI o with
  | none => .bad
  | some ns => (fa env st).bind fun d st => match d with
    | .int k => if k ∈ ns then .ok (.int (ns.idxOf k : Nat)) st else .bad
    | _ => .bad
/-- a tuple of ours stands in the heap, without a dict -/
theorem tup_stands {pins : List (Addr × Obj)} {σ : L2.St} {H : Hp} {s : Shared} {M : Mp} {a : Addr} {xs : List V} (I : Inv X pins σ H s) (t : TrT X.K M H a xs) : s.TypeIs (.ref a) "tuple" ∧ ∀ b, Value.ref a = .ref b → ∃ ob, s.heap.get? b = some ob ∧ ob.dict = none := by
  rcases t with ⟨o, hd, hH, _⟩ | ⟨⟨o, its, n, hk, hc, _⟩, o2, hk2, hd⟩
  · obtain ⟨g, _, _, _, o2, g2, hc, _⟩ := I.hok a _ hH
    rw [g] at g2
    cases g2
    exact ⟨⟨o, g, hc⟩, fun b e => by cases e; exact ⟨o, g, hd⟩⟩
  · rw [hk] at hk2
    cases hk2
    exact ⟨⟨o, I.kIn a o hk, hc⟩, fun b e => by cases e; exact ⟨o, I.kIn _ o hk, hd⟩⟩
theorem x_idxT {o e : Expr} {apos cpos : Pos} {fo fa : Fe} (ho : XE X W o fo) (ha : XA X W [e] (fCons fa fNil))
    (hbase : attributeBase o "index" X.env (eval o X.env) = eval o X.env := by rfl)
    (hfew : ((backTo cpos (starEach [e] X.env)).all (fun x => !x.1) && (backToKw cpos (keywordEach [] X.env)).all (fun x => x.1.isSome)
      && decide ([e].length + ([] : List Keyword).length + (if ([] : List Keyword).isEmpty then 0 else 1) < 30)) = true := by rfl)
    (hline : (apos.endLine == cpos.line) = true := by rfl) (hs : starEach [e] X.env = (false, eval e X.env) :: starEach [] X.env := by rfl) (hplain : (backTo cpos (starEach [] X.env)).any (·.1) = false := by rfl) :
    XE X W (.Call (.Attribute o "index" apos) [e] [] cpos) (fIdxT fo fa) := by
  refine ⟨fun pins s σ H Q I ⟨M, env, st, r, p⟩ => ?_⟩
  obtain ⟨QV, hQV⟩ : ∃ QV : VK, QV = fun w H2 => ∃ M1 d1 st1, RelH X.K X.mg M1 st1 H2 ∧ RelE X.K X.mg M1 env σ H2 ∧ RV X.K X.mg M1 H2 d1 w ∧ Post X.K X.mg (RV X.K X.mg) W M1 σ H2 (match tupI d1 with
      | none => .bad
      | some ns => (fa env st1).bind fun d st => match d with
        | .int k => if k ∈ ns then .ok (.int (ns.idxOf k : Nat)) st else .bad
        | _ => .bad) Q := ⟨_, rfl⟩
  have first : tF X.K X.mg W fo σ H QV := by
    refine ⟨M, env, st, r, Post.bind p fun M1 d1 st1 v1 H1 e1 x1 r1 q1 p1 => ?_⟩
    rw [hQV]
    exact ⟨M1, d1, st1, r1, r.e.mono x1, q1, p1⟩
  refine wpAny_Call_method_late hbase hfew hline rfl (thn (ho.run pins s σ H QV I first) fun v s1 z => ?_)
  rw [hQV] at z
  obtain ⟨w, H2, I2, rw2, M1, d1, st1, r1, re1, q1, p1⟩ := z
  cases q1 with
  | @tup a xs ds t rv =>
    cases hn : toInts ds with
    | none => simp only [tupI, hn] at p1; exact p1.elim
    | some ns =>
      simp only [tupI, hn] at p1
      cases rw2
      obtain ⟨h1, h2⟩ := tup_stands I2 t
      refine ⟨"tuple", "tuple.index", PySem.F.plainAttrs_tuple, PySem.F.slot_tuple_index, PySem.F.type_tuple_index, h1, h2, ?_⟩
      have args : tA X.K X.mg W (fCons fa fNil) σ H2 fun vs H3 => ∃ M3 k, RelH X.K X.mg M3 (match (fa env st1) with | .ok _ st => st | _ => st1) H3 ∧ vs = [V.int k] ∧ k ∈ ns ∧ TrT X.K M3 H3 a xs ∧ RVs X.K X.mg M3 H3 ds xs ∧ Q (.int (ns.idxOf k : Nat)) H3 := by
        refine ⟨M1, env, st1, ⟨r1, re1⟩, ?_⟩
        show Post X.K X.mg (RVs X.K X.mg) W M1 σ H2 ((fa env st1).bind fun d st => R.ok [d] st) _
        cases e : fa env st1 with
        | ok d st2 =>
          rw [e] at p1
          intro M3 vs H3 x3 r3 q3
          obtain ⟨v3, rfl, q4⟩ := q3.one
          cases d with
          | int k =>
            have p1' : Post X.K X.mg (RV X.K X.mg) W M1 σ H2 (if k ∈ ns then R.ok (D.int (ns.idxOf k : Nat)) st2 else .bad) Q := p1
            by_cases hk : k ∈ ns
            · rw [if_pos hk] at p1'
              cases q4
              exact ⟨M3, k, r3, rfl, hk, t.mono x3, rv.mono x3, p1' M3 _ H3 x3 r3 (.int _)⟩
            · rw [if_neg hk] at p1'
              exact p1'.elim
          | _ => exact (show False from p1).elim
        | exc y st2 => rw [e] at p1; exact p1
        | bad => rw [e] at p1; exact p1.elim
      have hA := ha.run cpos pins s1 σ H2 _ I2 args
      rw [hs] at hA ⊢
      refine Calls.callWith_builtin (by show (false || (backTo cpos (starEach [] X.env)).any (·.1)) = false; rw [hplain] <;> rfl) (Calls.evalArgs_plain ?_)
      refine thn hA fun us s2 ⟨vs, H3, I3, rvs, M3, k, r3, ev, hk, t3, rv3, q3⟩ => ?_
      subst ev
      obtain ⟨u, rfl, ru⟩ := Vals.one rvs
      obtain ⟨tk, rfl⟩ := ru
      obtain ⟨its, rr, pl, _⟩ := I3.tuple t3.sq
      have ex := toInts_ok rv3 hn
      subst ex
      exact PySem.SeqAt.tuple_index_ints (show s2.heap.IsTuple a its.toArray from pl) (by have := intsAre_of rr; simpa using this) hk ⟨.int _, H3, I3.tok _, ⟨_, rfl⟩, q3⟩
  | _ => exact p1.elim
@[simp] theorem e_idxT {fo fa : Fe} {env : Env} {st : Sto} : fIdxT fo fa env st = (fo env st).bind fun o st => match tupI o with
  | none => .bad
  | some ns => (fa env st).bind fun d st => match d with
    | .int k => if k ∈ ns then .ok (.int (ns.idxOf k : Nat)) st else .bad
    | _ => .bad := (rfl)
@[simp] theorem tupI_T {l : List Int} : tupI (T l) = some l := toInts_map l
/-- min of three ints -/
def min3 (i j k : Int) : Int := if k < (if j < i then j else i) then k else if j < i then j else i
def gMin3 (ds : List D) (_ : Sto) : Option D := match ds with
  | [.int i, .int j, .int k] => some (.int (min3 i j k))
  | _ => none
theorem b_min3 (hc : X.calm = true) : CallD X (.builtin "min") gMin3 := by
  intro pins s σ H vs us Q I rx h
  obtain ⟨M, st, ds, z, r, hd, hg, q⟩ := h
  unfold gMin3 at hg
  split at hg
  · rename_i i j k
    cases hg
    obtain ⟨v, u, w, rfl, a1, a2, a3⟩ := hd.three
    cases a1
    cases a2
    cases a3
    refine call_min3Nu hc pins s σ H _ us Q I rx ⟨_, _, _, _, rfl, ?_, fin_int r q (.int (min3 i j k))⟩
    have el : ∀ i j : Int, nuLt (.int i) (.int j) = some (decide (i < j)) := fun _ _ => rfl
    have e : nuMin3 (.int i) (.int j) (.int k) = some (.int (min3 i j k)) := by
      unfold min3
      by_cases h1 : j < i
      · by_cases h2 : k < j
        · simp [nuMin3, nuMin2, el, h1, h2]
        · simp [nuMin3, nuMin2, el, h1, h2]
      · by_cases h2 : k < i
        · simp [nuMin3, nuMin2, el, h1, h2]
        · simp [nuMin3, nuMin2, el, h1, h2]
    exact e
  · cases hg
@[simp] theorem e_min3 {i j k : Int} {st : Sto} : gMin3 [.int i, .int j, .int k] st = some (.int (min3 i j k)) := (rfl)
end
end Fb

/-! Fb.Z: zip and enumerate over lists and tuples. -/
namespace Fb
open PySem PySem.Spec PyProof.Rows L2
/-- a tuple (true) or a list (false) -/
def SqB (K : PySem.W.Frag) : Bool → Hp → Addr → List V → Prop
  | true => SqT K
  | false => SqL K
def SeqB : Bool → Heap → Addr → Array Value → Prop
  | true => fun h a xs => h.IsTuple a xs
  | false => fun h a xs => h.IsList a xs
def IterB : Bool → Heap → Addr → Addr → Nat → Prop
  | true => fun h it a i => h.IsTupleIter it a i
  | false => fun h it a i => h.IsListIter it a i
def itO (b : Bool) (a : Addr) : Obj := match b with
  | true => { cls := .type "tuple_iterator", data := .fields #[.ref a, .int 0 0] }
  | false => { cls := .type "list_iterator", data := .fields #[.ref a, .int 0 0] }
theorem begB (b : Bool) (a : Addr) (xs : Array Value) : PySem.Begins (.ref a) (itO b a) fun h => SeqB b h a xs := by
  cases b with
  | true => exact PySem.begins_tuple a xs
  | false => exact PySem.begins_list a xs
theorem drawB {prog : Program} {w : World} {A : Around} (hh : A.handled = none) (b : Bool) (it a : Addr) (hne : a ≠ it) (xs : Array Value) :
    Draws prog w A it [it, a] xs.size (fun i v => xs[i]? = some v) (fun i h => IterB b h it a i ∧ SeqB b h a xs) := by
  cases b with
  | true => exact PySem.Draws.tuple hh it a hne xs
  | false => exact Draws.list hh it a hne xs
theorem IterB.at {b : Bool} {h h' : Heap} {it a : Addr} {i : Nat} (x : IterB b h it a i) (k : ∀ o, h.get? it = some o → h'.get? it = some o) : IterB b h' it a i := by
  cases b with
  | true => exact Heap.IsTupleIter.at x k
  | false => exact Heap.IsListIter.at x k
theorem IterB.obj {b : Bool} {h : Heap} {it a : Addr} {i : Nat} (x : IterB b h it a i) : ∃ o, h.get? it = some o ∧ ∀ v, o.data ≠ .cell v := by
  cases b with
  | true =>
    obtain ⟨o, e, _, d⟩ := x
    exact ⟨o, e, fun v q => by rw [d] at q; cases q⟩
  | false =>
    obtain ⟨o, e, _, d⟩ := x
    exact ⟨o, e, fun v q => by rw [d] at q; cases q⟩
theorem IterB.new {b : Bool} {h : Heap} {it a : Addr} (e : h.get? it = some (itO b a)) : IterB b h it a 0 := by
  cases b with
  | true => exact ⟨_, e, rfl, rfl⟩
  | false => exact ⟨_, e, rfl, rfl⟩
section
variable {X : Cx} {pins : List (Addr × Obj)} {σ : L2.St} {H : Hp} {s : Shared}
theorem seqB_in {b : Bool} {a : Addr} {xs : List V} (I : Inv X pins σ H s) (h : SqB X.K b H a xs) : ∃ its : List Value, Vals xs its ∧ SeqB b s.heap a its.toArray ∧ a < s.heap.objs.size := by
  cases b with
  | true =>
    obtain ⟨its, r, p, _⟩ := I.tuple h
    obtain ⟨o, e, _⟩ := id p
    exact ⟨its, r, p, Heap.lt_size e⟩
  | false =>
    obtain ⟨its, r, p, _⟩ := I.list h
    exact ⟨its, r, p.isList, p.lt⟩
theorem seqB_inj {b : Bool} {a : Addr} {xs ys : List V} (I : Inv X pins σ H s) (h : SqB X.K b H a xs) (h' : SqB X.K b H a ys) : xs = ys := by
  cases b with
  | true => exact I.tuple_inj h h'
  | false => exact I.list_inj h h'
end
/-! ### zip -/
def ItzB (K : PySem.W.Frag) (p q : Bool) (a b : Addr) : It where
  go := fun i H => ∃ (xs ys : List V) (x y : V), SqB K p H a xs ∧ SqB K q H b ys ∧ xs[i]? = some x ∧ ys[i]? = some y
  yld := fun i H v H' => ∃ T its x y, v = .ref T ∧ H T = none ∧ H' = upd H T (.frz (tupO its) (.tup [x, y])) ∧ (∀ xs, SqB K p H a xs → xs[i]? = some x) ∧ ∀ ys, SqB K q H b ys → ys[i]? = some y
  stop := fun i H => ∃ xs ys : List V, SqB K p H a xs ∧ SqB K q H b ys ∧ i ≤ xs.length ∧ i ≤ ys.length ∧ (i = xs.length ∨ i = ys.length)
theorem turn_zipB {P : Program} {w : World} {K : PySem.W.Frag} {elts : List Expr} {kk : Nat} {tpos : Pos} {p q : Bool} {a b z TI TO i1 i2 : Addr} (D : PySem.ZipSep2 z TI TO i1 i2 [i1, a] [i2, b]) (na : a ≠ i1) (nb : b ≠ i2) :
    Turn P w K (.Tuple elts kk tpos) (ItzB K p q a b) [z, TI, TO, i1, i2] z (fun i h => IsZip h z TI TO .none ∧ PySem.IsTupOf2 h TI (.ref i1) (.ref i2) ∧ (∃ x y, PySem.IsTupOf2 h TO x y) ∧ IterB p h i1 a i ∧ IterB q h i2 b i) where
  mem := List.mem_cons_self
  obj := fun i h st c hc => by
    obtain ⟨tz, tI, ⟨x, y, tO⟩, j1, j2⟩ := st
    simp only [List.mem_cons, List.not_mem_nil, or_false] at hc
    rcases hc with e | e | e | e | e
    · rw [e]; exact ⟨_, tz, fun v u => nomatch u⟩
    · rw [e]; exact ⟨_, tI, fun v u => nomatch u⟩
    · rw [e]; exact ⟨_, tO, fun v u => nomatch u⟩
    · rw [e]; exact j1.obj
    · rw [e]; exact j2.obj
  keep := fun i h h' st k => by
    obtain ⟨tz, tI, ⟨x, y, tO⟩, j1, j2⟩ := st
    exact ⟨k z (by simp) _ tz, k TI (by simp) _ tI, ⟨x, y, k TO (by simp) _ tO⟩, j1.at fun o u => k i1 (by simp) o u, j2.at fun o u => k i2 (by simp) o u⟩
  item := by
    intro X hP hw hK hc i pins s σ H E I hf st hg
    subst hP hw hK
    obtain ⟨tz, tI, ⟨x0, y0, tO⟩, j1, j2⟩ := st
    obtain ⟨xs, ys, x, y, sa, sb, ex, ey⟩ := hg
    obtain ⟨ia, ra, pa, _⟩ := seqB_in I sa
    obtain ⟨ib, rb, pb, _⟩ := seqB_in I sb
    obtain ⟨u, eu, ru⟩ := ra.get ex
    obtain ⟨u', eu', ru'⟩ := rb.get ey
    have l1 : i < ia.toArray.size := by rw [List.size_toArray]; exact (List.getElem?_eq_some_iff.mp eu).1
    have l2 : i < ib.toArray.size := by rw [List.size_toArray]; exact (List.getElem?_eq_some_iff.mp eu').1
    have zl : z < s.heap.objs.size := Heap.lt_size tz
    refine PySem.wpAny_pyNext_zipD2_item D (drawB (prog := X.prog) (w := X.w) (A := X.A.in1) (show X.A.in1.handled = none from I.ok.hd hc) p i1 a na ia.toArray) (drawB (prog := X.prog) (w := X.w) (A := X.A.in1) (show X.A.in1.handled = none from I.ok.hd hc) q i2 b nb ib.toArray) tz tI tO ⟨j1, pa⟩ ⟨j2, pb⟩ l1 l2 fun v1 v2 h1 tk g1 g2 n1 n2 n3 n4 n5 n6 n7 => ?_
    have ev1 : v1 = u := by
      have : ia[i]? = some v1 := by simpa using g1
      rw [this] at eu
      exact Option.some.inj eu
    have ev2 : v2 = u' := by
      have : ib[i]? = some v2 := by simpa using g2
      rw [this] at eu'
      exact Option.some.inj eu'
    subst ev1 ev2
    refine ⟨_, rfl, wpAny_letOwnedTupleGo_zip (s := { s with heap := h1, toks := tk }) n1 fun h2 m1 m2 => ?_⟩
    have gT : h2.get? s.heap.objs.size = some (tupO [v1, v2]) := (m2.2 _ (Nat.ne_of_gt zl)).trans n5
    have okT : ObjOk X.prog X.w (upd H s.heap.objs.size (.frz (tupO [v1, v2]) (.tup [x, y]))) h2 s.heap.objs.size (.frz (tupO [v1, v2]) (.tup [x, y])) :=
      ⟨gT, (by show 2 ≤ sizeLine; decide), [v1, v2], .cons ru (.cons ru' .nil), ⟨_, gT, rfl, _, rfl⟩⟩
    have I2 : Inv X pins σ (upd H s.heap.objs.size (.frz (tupO [v1, v2]) (.tup [x, y]))) { s with heap := h2, toks := tk } :=
      I.turnedNew (t' := tk) (ch := [z, TI, TO, i1, i2]) (fun c o hcm e => (m2.2 c (fun y' => hcm (by simp [y']))).trans (n7 c o (fun y' => hcm (by simp [y'])) (fun y' => hcm (by simp [y'])) (fun y' => hcm (by simp [y'])) (fun y' => hcm (by simp [y'])) e)) hf (Nat.le_refl _) okT
    refine ⟨.ref s.heap.objs.size, _, I2, rfl, ⟨_, _, x, y, rfl, I.hok.fresh (Nat.le_refl _), rfl, fun l hl => by rw [seqB_inj I hl sa]; exact ex, fun l hl => by rw [seqB_inj I hl sb]; exact ey⟩, ⟨m1, ?_, ⟨v1, v2, ?_⟩, ?_, ?_⟩, fun c hcm => ?_⟩
    · exact (m2.2 _ D.TIz).trans (n7 _ _ D.TIz D.TITO D.TIi1 D.TIi2 tI)
    · exact (m2.2 _ D.TOz).trans n2
    · exact n3.1.at fun o e => (m2.2 _ (Ne.symm D.zi1)).trans e
    · exact n4.1.at fun o e => (m2.2 _ (Ne.symm D.zi2)).trans e
    · have lt : c < s.heap.objs.size := by
        simp only [List.mem_cons, List.not_mem_nil, or_false] at hcm
        rcases hcm with e | e | e | e | e
        · rw [e]; exact zl
        · rw [e]; exact Heap.lt_size tI
        · rw [e]; exact Heap.lt_size tO
        · rw [e]; obtain ⟨_, g, _⟩ := j1.obj; exact Heap.lt_size g
        · rw [e]; obtain ⟨_, g, _⟩ := j2.obj; exact Heap.lt_size g
      rw [upd_ne (Nat.ne_of_lt lt)]
      exact (hf c hcm).1
  done := by
    intro X hP hw hK hc i pins s σ H E I hf st hg
    subst hP hw hK
    obtain ⟨tz, tI, ⟨x0, y0, tO⟩, j1, j2⟩ := st
    obtain ⟨xs, ys, sa, sb, l1, l2, le⟩ := hg
    obtain ⟨ia, ra, pa, _⟩ := seqB_in I sa
    obtain ⟨ib, rb, pb, _⟩ := seqB_in I sb
    have e1 := ra.length
    have e2 := rb.length
    exact PySem.wpAny_pyNext_zipD2_end D (drawB (prog := X.prog) (w := X.w) (A := X.A.in1) (show X.A.in1.handled = none from I.ok.hd hc) p i1 a na ia.toArray) (drawB (prog := X.prog) (w := X.w) (A := X.A.in1) (show X.A.in1.handled = none from I.ok.hd hc) q i2 b nb ib.toArray) tz tI tO ⟨j1, pa⟩ ⟨j2, pb⟩ (by simp; omega) (by simp; omega) (by simp; omega) fun h1 tk n7 => ⟨rfl, I.turnedL (t' := tk) (ch := [z, TI, TO, i1, i2]) (fun c o hcm e =>
      n7 c o (fun y' => hcm (by simp [y'])) (fun y' => hcm (by simp [y'])) (fun y' => hcm (by simp [y'])) (fun y' => hcm (by simp [y'])) e) hf⟩
  self := fun A i s Q E st h => wpAny_pyIter_zip st.1 h
def iZipB (K : PySem.W.Frag) (ta : TA) : TI := fun σ H R => ta σ H fun vs H1 => ∃ p q a b xs ys, vs = [.ref a, .ref b] ∧ SqB K p H1 a xs ∧ SqB K q H1 b ys ∧ R (ItzB K p q a b) H1
theorem pi_zipB {X : Cx} {e e2 : Expr} {ta : TA} {p pos tpos : Pos} {elts : List Expr} {kk : Nat} (hg : Gl X "zip") (hm : X.mg "zip" = none) (ha : PA X [e, e2] ta)
    (hs : starEach [e, e2] X.env = (false, eval e X.env) :: starEach [e2] X.env := by rfl) (hpl : (backTo pos (starEach [e2] X.env)).any (·.1) = false := by rfl) :
    PI X (.Tuple elts kk tpos) (.Call (.Name "zip" p) [e, e2] [] pos) (iZipB X.K ta) := by
  refine ⟨fun pins s σ H R I h => ?_⟩
  refine Call_ (ld_blt I hg hm PyProof.Rows.boot_zip (PyProof.Rows.callWith_type1 (thn (ha.run pos pins s σ H _ I h) fun us s1 ⟨vs, H1, I1, rv, w⟩ => ?_) hs hpl))
  obtain ⟨k1, k2, a, b, xs, ys, ev, sa, sb, wR⟩ := w
  subst ev
  obtain ⟨u1, u2, rfl, r1, r2⟩ := vals2 rv
  cases r1
  cases r2
  obtain ⟨ia, ra, pa, la⟩ := seqB_in I1 sa
  obtain ⟨ib, rb, pb, lb⟩ := seqB_in I1 sb
  refine PySem.zip_begins2 (begB k1 a ia.toArray) (begB k2 b ib.toArray) pa pb fun h2 g1 g2 g3 g4 g5 g6 g7 => wpAny_pyIter_zip g1 ?_
  have I2 : Inv X pins σ H1 { s1 with heap := h2 } := I1.kept (t' := s1.toks) g7
  have sep := PySem.zip_sep2 (N := s1.heap.objs.size) (fp1 := [a]) (fp2 := [b]) (fun c hc => by rw [List.mem_singleton.mp hc]; exact la) (fun c hc => by rw [List.mem_singleton.mp hc]; exact lb)
  refine ⟨s1.heap.objs.size + 4, [s1.heap.objs.size + 4, s1.heap.objs.size + 2, s1.heap.objs.size + 3, s1.heap.objs.size, s1.heap.objs.size + 1], _, _, H1, rfl, I2, turn_zipB sep (Nat.ne_of_lt la) (Nat.ne_of_lt (Nat.lt_succ_of_lt lb)), ⟨g1, g2, ⟨_, _, g3⟩, .new g4, .new g5⟩, fun c hcm => ?_, wR⟩
  have le : s1.heap.objs.size ≤ c := by
    simp only [List.mem_cons, List.not_mem_nil, or_false] at hcm
    rcases hcm with e | e | e | e | e
    · rw [e]; exact Nat.le_add_right _ _
    · rw [e]; exact Nat.le_add_right _ _
    · rw [e]; exact Nat.le_add_right _ _
    · rw [e]; exact Nat.le_refl _
    · rw [e]; exact Nat.le_add_right _ _
  exact I1.fpOk le (I1.hok.fresh le)
/-- what zip walks -/
def zipD (xs ys : List D) : List D := List.zipWith (fun x y => D.tup [x, y]) xs ys
def zip2 : List D → Option Src
  | [.tup xs, .tup ys] => some (.fix (zipD xs ys))
  | [.lst xs, .tup ys] => some (.fix (zipD xs ys))
  | [.tup xs, .lst ys] => some (.fix (zipD xs ys))
  | [.lst xs, .lst ys] => some (.fix (zipD xs ys))
  | _ => none
def fZip (fa : Fa) : Fi := fun env st => (fa env st).bind fun ds st => match zip2 ds with
  | some S => .ok S st
  | none => .bad
/-- a list or a tuple of ours -/
inductive TrB (K : PySem.W.Frag) (M : Mp) (H : Hp) (a : Addr) (xs : List V) : Bool → Prop
  | tup : TrT K M H a xs → TrB K M H a xs true
  | lst : TrL M H a xs → TrB K M H a xs false
theorem TrB.monoW {K : PySem.W.Frag} {M M' : Mp} {H H' : Hp} {a : Addr} {xs : List V} {b : Bool} (x : ExtW M H M' H') (t : TrB K M H a xs b) : TrB K M' H' a xs b := by
  cases t with
  | tup t => exact .tup (t.monoW x)
  | lst t => exact .lst (t.monoW x)
theorem TrB.sq {K : PySem.W.Frag} {M : Mp} {H : Hp} {a : Addr} {xs : List V} {b : Bool} (t : TrB K M H a xs b) : SqB K b H a xs := by
  cases t with
  | tup t => exact t.sq
  | lst t => exact t.sq
theorem zipD_len (xs ys : List D) : (zipD xs ys).length = min xs.length ys.length := List.length_zipWith
theorem zipD_get {xs ys : List D} {i : Nat} {d : D} (h : (zipD xs ys)[i]? = some d) : ∃ x y, xs[i]? = some x ∧ ys[i]? = some y ∧ d = .tup [x, y] := by
  unfold zipD at h
  rw [List.getElem?_zipWith] at h
  cases e1 : xs[i]? with
  | none => rw [e1] at h; simp at h
  | some x =>
    cases e2 : ys[i]? with
    | none => rw [e1, e2] at h; simp at h
    | some y =>
      rw [e1, e2] at h
      simp at h
      exact ⟨x, y, rfl, rfl, h.symm⟩
theorem walk_zip {K : PySem.W.Frag} {mg : Str → Option Value} {M : Mp} {H : Hp} {a b : Addr} {xs ys : List V} {p q : Bool} {ds es : List D} (ta : TrB K M H a xs p) (tb : TrB K M H b ys q) (ra : RVs K mg M H ds xs) (rb : RVs K mg M H es ys) : Walk K mg (ItzB K p q a b) M H (.fix (zipD ds es)) where
  stop := fun M' H' st L i x rh e1 e2 e3 => by
    have e4 : i = (zipD ds es).length := e3
    rw [zipD_len] at e4
    have l1 := ra.length
    have l2 := rb.length
    exact ⟨xs, ys, (ta.monoW x).sq, (tb.monoW x).sq, by omega, by omega, by omega⟩
  go := fun M' H' st L i d x rh e1 e2 e3 => by
    cases e1
    obtain ⟨u, v, g1, g2, _⟩ := zipD_get e3
    obtain ⟨u', h1, _⟩ := ra.get g1
    obtain ⟨v', h2, _⟩ := rb.get g2
    exact ⟨xs, ys, u', v', (ta.monoW x).sq, (tb.monoW x).sq, h1, h2⟩
  yld := fun M' H' st L i d v H2 x rh e1 e2 e3 y => by
    cases e1
    obtain ⟨u, v2, g1, g2, rfl⟩ := zipD_get e3
    obtain ⟨T, its, x1, x2, rfl, hT, rfl, f1, f2⟩ := y
    obtain ⟨u', h1, r1⟩ := (ra.monoW x).get g1
    obtain ⟨v', h2, r2⟩ := (rb.monoW x).get g2
    rw [f1 xs (ta.monoW x).sq] at h1
    rw [f2 ys (tb.monoW x).sq] at h2
    cases h1
    cases h2
    exact ⟨Ext.new hT, rh.new hT, tup_new rh hT (.cons r1 (.cons r2 .nil))⟩
section
variable {X : Cx} {W : WX}
theorem i_zip {e e2 : Expr} {f : Fa} {p pos tpos : Pos} {elts : List Expr} {kk : Nat} (hg : Gl X "zip") (hm : X.mg "zip" = none) (ha : XA X W [e, e2] f)
    (hs : starEach [e, e2] X.env = (false, eval e X.env) :: starEach [e2] X.env := by rfl) (hpl : (backTo pos (starEach [e2] X.env)).any (·.1) = false := by rfl) : XI X W (.Tuple elts kk tpos) (.Call (.Name "zip" p) [e, e2] [] pos) (fZip f) :=
  (pi_zipB hg hm ha hs hpl).fb fun σ H R ⟨M, env, st, r, p⟩ => ⟨M, env, st, r, iD_bind p fun M1 ds st1 vs H1 _ x1 r1 q1 p1 => by
    cases e0 : zip2 ds with
    | none => rw [e0] at p1; exact p1.elim
    | some S =>
      rw [e0] at p1
      unfold zip2 at e0
      split at e0
      · cases e0
        obtain ⟨v, u, rfl, a1, a2⟩ := q1.two
        cases a1 with
        | tup t1 rv1 =>
          cases a2 with
          | tup t2 rv2 => exact ⟨true, true, _, _, _, _, rfl, t1.sq, t2.sq, p1 M1 H1 _ (Ext.refl _ _) r1 (walk_zip (.tup t1) (.tup t2) rv1 rv2)⟩
      · cases e0
        obtain ⟨v, u, rfl, a1, a2⟩ := q1.two
        cases a1 with
        | lst t1 rv1 =>
          cases a2 with
          | tup t2 rv2 => exact ⟨false, true, _, _, _, _, rfl, t1.sq, t2.sq, p1 M1 H1 _ (Ext.refl _ _) r1 (walk_zip (.lst t1) (.tup t2) rv1 rv2)⟩
      · cases e0
        obtain ⟨v, u, rfl, a1, a2⟩ := q1.two
        cases a1 with
        | tup t1 rv1 =>
          cases a2 with
          | lst t2 rv2 => exact ⟨true, false, _, _, _, _, rfl, t1.sq, t2.sq, p1 M1 H1 _ (Ext.refl _ _) r1 (walk_zip (.tup t1) (.lst t2) rv1 rv2)⟩
      · cases e0
        obtain ⟨v, u, rfl, a1, a2⟩ := q1.two
        cases a1 with
        | lst t1 rv1 =>
          cases a2 with
          | lst t2 rv2 => exact ⟨false, false, _, _, _, _, rfl, t1.sq, t2.sq, p1 M1 H1 _ (Ext.refl _ _) r1 (walk_zip (.lst t1) (.lst t2) rv1 rv2)⟩
      · cases e0⟩
@[simp] theorem e_zip {fa : Fa} {env : Env} {st : Sto} : fZip fa env st = (fa env st).bind fun ds st => match zip2 ds with
  | some S => .ok S st
  | none => .bad := (rfl)
@[simp] theorem e_zip1 {xs ys : List D} : zip2 [.tup xs, .tup ys] = some (.fix (zipD xs ys)) := (rfl)
@[simp] theorem e_zip2 {xs ys : List D} : zip2 [.lst xs, .tup ys] = some (.fix (zipD xs ys)) := (rfl)
@[simp] theorem e_zip3 {xs : List D} {l : List Int} : zip2 [.lst xs, T l] = some (.fix (zipD xs (l.map D.int))) := (rfl)
@[simp] theorem e_zipn1 {ys : List D} : zipD [] ys = [] := (rfl)
@[simp] theorem e_zipc {x y : D} {xs ys : List D} : zipD (x :: xs) (y :: ys) = D.tup [x, y] :: zipD xs ys := (rfl)
end
end Fb

/-! Fb.Y: enumerate over a list or a tuple. -/
namespace Fb
open PySem PySem.Spec PyProof.Rows L2
theorem meets_enumerate_new1 {v : Value} {o : Obj} {H : Heap → Prop} (B : Begins v o H) :
    Meets (Builtin.«enumerate.__new__» ⟨[.type "enumerate", v], []⟩) (fun _ R s => H s.heap ∧
      R (.ok (.ret (.ref (s.heap.push o).objs.size))) { s with heap := (s.heap.push o).push { cls := .type "enumerate", data := .fields #[.none, .bool false, .ref s.heap.objs.size, rawInt 0, .none, .none] } }) :=
  .of_wp fun prog w A R s h => by
    obtain ⟨hp, g, d, tk, os⟩ := s; obtain ⟨h1, h⟩ := h
    have hsub := sub_enumerate
    have q1 : ∀ {A' : Around} {E : Value → Shared → Prop} {Q : Value → Shared → Prop}, Q (.ref hp.objs.size) ⟨hp.push o, g, d, tk, os⟩ → wpAny (model prog w) A' (pyIter v) Q E ⟨hp, g, d, tk, os⟩ :=
      fun q => B.iter prog w _ _ ⟨hp, g, d, tk, os⟩ _ h1 q
    wp_walk using q1
    refine wpAny_stack_any fun st => wpAny_pure ?_
    split
    · rename_i c _ _ _ _ _
      cases (c == Value.type "enumerate")
      · wp_walk using q1
        exact ⟨_, rfl, h⟩
      · wp_walk using q1
        exact ⟨_, rfl, h⟩
    · wp_walk using q1
      exact ⟨_, rfl, h⟩
section
variable {prog : Program} {w : World} {A : Around} {E : Value → Shared → Prop} {s : Shared}
theorem enum_begins1 {v : Value} {o : Obj} {H : Heap → Prop} {Q : Value → Shared → Prop} (B : Begins v o H) (h1 : H s.heap)
    (h : ∀ h', IsEnum h' (s.heap.objs.size + 1) s.heap.objs.size 0 .none → h'.get? s.heap.objs.size = some o → h'.objs.size = s.heap.objs.size + 2 →
      (∀ b o, s.heap.get? b = some o → h'.get? b = some o) → Q (.ref (s.heap.objs.size + 1)) { s with heap := h' }) :
    wpAny (model prog w) A (call (.type "enumerate") [v]) Q E s := by
  refine callType_new F.called_enumerate (by decide) (F.typeCall_enumerate_1 _) (F.newCall_enumerate_1 _) (fun obj => F.args_object_init_2 obj _) F.entry_enumerate_new
    (meets_enumerate_new1 B) ⟨h1, ?_⟩
  have hz : (s.heap.push o).objs.size = s.heap.objs.size + 1 := Heap.size_push ..
  show _ ∧ _
  rw [hz]
  have he : IsEnum ((s.heap.push o).push { cls := .type "enumerate", data := .fields #[.none, .bool false, .ref s.heap.objs.size, rawInt 0, .none, .none] }) (s.heap.objs.size + 1) s.heap.objs.size 0 .none := by
    have := Heap.get?_push_size (s.heap.push o) (o := { cls := .type "enumerate", data := .fields #[.none, .bool false, .ref s.heap.objs.size, rawInt 0, .none, .none] }) rfl
    rw [hz] at this; exact this
  refine ⟨⟨_, he, rfl⟩, h _ he (Heap.get?_push_of_some _ (Heap.get?_push_size _ B.free)) (by rw [Heap.size_push, hz]) fun b o x => Heap.get?_push_of_some _ (Heap.get?_push_of_some _ x)⟩
end
def IteB (K : PySem.W.Frag) (p : Bool) (a : Addr) : It where
  go := fun i H => ∃ (xs : List V) (x : V), SqB K p H a xs ∧ xs[i]? = some x
  yld := fun i H v H' => ∃ T its x, v = .ref T ∧ H T = none ∧ H' = upd H T (.frz (tupO its) (.tup [.int (i : Nat), x])) ∧ ∀ xs, SqB K p H a xs → xs[i]? = some x
  stop := fun i H => ∃ xs : List V, SqB K p H a xs ∧ i = xs.length
theorem turn_enumB {P : Program} {w : World} {K : PySem.W.Frag} {elts : List Expr} {kk : Nat} {tpos : Pos} {p : Bool} {a e it : Addr} (hne : e ≠ it) (na : a ≠ it) (nae : a ≠ e) :
    Turn P w K (.Tuple elts kk tpos) (IteB K p a) [e, it] e (fun i h => (∃ old, IsEnum h e it ((i : Nat) : Int) old) ∧ IterB p h it a i) where
  mem := List.mem_cons_self
  obj := fun i h st c hc => by
    obtain ⟨⟨old, he⟩, j1⟩ := st
    simp only [List.mem_cons, List.not_mem_nil, or_false] at hc
    rcases hc with q | q
    · rw [q]; exact ⟨_, he, fun v u => nomatch u⟩
    · rw [q]; exact j1.obj
  keep := fun i h h' st k => by
    obtain ⟨⟨old, he⟩, j1⟩ := st
    exact ⟨⟨old, k e (by simp) _ he⟩, j1.at fun o u => k it (by simp) o u⟩
  item := by
    intro X hP hw hK hc i pins s σ H E I hf st hg
    subst hP hw hK
    obtain ⟨⟨old, he⟩, j1⟩ := st
    obtain ⟨xs, x, sa, ex⟩ := hg
    obtain ⟨ia, ra, pa, _⟩ := seqB_in I sa
    obtain ⟨u, eu, ru⟩ := ra.get ex
    have l1 : i < ia.toArray.size := by rw [List.size_toArray]; exact (List.getElem?_eq_some_iff.mp eu).1
    have hel : e < s.heap.objs.size := Heap.lt_size he
    have hil : it < s.heap.objs.size := by obtain ⟨_, g, _⟩ := j1.obj; exact Heap.lt_size g
    have hef : e ∉ [it, a] := by
      simp only [List.mem_cons, List.not_mem_nil, or_false, not_or]
      exact ⟨hne, fun q => nae q.symm⟩
    refine wpAny_pyNext_enum_itemD (drawB (prog := X.prog) (w := X.w) (A := X.A.in1) (show X.A.in1.handled = none from I.ok.hd hc) p it a na ia.toArray) he ⟨j1, pa⟩ l1 hne hef fun v1 h1 tk g1 ho st1 hT hsz hk => ?_
    have ev1 : v1 = u := by
      have : ia[i]? = some v1 := by simpa using g1
      rw [this] at eu
      exact Option.some.inj eu
    subst ev1
    refine ⟨_, rfl, wpAny_letOwnedTupleGo_enum (s := { s with heap := h1, toks := tk + 1 }) ho fun h2 he' sb => ?_⟩
    have gT : h2.get? s.heap.objs.size = some (tupO [.int i tk, v1]) := (sb.2 _ (Nat.ne_of_gt hel)).trans hT
    have okT : ObjOk X.prog X.w (upd H s.heap.objs.size (.frz (tupO [.int i tk, v1]) (.tup [.int (i : Nat), x]))) h2 s.heap.objs.size (.frz (tupO [.int i tk, v1]) (.tup [.int (i : Nat), x])) :=
      ⟨gT, (by show 2 ≤ sizeLine; decide), [.int i tk, v1], .cons ⟨_, rfl⟩ (.cons ru .nil), ⟨_, gT, rfl, _, rfl⟩⟩
    have I2 : Inv X pins σ (upd H s.heap.objs.size (.frz (tupO [.int i tk, v1]) (.tup [.int (i : Nat), x]))) { s with heap := h2, toks := tk + 1 } :=
      I.turnedNew (t' := tk + 1) (ch := [e, it]) (fun c o hcm q => (sb.2 c (fun y' => hcm (by simp [y']))).trans (hk c o (fun y' => hcm (by simp [y'])) (fun y' => hcm (by simp [y'])) q)) hf (Nat.le_refl _) okT
    refine ⟨.ref s.heap.objs.size, _, I2, rfl, ⟨_, _, x, rfl, I.hok.fresh (Nat.le_refl _), rfl, fun l hl => by rw [seqB_inj I hl sa]; exact ex⟩, ⟨⟨v1, ?_⟩, ?_⟩, fun c hcm => ?_⟩
    · have e1 : ((i + 1 : Nat) : Int) = (i : Int) + 1 := by omega
      rw [e1]; exact he'
    · exact st1.1.at fun o q => (sb.2 it (Ne.symm hne)).trans q
    · have lt : c < s.heap.objs.size := by
        simp only [List.mem_cons, List.not_mem_nil, or_false] at hcm
        rcases hcm with q | q
        · rw [q]; exact hel
        · rw [q]; exact hil
      rw [upd_ne (Nat.ne_of_lt lt)]
      exact (hf c hcm).1
  done := by
    intro X hP hw hK hc i pins s σ H E I hf st hg
    subst hP hw hK
    obtain ⟨⟨old, he⟩, j1⟩ := st
    obtain ⟨xs, sa, le⟩ := hg
    obtain ⟨ia, ra, pa, _⟩ := seqB_in I sa
    have e1 := ra.length
    have en : i = ia.toArray.size := by simp; omega
    subst en
    exact wpAny_pyNext_enum_endD (drawB (prog := X.prog) (w := X.w) (A := X.A.in1) (show X.A.in1.handled = none from I.ok.hd hc) p it a na ia.toArray) he ⟨j1, pa⟩ fun h1 eb => ⟨rfl, I.turnedL (t' := s.toks) (ch := [e, it]) (fun c o hcm q => eb c o (fun y' => hcm (by simp [y'])) q) hf⟩
  self := fun A i s Q E st h => let ⟨⟨_, he⟩, _⟩ := st; wpAny_pyIter_enum he h
def iEnumB (K : PySem.W.Frag) (ta : TA) : TI := fun σ H R => ta σ H fun vs H1 => ∃ p a xs, vs = [.ref a] ∧ SqB K p H1 a xs ∧ R (IteB K p a) H1
theorem pi_enumB {X : Cx} {e : Expr} {ta : TA} {p pos tpos : Pos} {elts : List Expr} {kk : Nat} (hg : Gl X "enumerate") (hm : X.mg "enumerate" = none) (ha : PA X [e] ta) (hs : starEach [e] X.env = [(false, eval e X.env)] := by rfl) :
    PI X (.Tuple elts kk tpos) (.Call (.Name "enumerate" p) [e] [] pos) (iEnumB X.K ta) := by
  refine ⟨fun pins s σ H R I h => ?_⟩
  refine Call_ (ld_blt I hg hm boot_enumerate (PyProof.Rows.callWith_type1 (thn (ha.run pos pins s σ H _ I h) fun us s1 ⟨vs, H1, I1, r1, q1⟩ => ?_) hs rfl))
  obtain ⟨k1, a, xs, ev, sa, wR⟩ := q1
  subst ev
  cases r1 with
  | cons r rr =>
    cases rr
    cases r
    obtain ⟨ia, ra, pa, la⟩ := seqB_in I1 sa
    refine enum_begins1 (begB k1 a ia.toArray) pa fun h2 g1 g2 hsz hk => wpAny_pyIter_enum g1 ?_
    have I2 : Inv X pins σ H1 { s1 with heap := h2 } := I1.kept (t' := s1.toks) hk
    refine ⟨s1.heap.objs.size + 1, [s1.heap.objs.size + 1, s1.heap.objs.size], _, _, H1, rfl, I2, turn_enumB (p := k1) (a := a) (Nat.succ_ne_self _) (Nat.ne_of_lt la) (Nat.ne_of_lt (Nat.lt_succ_of_lt la)), ⟨⟨.none, g1⟩, .new g2⟩, fun c hcm => ?_, wR⟩
    have le : s1.heap.objs.size ≤ c := by
      simp only [List.mem_cons, List.not_mem_nil, or_false] at hcm
      rcases hcm with q | q
      · rw [q]; exact Nat.le_add_right _ _
      · rw [q]; exact Nat.le_refl _
    exact I1.fpOk le (I1.hok.fresh le)
/-- what enumerate walks -/
def enuD (i : Nat) : List D → List D
  | [] => []
  | x :: xs => D.tup [.int (i : Nat), x] :: enuD (i + 1) xs
def enu1 : List D → Option Src
  | [.tup xs] => some (.fix (enuD 0 xs))
  | [.lst xs] => some (.fix (enuD 0 xs))
  | _ => none
def fEnum (fa : Fa) : Fi := fun env st => (fa env st).bind fun ds st => match enu1 ds with
  | some S => .ok S st
  | none => .bad
theorem enuD_len : ∀ (xs : List D) (k : Nat), (enuD k xs).length = xs.length
  | [], _ => rfl
  | x :: xs, k => by rw [enuD, List.length_cons, List.length_cons, enuD_len xs]
theorem enuD_get : ∀ (xs : List D) (k i : Nat) (d : D), (enuD k xs)[i]? = some d → ∃ x, xs[i]? = some x ∧ d = .tup [.int ((k + i : Nat) : Int), x]
  | [], k, i, d, h => by cases h
  | x :: xs, k, 0, d, h => ⟨x, rfl, by rw [enuD] at h; simp at h; rw [← h]; rfl⟩
  | x :: xs, k, i + 1, d, h => by
    rw [enuD, List.getElem?_cons_succ] at h
    obtain ⟨y, e1, e2⟩ := enuD_get xs (k + 1) i d h
    exact ⟨y, by rw [List.getElem?_cons_succ]; exact e1, by rw [e2]; congr 3; congr 1; omega⟩
theorem walk_enum {K : PySem.W.Frag} {mg : Str → Option Value} {M : Mp} {H : Hp} {a : Addr} {xs : List V} {p : Bool} {ds : List D} (ta : TrB K M H a xs p) (ra : RVs K mg M H ds xs) : Walk K mg (IteB K p a) M H (.fix (enuD 0 ds)) where
  stop := fun M' H' st L i x rh e1 e2 e3 => by
    have e4 : i = (enuD 0 ds).length := e3
    rw [enuD_len] at e4
    have l1 := ra.length
    exact ⟨xs, (ta.monoW x).sq, by omega⟩
  go := fun M' H' st L i d x rh e1 e2 e3 => by
    cases e1
    obtain ⟨u, g1, _⟩ := enuD_get _ _ _ _ e3
    obtain ⟨u', h1, _⟩ := ra.get g1
    exact ⟨xs, u', (ta.monoW x).sq, h1⟩
  yld := fun M' H' st L i d v H2 x rh e1 e2 e3 y => by
    cases e1
    obtain ⟨u, g1, rfl⟩ := enuD_get _ _ _ _ e3
    obtain ⟨T, its, x1, rfl, hT, rfl, f1⟩ := y
    obtain ⟨u', h1, r1⟩ := (ra.monoW x).get g1
    rw [f1 xs (ta.monoW x).sq] at h1
    cases h1
    exact ⟨Ext.new hT, rh.new hT, tup_new rh hT (.cons (by rw [Nat.zero_add]; exact .int _) (.cons r1 .nil))⟩
section
variable {X : Cx} {W : WX}
theorem i_enum {e : Expr} {f : Fa} {p pos tpos : Pos} {elts : List Expr} {kk : Nat} (hg : Gl X "enumerate") (hm : X.mg "enumerate" = none) (ha : XA X W [e] f)
    (hs : starEach [e] X.env = [(false, eval e X.env)] := by rfl) : XI X W (.Tuple elts kk tpos) (.Call (.Name "enumerate" p) [e] [] pos) (fEnum f) :=
  (pi_enumB hg hm ha hs).fb fun σ H R ⟨M, env, st, r, p⟩ => ⟨M, env, st, r, iD_bind p fun M1 ds st1 vs H1 _ x1 r1 q1 p1 => by
    cases e0 : enu1 ds with
    | none => rw [e0] at p1; exact p1.elim
    | some S =>
      rw [e0] at p1
      unfold enu1 at e0
      split at e0
      · cases e0
        cases q1 with
        | cons a1 a2 =>
          cases a2
          cases a1 with
          | tup t1 rv1 => exact ⟨true, _, _, rfl, t1.sq, p1 M1 H1 _ (Ext.refl _ _) r1 (walk_enum (.tup t1) rv1)⟩
      · cases e0
        cases q1 with
        | cons a1 a2 =>
          cases a2
          cases a1 with
          | lst t1 rv1 => exact ⟨false, _, _, rfl, t1.sq, p1 M1 H1 _ (Ext.refl _ _) r1 (walk_enum (.lst t1) rv1)⟩
      · cases e0⟩
@[simp] theorem e_enum {fa : Fa} {env : Env} {st : Sto} : fEnum fa env st = (fa env st).bind fun ds st => match enu1 ds with
  | some S => .ok S st
  | none => .bad := (rfl)
@[simp] theorem e_enu1 {xs : List D} : enu1 [.tup xs] = some (.fix (enuD 0 xs)) := (rfl)
@[simp] theorem e_enu2 {xs : List D} : enu1 [.lst xs] = some (.fix (enuD 0 xs)) := (rfl)
@[simp] theorem e_enu3 {l : List Int} : enu1 [T l] = some (.fix (enuD 0 (l.map D.int))) := (rfl)
@[simp] theorem e_enun {k : Nat} : enuD k [] = [] := (rfl)
@[simp] theorem e_enuc {x : D} {xs : List D} {k : Nat} : enuD k (x :: xs) = D.tup [.int (k : Nat), x] :: enuD (k + 1) xs := (rfl)
end
end Fb

/-! Fb.W: dict displays with text keys as cells, d[k]. -/
namespace Fb
open PySem PySem.Spec PyProof.Rows L2
variable {X : Cx} {W : WX}
/-! ### what a display holds -/
theorem mergeK_app : ∀ (more acc : List (Key × V)), (∀ kv ∈ more, valV acc kv.1 = none) → (more.map (·.1)).Nodup → mergeK acc more = acc ++ more
  | [], acc, _, _ => by show acc = acc ++ []; simp
  | p :: r, acc, h, n => by
    have n' : p.1 ∉ r.map (·.1) ∧ (r.map (·.1)).Nodup := by
      rw [List.map_cons, List.nodup_cons] at n
      exact n
    show mergeK (putK acc p.1 p.2) r = acc ++ p :: r
    have h0 := h p List.mem_cons_self
    rw [putK_new p.2 h0, mergeK_app r (acc ++ [(p.1, p.2)]) (fun kv hk => ?_) n'.2]
    · simp
    · rw [valV_snoc _ _ _ _ h0, if_neg (fun e => n'.1 (by rw [← e]; exact List.mem_map_of_mem hk))]
      exact h kv (List.mem_cons_of_mem _ hk)
theorem mergeK_nil {more : List (Key × V)} (n : (more.map (·.1)).Nodup) : mergeK [] more = more := mergeK_app more [] (fun _ _ => rfl) n
def keyD (ks : List Str) (ds : List D) : List (Key × D) := List.zipWith (fun k d => (Sum.inr k, d)) ks ds
def keyV (ks : List Str) (vs : List V) : List (Key × V) := List.zipWith (fun k d => (Sum.inr k, d)) ks vs
def strV (ks : List Str) (vs : List V) : List (V × V) := List.zipWith (fun k d => (V.str k, d)) ks vs
theorem strV_key : ∀ (ks : List Str) (vs : List V), strV ks vs = (keyV ks vs).map fun kv => (kV kv.1, kv.2)
  | [], vs => rfl
  | k :: ks, [] => rfl
  | k :: ks, v :: vs => by
    show (V.str k, v) :: strV ks vs = (kV (Sum.inr k), v) :: (keyV ks vs).map fun kv => (kV kv.1, kv.2)
    rw [strV_key ks vs]
    rfl
theorem keyV_mem : ∀ (ks : List Str) (vs : List V) (k : Key), k ∈ (keyV ks vs).map (·.1) → ∃ s ∈ ks, k = Sum.inr s
  | [], vs, k, h => by cases h
  | x :: ks, [], k, h => by cases h
  | x :: ks, v :: vs, k, h => by
    rcases List.mem_cons.mp h with e | e
    · exact ⟨x, List.mem_cons_self, e⟩
    · obtain ⟨s, hs, es⟩ := keyV_mem ks vs k e
      exact ⟨s, List.mem_cons_of_mem _ hs, es⟩
theorem keyV_nd : ∀ (ks : List Str) (vs : List V), ks.Nodup → ((keyV ks vs).map (·.1)).Nodup
  | [], vs, _ => List.nodup_nil
  | x :: ks, [], _ => List.nodup_nil
  | x :: ks, v :: vs, h => by
    rw [List.nodup_cons] at h
    show (Sum.inr x :: (keyV ks vs).map (·.1)).Nodup
    rw [List.nodup_cons]
    refine ⟨fun hm => ?_, keyV_nd ks vs h.2⟩
    obtain ⟨s, hs, es⟩ := keyV_mem ks vs _ hm
    cases es
    exact h.1 hs
theorem keyV_len (ks : List Str) (vs : List V) : (keyV ks vs).length ≤ ks.length := by
  unfold keyV
  rw [List.length_zipWith]
  omega
theorem rfs_key {K : PySem.W.Frag} {mg : Str → Option Value} {M : Mp} {H : Hp} : ∀ (ks : List Str) {ds : List D} {vs : List V}, RVs K mg M H ds vs → RFs K mg M H (keyD ks ds) (keyV ks vs)
  | [], _, _, _ => .nil
  | k :: ks, _, _, .nil => .nil
  | k :: ks, _, _, .cons h r => .cons h (rfs_key ks r)
theorem rfs_find {K : PySem.W.Frag} {mg : Str → Option Value} {M : Mp} {H : Hp} {fs : List (Key × D)} {gs : List (Key × V)} (h : RFs K mg M H fs gs) (k : Key) {d : D} (e : (fs.find? fun kv => decide (kv.1 = k)).map (·.2) = some d) : ∃ v, valV gs k = some v ∧ RV K mg M H d v := by
  induction h with
  | nil => cases e
  | @cons x d0 v0 fs gs r0 t ih =>
    by_cases z : x = k
    · rw [List.find?_cons, decide_eq_true z] at e
      cases e
      exact ⟨v0, valV_pos (p := (x, v0)) z, r0⟩
    · rw [List.find?_cons, decide_eq_false z] at e
      obtain ⟨v, e1, e2⟩ := ih e
      exact ⟨v, by rw [valV_neg (p := (x, v0)) z]; exact e1, e2⟩
/-! ### displays -/
/-- {k: v, ..}: a new cell, there empty while the values are made -/
def fDct (ks : List Str) (fa : Fa) : Fe := fun env st => (fa env (st ++ [.dct []])).bind fun ds st2 => match st2[st.length]? with
  | some (.dct []) => .ok (.ref st.length) (st2.set st.length (.dct (keyD ks ds)))
  | _ => .bad
def XPs (X : Cx) (W : WX) (pos : Pos) (keys : List (Option Expr)) (values : List Expr) (ks : List Str) (fa : Fa) : Prop :=
  ∃ trs, PPs X pos keys values trs ∧ ∀ σ H (R : List (V × V) → Hp → Prop), (tA X.K X.mg W fa σ H fun vs H' => R (strV ks vs) H') → tPairs trs σ H R
theorem d_nil {pos : Pos} : XPs X W pos [] [] [] fNil := ⟨[], pps_nil, fun σ H R ⟨M, env, st, r, p⟩ => p M [] H (Ext.refl _ _) r.h .nil⟩
theorem d_cons {pos kpos : Pos} {s : Str} {j : Nat} {v : Expr} {keys : List (Option Expr)} {values : List Expr} {ks : List Str} {f : Fe} {g : Fa} (h : XE X W v f) (r : XPs X W pos keys values ks g) :
    XPs X W pos (some (.Constant (.str s) j kpos) :: keys) (v :: values) (s :: ks) (fCons f g) := by
  obtain ⟨trs, h1, h2⟩ := r
  refine ⟨_, pps_cons (x_str (W := W)) h h1, fun σ H R ⟨M, env, st, r, p⟩ => ⟨M, env, st, r, fun M1 v1 H1 x1 r1 q1 => ?_⟩⟩
  cases q1 with
  | str s' =>
    exact ⟨M1, env, st, r.mono x1 r1, Post.bind (Post.mono p x1) fun M2 d2 st2 v2 H2 _ x2 r2 q2 p2 => h2 σ H2 _ ⟨M2, env, st2, (r.mono x1 r1).mono x2 r2, Post.bind p2 fun M3 ds st3 vs H3 _ x3 r3 q3 p3 => p3 M3 _ H3 (Ext.refl _ _) r3 (.cons (q2.mono x3) q3)⟩⟩
theorem x_dct {pos : Pos} {keys : List (Option Expr)} {values : List Expr} {ks : List Str} {fa : Fa} (h : XPs X W pos keys values ks fa) (nd : ks.Nodup := by decide) (hk : ks.length ≤ 15 := by decide) (hall : keys.all (·.isSome) = true := by rfl) (hl : keys.length = values.length := by rfl) (h0 : keys ≠ [] := by exact fun e => nomatch e)
    (h15 : keys.length ≤ 15 := by decide) : XE X W (.Dict keys values pos) (fDct ks fa) := by
  obtain ⟨trs, h1, h2⟩ := h
  refine (pe_disp h1 hall hl h0 h15).fb fun σ H Q ⟨M, env, st, r, p⟩ pp np => h2 σ _ _ ⟨M.push pp, env, st ++ [.dct []], r.mono (Ext.push np) (r.h.push (c := .dct []) np ⟨[], upd_same, .nil⟩), Post.bind (Post.mono p (Ext.push np)) fun M1 ds st1 vs H1 e1 x1 r1 q1 p1 => ?_⟩
  cases hc : st1[st.length]? with
  | none => rw [hc] at p1; exact p1.elim
  | some c =>
    rw [hc] at p1
    have hm : M1.c[st.length]? = some pp := x1.get (push_get r.h.len)
    match c, hc, p1 with
    | .lst _, hc, p1 => exact p1.elim
    | .ins _ _, hc, p1 => exact p1.elim
    | .dct (_ :: _), hc, p1 => exact p1.elim
    | .dct [], hc, p1 =>
      obtain ⟨ws, a1, a2⟩ := r1.cell _ _ pp hc hm
      cases a2
      refine ⟨a1, keyV ks vs, strV_key ks vs, Nat.le_trans (keyV_len ks vs) hk, ?_⟩
      rw [mergeK_nil (keyV_nd ks vs nd)]
      exact p1 M1 _ _ (Ext.wr r1 hm) (r1.wr hm ⟨_, upd_same, rfs_key ks (q1.mono (Ext.wr r1 hm))⟩) (.ref hm)
theorem hu1 {A : Around} (h : A.units + 100 < cLine) : A.units + 1 < cLine := by omega
/-! ### d[k] -/
def getD (d e : D) (st : Sto) : Option D := match d, e with
  | .ref k, .str s => match st[k]? with
    | some (.dct kvs) => (kvs.find? fun kv => decide (kv.1 = Sum.inr s)).map (·.2)
    | _ => none
  | _, _ => none
theorem x_get {o i : Expr} {pos : Pos} {f g : Fe} (hu : X.A.units + 1 < cLine) (ho : XE X W o f) (hi : XE X W i g) (hs : NoSl i := by intro _ _; rfl) : XE X W (.Subscript o i pos) (fBin getD f g) :=
  (pe_dget hu ho hi hs).fb fun σ H Q ⟨M, env, st, r, p⟩ => by
    refine ⟨M, env, st, r, Post.bind p fun M1 d1 st1 v1 H1 _ x1 r1 q1 p1 => ?_⟩
    refine ⟨M1, env, st1, r.mono x1 r1, Post.bind p1 fun M2 d2 st2 v2 H2 _ x2 r2 q2 p2 => ?_⟩
    cases e : getD d1 d2 st2 with
    | none => rw [e] at p2; exact p2.elim
    | some z =>
      rw [e] at p2
      unfold getD at e
      split at e
      · rename_i k s _ _
        split at e
        · rename_i kvs hc
          cases q2
          have q1' := q1.mono x2
          cases q1' with
          | ref hm =>
            obtain ⟨ws, a1, a2⟩ := r2.cell _ _ _ hc hm
            obtain ⟨v, e1, e2⟩ := rfs_find a2 _ e
            exact ⟨_, v, rfl, .inl ⟨ws, Sum.inr s, .inl a1, rfl, e1.symm⟩, p2 M2 v H2 (Ext.refl _ _) r2 e2⟩
        · cases e
      · cases e
@[simp] theorem e_dct {ks : List Str} {fa : Fa} {env : Env} {st : Sto} : fDct ks fa env st = (fa env (st ++ [.dct []])).bind fun ds st2 => match st2[st.length]? with
  | some (.dct []) => .ok (.ref st.length) (st2.set st.length (.dct (keyD ks ds)))
  | _ => .bad := (rfl)
end Fb

/-! Fb.T: list(range(a)), list(range(a, b)). -/
namespace Fb
open PySem PySem.Spec PyProof.Rows L2
variable {X : Cx} {W : WX}
theorem rgV_eq (a b : Int) : rgV a b = (((List.range (b - a).toNat).map fun i : Nat => a + (i : Int)).map V.int) := by
  unfold rgV
  rw [List.map_map]
  rfl
theorem rangeD_int (a : Int) (n : Nat) : rangeD a n = (((List.range n).map fun i : Nat => a + (i : Int)).map D.int) := by
  unfold rangeD
  rw [List.map_map]
  rfl
/-- list(range(a, b)), a and b told by the text -/
theorem x_listRg1 {p q pos rpos cpos : Pos} {b : Int} {j : Nat} (hc : X.calm = true) (hg : Gl X "list") (hm : X.mg "list" = none) (hg2 : Gl X "range") (hm2 : X.mg "range" = none) (hb : RgOk 0 b := by unfold RgOk; decide)
    (na : starEach [.Constant (.int b) j cpos] X.env = (false, eval (.Constant (.int b) j cpos) X.env) :: starEach [] X.env := by rfl)
    (nb : starEach [.Call (.Name "range" q) [.Constant (.int b) j cpos] [] rpos] X.env = (false, eval (.Call (.Name "range" q) [.Constant (.int b) j cpos] [] rpos) X.env) :: starEach [] X.env := by rfl) :
    XE X W (.Call (.Name "list" p) [.Call (.Name "range" q) [.Constant (.int b) j cpos] [] rpos] [] pos) (fC (.lst (rangeD 0 b.toNat))) :=
  (pe_listRg hc hg hm (prg_1 hg2 hm2 (pe_int (i := b) (j := j) (pos := cpos)) na) nb).fb fun σ H Q ⟨M, env, st, r, p⟩ => ⟨b, rfl, hb, fun pp np => by
    have e : rgV 0 b = ((List.range b.toNat).map fun i : Nat => (0 : Int) + (i : Int)).map V.int := by rw [rgV_eq, Int.sub_zero]
    rw [e]
    refine p M _ _ (Ext.new np) (r.h.new np) (.lst ⟨.inl upd_same, r.h.fresh np⟩ ?_)
    rw [rangeD_int]
    exact rvs_ints _⟩
theorem x_listRg2 {p q pos rpos cpos cpos2 : Pos} {a b : Int} {j j2 : Nat} (hc : X.calm = true) (hg : Gl X "list") (hm : X.mg "list" = none) (hg2 : Gl X "range") (hm2 : X.mg "range" = none) (hb : RgOk a b := by unfold RgOk; decide)
    (na : starEach [.Constant (.int a) j cpos, .Constant (.int b) j2 cpos2] X.env = (false, eval (.Constant (.int a) j cpos) X.env) :: starEach [.Constant (.int b) j2 cpos2] X.env := by rfl)
    (nc : starEach [.Constant (.int b) j2 cpos2] X.env = (false, eval (.Constant (.int b) j2 cpos2) X.env) :: starEach [] X.env := by rfl) (hp : (backTo rpos (starEach [.Constant (.int b) j2 cpos2] X.env)).any (·.1) = false := by rfl)
    (nb : starEach [.Call (.Name "range" q) [.Constant (.int a) j cpos, .Constant (.int b) j2 cpos2] [] rpos] X.env = (false, eval (.Call (.Name "range" q) [.Constant (.int a) j cpos, .Constant (.int b) j2 cpos2] [] rpos) X.env) :: starEach [] X.env := by rfl) :
    XE X W (.Call (.Name "list" p) [.Call (.Name "range" q) [.Constant (.int a) j cpos, .Constant (.int b) j2 cpos2] [] rpos] [] pos) (fC (.lst (rangeD a (b - a).toNat))) :=
  (pe_listRg hc hg hm (prg_2 hg2 hm2 (pe_int (i := a) (j := j) (pos := cpos)) (pe_int (i := b) (j := j2) (pos := cpos2)) na nc hp) nb).fb fun σ H Q ⟨M, env, st, r, p⟩ => ⟨a, b, rfl, rfl, hb, fun pp np => by
    rw [rgV_eq]
    refine p M _ _ (Ext.new np) (r.h.new np) (.lst ⟨.inl upd_same, r.h.fresh np⟩ ?_)
    rw [rangeD_int]
    exact rvs_ints _⟩
end Fb

/-! Fb.K: instances of an own class as cells: attributes, methods, making. -/
namespace Fb
open PySem PySem.Spec PyProof.Rows L2
structure ClsF (K : PySem.W.Frag) (mg : Str → Option Value) (x : Str) : Prop where
  gl : mg x = some (.ref (ga K x))
  ok : Cls K (ga K x)
section
variable {K : PySem.W.Frag} {mg : Str → Option Value} {M : Mp} {H : Hp}
theorem look_cons {α : Type} (f x : Str) (d : α) (r : List (Str × α)) : List.lookup f ((x, d) :: r) = if f = x then some d else List.lookup f r := by
  rw [List.lookup_cons]
  by_cases h : f = x
  · rw [if_pos h, beq_iff_eq.mpr h]
  · rw [if_neg h, beq_eq_false_iff_ne.mpr h]
theorem rfs_look {fs : List (Str × D)} {gs : List (Str × V)} (h : RFs K mg M H fs gs) (f : Str) {d : D} (e : fs.lookup f = some d) : ∃ v, gs.lookup f = some v ∧ RV K mg M H d v := by
  induction h with
  | nil => cases e
  | @cons x d0 v0 fs gs r0 t ih =>
    rw [look_cons] at e ⊢
    by_cases z : f = x
    · rw [if_pos z] at e ⊢
      cases e
      exact ⟨v0, rfl, r0⟩
    · rw [if_neg z] at e ⊢
      exact ih e
theorem rfs_none {fs : List (Str × D)} {gs : List (Str × V)} (h : RFs K mg M H fs gs) (f : Str) (e : fs.lookup f = none) : gs.lookup f = none := by
  induction h with
  | nil => rfl
  | @cons x d0 v0 fs gs r0 t ih =>
    rw [look_cons] at e ⊢
    by_cases z : f = x
    · rw [if_pos z] at e; cases e
    · rw [if_neg z] at e ⊢
      exact ih e
def putG (f : Str) (v : D) : List (Str × D) → List (Str × D)
  | [] => [(f, v)]
  | (g, x) :: r => if g = f then (g, v) :: r else (g, x) :: putG f v r
theorem rfs_put {fs : List (Str × D)} {gs : List (Str × V)} (h : RFs K mg M H fs gs) (f : Str) {d : D} {v : V} (r : RV K mg M H d v) : RFs K mg M H (putG f d fs) (putF f v gs) := by
  induction h with
  | nil => exact .cons r .nil
  | @cons x d0 v0 fs gs r0 t ih =>
    unfold putG putF
    by_cases z : x = f
    · rw [if_pos z, if_pos z]; exact .cons r t
    · rw [if_neg z, if_neg z]; exact .cons r0 ih
theorem rfs_len {fs : List (Str × D)} {gs : List (Str × V)} (h : RFs K mg M H fs gs) : fs.length = gs.length := by
  induction h with
  | nil => rfl
  | cons _ _ ih => rw [List.length_cons, List.length_cons, ih]
end
section
variable {X : Cx} {W : WX}
/-- the attributes of an instance of the class -/
def insOf (c : Str) (d : D) (st : Sto) : Option (Nat × List (Str × D)) := match d with
  | .ref k => match st[k]? with
    | some (.ins c' fs) => if c' = c then some (k, fs) else none
    | _ => none
  | _ => none
theorem insOf_ok {K : PySem.W.Frag} {mg : Str → Option Value} {M : Mp} {st : Sto} {H : Hp} {c : Str} {d : D} {v : V} {k : Nat} {fs : List (Str × D)} (F : ClsF K mg c) (r : RelH K mg M st H) (h : RV K mg M H d v) (e : insOf c d st = some (k, fs)) :
    ∃ a dx gs, d = .ref k ∧ v = .ref a ∧ M.c[k]? = some a ∧ H a = some (.ins (ga K c) dx gs) ∧ RFs K mg M H fs gs := by
  unfold insOf at e
  split at e
  · rename_i k'
    split at e
    · rename_i c' fs' hc
      split at e
      · rename_i hcc
        cases e
        subst hcc
        cases h with
        | ref hm =>
          obtain ⟨C, dx, gs, m, q, rf⟩ := r.cell _ _ _ hc hm
          rw [F.gl] at m
          cases m
          exact ⟨_, dx, gs, rfl, rfl, hm, q, rf⟩
      · cases e
    · cases e
  · cases e
/-- o.f -/
def fFld (c f : Str) (fo : Fe) : Fe := fun env st => (fo env st).bind fun d st => match insOf c d st with
  | some (_, fs) => match fs.lookup f with
    | some z => .ok z st
    | none => .bad
  | none => .bad
theorem x_fld {o : Expr} {c f : Str} {pos : Pos} {fo : Fe} (ho : XE X W o fo) (F : ClsF X.K X.mg c) (na : NoAttr X.K (ga X.K c) f) (hb : attributeBase o f X.env (eval o X.env) = eval o X.env := by rfl) : XE X W (.Attribute o f pos) (fFld c f fo) :=
  (pe_fld ho hb).fb fun σ H Q ⟨M, env, st, r, p⟩ => ⟨M, env, st, r, Post.bind p fun M1 d1 st1 v1 H1 _ x1 r1 q1 p1 => by
    cases e : insOf c d1 st1 with
    | none => rw [e] at p1; exact p1.elim
    | some kf =>
      obtain ⟨k, fs⟩ := kf
      rw [e] at p1
      cases e2 : fs.lookup f with
      | none =>
        have p1' : Post X.K X.mg (RV X.K X.mg) W M1 σ H1 (match fs.lookup f with | some z => .ok z st1 | none => .bad) Q := p1
        rw [e2] at p1'
        exact p1'.elim
      | some z =>
        have p1' : Post X.K X.mg (RV X.K X.mg) W M1 σ H1 (match fs.lookup f with | some z => .ok z st1 | none => .bad) Q := p1
        rw [e2] at p1'
        obtain ⟨a, dx, gs, rfl, rfl, hm, q, rf⟩ := insOf_ok F r1 q1 e
        obtain ⟨v, l, rv⟩ := rfs_look rf f e2
        exact ⟨a, _, dx, gs, v, rfl, q, F.ok, na, l, p1' M1 v H1 (Ext.refl _ _) r1 rv⟩⟩
/-- o.f = v -/
def sFldP (c f : Str) (fo fv : Fe) : Fs := fun env st => RS.of (fv env st) env fun v st => RS.of (fo env st) env fun o st => match insOf c o st with
  | some (k, fs) => if fs.length < 1000 then .nx env (st.set k (.ins c (putG f v fs))) else .bad
  | none => .bad
theorem s_fld {o e : Expr} {c f : Str} {pos' pos : Pos} {fo fv : Fe} (ho : XE X W o fo) (he : XE X W e fv) (F : ClsF X.K X.mg c) (na : NoAttr X.K (ga X.K c) f)
    (hs : swapsWith e (some (.Attribute o f pos')) pos.line X.env = pure false := by rfl) : XS X W (.Assign [.Attribute o f pos'] e pos) (sFldP c f fo fv) :=
  (ps_fld ho he hs).fb fun Q σ H ⟨M, env, st, r, p⟩ => ⟨M, env, st, r, PostS.of r p fun M1 v st1 vv H1 _ x1 r1 q1 p1 =>
    ⟨M1, env, st1, r.mono x1 r1, PostS.of (r.mono x1 r1) p1 fun M2 d2 st2 v2 H2 _ x2 r2 q2 p2 => by
      have rr2 := (r.mono x1 r1).mono x2 r2
      cases e : insOf c d2 st2 with
      | none => rw [e] at p2; exact p2.elim
      | some kf =>
        obtain ⟨k, fs⟩ := kf
        rw [e] at p2
        obtain ⟨a, dx, gs, rfl, rfl, hm, q, rf⟩ := insOf_ok F r2 q2 e
        by_cases hl : fs.length < 1000
        · have p2' : PostS X.K X.mg W M2 H2 (if fs.length < 1000 then .nx env (st2.set k (.ins c (putG f v fs))) else .bad) Q := p2
          rw [if_pos hl] at p2'
          have x3 : Ext M2 H2 M2 (upd H2 a (.ins (ga X.K c) dx (putF f vv gs))) := Ext.wr r2 hm
          refine ⟨a, _, dx, gs, rfl, q, F.ok, na, by rw [← rfs_len rf]; exact hl, ?_⟩
          exact p2' M2 _ _ x3 ⟨r2.wr hm ⟨_, dx, _, F.gl, upd_same, (rfs_put rf f (q1.mono x2)).mono x3⟩, rr2.e.mono x3⟩
        · have p2' : PostS X.K X.mg W M2 H2 (if fs.length < 1000 then .nx env (st2.set k (.ins c (putG f v fs))) else .bad) Q := p2
          rw [if_neg hl] at p2'
          exact p2'.elim⟩⟩
end
end Fb

/-! Fb.K2: methods called, instances made. -/
namespace Fb
open PySem PySem.Spec PyProof.Rows L2
abbrev ma := He.ma
/-- a method: what it does, how it is called -/
structure DefM (P : Program) (w : World) (K : PySem.W.Frag) (mg : Str → Option Value) (base : Heap) (c m : Str) (ps : List Str) (k n : Nat) (fn : Fn) : Prop where
  ex : ∃ fd, FnOk P w K mg base (L2.CX P w) k (ma K (ga K c) m) fd ps (spM K mg n fn) ∧ Binds K fd ps []
section
variable {X : Cx} {CX : CXT} {k : Nat} {f C : Addr} {fd : FuncData} {ps : List Str} {sp : Sp} {E : L2.St → XK} {x m : Str} {p pos apos : Pos} {e o : Expr} {es : List Expr} {ta : TE} {t : TA}
def tMethS (C : Addr) (m : Str) (sp : Sp) (E : L2.St → XK) (ta : TE) (t : TA) : TE := fun σ H Q => ta σ H fun x H1 => ∃ a dx fs, x = .ref a ∧ H1 a = some (.ins C dx fs) ∧ fs.lookup m = none ∧ t σ H1 fun vs H2 => sp (x :: vs) H2 Q (E σ)
theorem pe_methS {pl : Sem Bool} (he : PE X o ta) (c : Cls X.K C) (hm : Meth X.K C m f) (F : FnOk X.prog X.w X.K X.mg X.base CX k f fd ps sp) (hr : Room k X.A) (hb : Binds X.K fd ps []) (hx : ∀ σ, PassesAt CX X σ (E σ)) (ha : PA X (e :: es) t)
    (hst : starEach (e :: es) X.env = (false, eval e X.env) :: starEach es X.env := by rfl) (hpl : (backTo pos (starEach es X.env)).any (·.1) = false := by rfl)
    (ht : eval (.Call (.Attribute o m apos) (e :: es) [] pos) X.env = (do
      let ov ← eval o X.env
      standAt apos.atName
      let (f, first) ← holding [ov] (getMethod ov m pl)
      callWith pos f first (backTo pos (starEach (e :: es) X.env)) (backToKw pos (keywordEach [] X.env))) := by rfl) :
    PE X (.Call (.Attribute o m apos) (e :: es) [] pos) (tMethS C m sp E ta t) := by
  refine ⟨fun pins s σ H Q I h => ?_⟩
  refine PySem.W.methodCall_KW (pl := pl) (thn (he.run pins s σ H _ I h) fun u s1 ⟨x, H1, I1, rx, a, dx, fs, ex, ea, l, q⟩ => ?_) ht
  subst ex
  obtain rfl : u = Value.ref a := rx
  refine getmeth_ok I1 ea c hm l ?_
  refine PySem.W.callWith_K (first := [.ref a]) (h₀ := X.base) I.ok.mod.kin hm.kp (thn (ha.run pos pins s1 σ H1 _ I1 q) fun us s2 ⟨vs, H2, I2, r, q2⟩ => ⟨I2.kIn, ?_⟩) hst hpl
  exact run_fnS (us := .ref a :: us) (vs := .ref a :: vs) F hr hb (hx σ) I2 (.cons rfl r) q2
theorem pe_methS0 {pl : Sem Bool} (he : PE X o ta) (c : Cls X.K C) (hm : Meth X.K C m f) (F : FnOk X.prog X.w X.K X.mg X.base CX k f fd ps sp) (hr : Room k X.A) (hb : Binds X.K fd ps []) (hx : ∀ σ, PassesAt CX X σ (E σ))
    (ht : eval (.Call (.Attribute o m apos) [] [] pos) X.env = (do
      let ov ← eval o X.env
      standAt apos.atName
      let (f, first) ← holding [ov] (getMethod ov m pl)
      callWith pos f first (backTo pos (starEach [] X.env)) (backToKw pos (keywordEach [] X.env))) := by rfl) :
    PE X (.Call (.Attribute o m apos) [] [] pos) (tMethS C m sp E ta tNil) := by
  refine ⟨fun pins s σ H Q I h => ?_⟩
  refine PySem.W.methodCall_KW (pl := pl) (thn (he.run pins s σ H _ I h) fun u s1 ⟨x, H1, I1, rx, a, dx, fs, ex, ea, l, q⟩ => ?_) ht
  subst ex
  obtain rfl : u = Value.ref a := rx
  refine getmeth_ok I1 ea c hm l ?_
  exact PySem.W.callWith_K0 (first := [.ref a]) I1.kIn hm.kp (run_fnS (us := [.ref a]) (vs := [.ref a]) F hr hb (hx σ) I1 (.cons rfl .nil) q)
theorem run_makeS {pins : List (Addr × Obj)} {σ : L2.St} {H : Hp} {s : Shared} {Q : VK} {us : List Value} {vs : List V} (M : Mk X.K C f) (F : FnOk X.prog X.w X.K X.mg X.base CX k f fd ps sp) (hr : Room (k + 1) X.A) (hb : Binds X.K fd ps [])
    (hx : PassesAt CX X σ (E σ)) (I : Inv X pins σ H s) (r : Vals vs us)
    (h : ∀ x dx, H x = none → H dx = none → dx ≠ x → sp (.ref x :: vs) (upd (upd H dx (.own x)) x (.ins C dx [])) (fun v H2 => v = .non ∧ Q (.ref x) H2) (E σ)) :
    wpAny (model X.prog X.w) X.A (call (.ref C) us) (EP X pins σ Q) X.xe s := by
  have hq := h (s.heap.objs.size + 1) s.heap.objs.size (I.hok.fresh (Nat.le_succ _)) (I.hok.fresh (Nat.le_refl _)) (Nat.ne_of_lt (Nat.lt_succ_self _))
  have I2 := Inv.made (C := C) I
  have r2 : Vals (V.ref (s.heap.objs.size + 1) :: vs) (Value.ref (s.heap.objs.size + 1) :: us) := .cons rfl r
  have hl : (Value.ref (s.heap.objs.size + 1) :: us).length = ps.length := by
    have e := r2.length
    rw [F.len _ _ _ _ hq] at e
    exact e.symm
  have b := hb _ (Value.ref (s.heap.objs.size + 1) :: us) I2.kIn (by rw [List.append_nil]; exact hl)
  rw [List.append_nil] at b
  refine wpAny_call (make_map (f := f) I.kIn M.makes M.init (beq_iff_eq.mp M.fn) (codeAny_mono (F.run _ X.stack _ _ ⟨Value.ref (s.heap.objs.size + 1) :: us, []⟩ (Value.ref (s.heap.objs.size + 1) :: us) _ _ (E σ) (hr.make C us [])
    (I2.env0.make C us []) b r2 hq) fun r s' hq' => ?_))
  cases r with
  | error e => exact hx pins _ _ e s' I2 hq'
  | ok fl =>
    cases fl with
    | ret u =>
      obtain ⟨v, H', I3, rv, ev, q3⟩ := I2.after hq'
      subst ev
      exact ⟨rv, ⟨V.ref (s.heap.objs.size + 1), H', I3, rfl, q3⟩⟩
    | next => exact False.elim hq'
    | brk => exact False.elim hq'
    | cont => exact False.elim hq'
def tMakeS (C : Addr) (sp : Sp) (E : L2.St → XK) (t : TA) : TE := fun σ H Q => t σ H fun vs H1 => ∀ x dx, H1 x = none → H1 dx = none → dx ≠ x →
  sp (.ref x :: vs) (upd (upd H1 dx (.own x)) x (.ins C dx [])) (fun v H2 => v = .non ∧ Q (.ref x) H2) (E σ)
theorem pe_makeS (M : Mk X.K C f) (F : FnOk X.prog X.w X.K X.mg X.base CX k f fd ps sp) (hr : Room (k + 1) X.A) (hg : Gl X x) (hm : X.mg x = some (.ref C)) (hb : Binds X.K fd ps []) (hx : ∀ σ, PassesAt CX X σ (E σ))
    (ha : PA X (e :: es) t) (hdb : (x == ("__debug__" : Str)) = false := by decide) (he : starEach (e :: es) X.env = (false, eval e X.env) :: starEach es X.env := by rfl) (hpl : (backTo pos (starEach es X.env)).any (·.1) = false := by rfl) :
    PE X (.Call (.Name x p) (e :: es) [] pos) (tMakeS C sp E t) := by
  refine ⟨fun pins s σ H Q I h => ?_⟩
  refine wpAny_Call_Name_kw (ld_glob I hg hm ?_ hdb)
  refine PySem.W.callWith_K (h₀ := X.base) I.ok.mod.kin M.kp (thn (ha.run pos pins s σ H _ I h) fun us s1 ⟨vs, H1, I1, r, q⟩ => ⟨I1.kIn, ?_⟩) he hpl
  exact run_makeS M F hr hb (hx σ) I1 r q
end
section
variable {X : Cx} {W : WX}
/-- o.m(..) -/
def fMeth (c m : Str) (fn : Fn) (fo : Fe) (fa : Fa) : Fe := fun env st => (fo env st).bind fun o st1 => match insOf c o st1 with
  | some (_, fs) => if (fs.lookup m).isNone = true then (fa env st1).bind fun ds st2 => fn (o :: ds) st2 else .bad
  | none => .bad
theorem meth_ok {K : PySem.W.Frag} {mg : Str → Option Value} {c m : Str} {fn : Fn} {fo : Fe} {fa : Fa} {n : Nat} {σ : L2.St} {H : Hp} {Q : VK} (F : ClsF K mg c) (hl : lenA fa n) (h : tF K mg W (fMeth c m fn fo fa) σ H Q) :
    tMethS (ga K c) m (spM K mg (n + 1) fn) (WE W) (tF K mg W fo) (tA K mg W fa) σ H Q := by
  obtain ⟨M, env, st, r, p⟩ := h
  refine ⟨M, env, st, r, Post.bind p fun M1 d1 st1 v1 H1 _ x1 r1 q1 p1 => ?_⟩
  cases e : insOf c d1 st1 with
  | none => rw [e] at p1; exact p1.elim
  | some kf =>
    obtain ⟨k, fs⟩ := kf
    rw [e] at p1
    obtain ⟨a, dx, gs, rfl, rfl, hm, q, rf⟩ := insOf_ok F r1 q1 e
    have p1' : Post K mg (RV K mg) W M1 σ H1 (if (fs.lookup m).isNone = true then (fa env st1).bind fun ds st2 => fn (.ref k :: ds) st2 else .bad) Q := p1
    by_cases hn : (fs.lookup m).isNone = true
    · rw [if_pos hn] at p1'
      refine ⟨a, dx, gs, rfl, q, rfs_none rf m (Option.isNone_iff_eq_none.mp hn), M1, env, st1, r.mono x1 r1, Post.bind p1' fun M2 ds st2 vs H2 e2 x2 r2 q2 p2 => ?_⟩
      refine ⟨by rw [List.length_cons, ← q2.length, hl env st1 ds st2 e2], M2, st2, .ref k :: ds, r2, .cons (q1.mono x2) q2, ?_⟩
      cases e3 : fn (.ref k :: ds) st2 with
      | ok d s => rw [e3] at p2; exact p2
      | exc d s => rw [e3] at p2; exact p2
      | bad => rw [e3] at p2; exact p2
    · rw [if_neg hn] at p1'
      exact p1'.elim
theorem x_meth {pl : Sem Bool} {o e : Expr} {es : List Expr} {c m : Str} {apos pos : Pos} {fo : Fe} {fa : Fa} {n k k' : Nat} {ps : List Str} {fn : Fn} (tk : Takes X W) (D : DefM X.prog X.w X.K X.mg X.base c m ps k (n + 1) fn) (hr : Room k' X.A) (hk : k ≤ k') (F : ClsF X.K X.mg c) (hm : Meth X.K (ga X.K c) m (ma X.K (ga X.K c) m)) (ho : XE X W o fo) (ha : XA X W (e :: es) fa) (hl : lenA fa n)
    (hst : starEach (e :: es) X.env = (false, eval e X.env) :: starEach es X.env := by rfl) (hpl : (backTo pos (starEach es X.env)).any (·.1) = false := by rfl)
    (ht : eval (.Call (.Attribute o m apos) (e :: es) [] pos) X.env = (do
      let ov ← eval o X.env
      standAt apos.atName
      let (f, first) ← holding [ov] (getMethod ov m pl)
      callWith pos f first (backTo pos (starEach (e :: es) X.env)) (backToKw pos (keywordEach [] X.env))) := by rfl) :
    XE X W (.Call (.Attribute o m apos) (e :: es) [] pos) (fMeth c m fn fo fa) := by
  obtain ⟨fd, G, b⟩ := D.ex
  exact (pe_methS (pl := pl) ho F.ok hm G (hr.mono hk) b (fun σ => passAt tk σ) ha hst hpl ht).fb fun _ _ _ => meth_ok F hl
theorem x_meth0 {pl : Sem Bool} {o : Expr} {c m : Str} {apos pos : Pos} {fo : Fe} {k k' : Nat} {ps : List Str} {fn : Fn} (tk : Takes X W) (D : DefM X.prog X.w X.K X.mg X.base c m ps k 1 fn) (hr : Room k' X.A) (hk : k ≤ k') (F : ClsF X.K X.mg c) (hm : Meth X.K (ga X.K c) m (ma X.K (ga X.K c) m)) (ho : XE X W o fo)
    (ht : eval (.Call (.Attribute o m apos) [] [] pos) X.env = (do
      let ov ← eval o X.env
      standAt apos.atName
      let (f, first) ← holding [ov] (getMethod ov m pl)
      callWith pos f first (backTo pos (starEach [] X.env)) (backToKw pos (keywordEach [] X.env))) := by rfl) :
    XE X W (.Call (.Attribute o m apos) [] [] pos) (fMeth c m fn fo fNil) := by
  obtain ⟨fd, G, b⟩ := D.ex
  refine (pe_methS0 (pl := pl) ho F.ok hm G (hr.mono hk) b (fun σ => passAt tk σ) ht).fb fun σ H Q h => ?_
  obtain ⟨M, env, st, r, q⟩ := meth_ok F lenA_nil h
  refine ⟨M, env, st, r, ?_⟩
  cases e : fo env st with
  | ok d s =>
    rw [e] at q
    intro M' v H' x rh rv
    obtain ⟨a, dx, fs, e1, e2, e3, M1, env1, st1, r1, p1⟩ := q M' v H' x rh rv
    exact ⟨a, dx, fs, e1, e2, e3, p1 M1 [] H' (Ext.refl _ _) r1.h .nil⟩
  | exc d s => rw [e] at q; exact q
  | bad => rw [e] at q; exact q
/-- C(..) -/
def fMake (c : Str) (init : Fn) (fa : Fa) : Fe := fun env st => (fa env st).bind fun ds st1 => (init (.ref st1.length :: ds) (st1 ++ [.ins c []])).bind fun d st2 => match d with
  | .non => .ok (.ref st1.length) st2
  | _ => .bad
theorem x_make {e : Expr} {es : List Expr} {c : Str} {p pos : Pos} {fa : Fa} {n k k' : Nat} {ps : List Str} {fn : Fn} (tk : Takes X W) (D : DefM X.prog X.w X.K X.mg X.base c "__init__" ps k (n + 1) fn) (hr : Room k' X.A) (hk : k + 1 ≤ k') (F : ClsF X.K X.mg c) (hm : Mk X.K (ga X.K c) (ma X.K (ga X.K c) "__init__")) (hg : Gl X c) (ha : XA X W (e :: es) fa) (hl : lenA fa n)
    (hdb : (c == ("__debug__" : Str)) = false := by decide) (he : starEach (e :: es) X.env = (false, eval e X.env) :: starEach es X.env := by rfl) (hpl : (backTo pos (starEach es X.env)).any (·.1) = false := by rfl) :
    XE X W (.Call (.Name c p) (e :: es) [] pos) (fMake c fn fa) := by
  obtain ⟨fd, G, b⟩ := D.ex
  refine (pe_makeS hm G (hr.mono hk) hg F.gl b (fun σ => passAt tk σ) ha hdb he hpl).fb fun σ H Q ⟨M, env, st, r, q⟩ => ⟨M, env, st, r, Post.bind q fun M1 ds st1 vs H1 e1 x1 r1 q1 p1 x dx nx nd ne => ?_⟩
  have r2 : RelH X.K X.mg M1 st1 (upd H1 dx (.own x)) := r1.new nd
  have nx2 : (upd H1 dx (.own x)) x = none := by rw [upd_ne (Ne.symm ne)]; exact nx
  have y : Ext M1 H1 (M1.push x) (upd (upd H1 dx (.own x)) x (.ins (ga X.K c) dx [])) := (Ext.new nd).trans (Ext.push nx2)
  have r3 := r2.push (c := .ins c []) nx2 ⟨ga X.K c, dx, [], F.gl, upd_same, .nil⟩
  refine ⟨by rw [List.length_cons, ← q1.length, hl env st ds st1 e1], M1.push x, _, .ref st1.length :: ds, r3, .cons (.ref (push_get r1.len)) (q1.mono y), ?_⟩
  have p2 := Post.mono p1 y
  cases e2 : fn (.ref st1.length :: ds) (st1 ++ [.ins c []]) with
  | ok d s =>
    rw [e2] at p2
    intro M' v H' x4 rh rv
    cases rv with
    | non => exact ⟨rfl, p2 M' (.ref x) H' x4 rh (.ref (x4.get (push_get r1.len)))⟩
    | _ => exact p2.elim
  | exc d s => rw [e2] at p2; exact p2
  | bad => rw [e2] at p2; exact p2
end
end Fb

/-! Fb.K3: methods as wholes. -/
namespace Fb
open PySem PySem.Spec PyProof.Rows L2
/-- a method as it stands -/
structure DefMF (K : PySem.W.Frag) (c m qual : Str) (st : Stmt) : Prop where
  ex : ∃ fd, FunD K m qual (defArgs st) (defBody st) (defScope st) [] [] (ma K (ga K c) m) fd
theorem DefMF.def_ {P : Program} {w : World} {K : PySem.W.Frag} {mg : Str → Option Value} {base : Heap} {c m qual : Str} {st : Stmt} {N ps : List Str} {k : Nat} {g : Fs} (F : DefMF K c m qual st) (S : FnScope N ps (defScope st))
    (hb : ∀ (kV doc pm : Value) (an : Option Addr) (cdv ct : Value) (us : List Value), us.length = ps.length → bindArgs (PySem.W.fnOf m qual (defArgs st) (defBody st) (defScope st) .none kV doc pm an cdv ct) ⟨us, []⟩ = pure (ps.zip us))
    (hbody : ∀ (f : Addr) (cdv : Value) (A : Around) (outer : List PySem.Env) (s : Shared) (H : Hp) (E : XK), Room k (A.deeper (envOfC qual (defScope st) s.heap.objs.size f cdv)) →
      XSs (cxOf (L2.CX P w) P w K mg base N qual (defScope st) f cdv A outer s H E) (fun c d _ H => E c d H) (defBody st) g) : DefM P w K mg base c m ps (k + 1) ps.length (runB N.length ps.length g) := by
  obtain ⟨fd, F1⟩ := F.ex
  exact ⟨⟨fd, ok_def F1 S rfl (fun cdv A outer s H E hr => hbody _ cdv A outer s H E hr), F1.bindsN hb⟩⟩
/-- the j-th statement of a class -/
def clsBody (s : Stmt) (j : Nat) : Stmt := match s with
  | .ClassDef _ _ _ body _ _ _ _ _ _ _ => body.getD j (.Pass ⟨0, 0, 0, 0⟩)
  | _ => .Pass ⟨0, 0, 0, 0⟩
end Fb

/-! Fb.K4: len(x) and == of an own class. -/
namespace Fb
open PySem PySem.Spec PyProof.Rows L2
section
variable {X : Cx} {W : WX}
/-- the callee runs within a built-in -/
theorem run_in1 {k k' n : Nat} {f : Addr} {fd : FuncData} {ps : List Str} {m : Fn} {pins : List (Addr × Obj)} {σ : L2.St} {H : Hp} {s : Shared} {Q : VK} {us : List Value} {vs : List V} (tk : Takes X W) (F : FnOk X.prog X.w X.K X.mg X.base (L2.CX X.prog X.w) k f fd ps (spM X.K X.mg n m)) (hr : Room k' X.A) (hk : k + 1 ≤ k') (hb : Binds X.K fd ps [])
    (I : Inv X pins σ H s) (r : Vals vs us) (h : spM X.K X.mg n m vs H Q (WE W σ)) : wpAny (model X.prog X.w) X.A.in1 (call (.ref f) us) (EP X pins σ Q) X.xe s := by
  have hl : us.length = ps.length := by rw [← r.length]; exact F.len _ _ _ _ h
  have b := hb s us I.kIn (by rw [List.append_nil]; exact hl)
  rw [List.append_nil] at b
  refine wpAny_call (codeAny_mono (F.run X.A.in1 X.stack s H ⟨us, []⟩ us vs Q (WE W σ) (hr.mono hk).in1 I.env0.in1 b r h) fun r s' hq => ?_)
  cases r with
  | error e => exact passAt tk σ pins H s e s' I hq
  | ok fl =>
    cases fl with
    | ret u => exact I.after hq
    | next => exact False.elim hq
    | brk => exact False.elim hq
    | cont => exact False.elim hq
/-- len(x), x of the class with its own __len__ -/
def fLenO (c : Str) (m : Fn) (fe : Fe) : Fe := fun env st => (fe env st).bind fun d st1 => match insOf c d st1 with
  | some _ => (m [d] st1).bind fun z st2 => match z with
    | .int i => if 0 ≤ i ∧ i < 2 ^ 63 then .ok (.int i) st2 else .bad
    | _ => .bad
  | none => .bad
theorem x_lenO {e : Expr} {c : Str} {p pos : Pos} {fe : Fe} {k k' : Nat} {ps : List Str} {m : Fn} (tk : Takes X W) (D : DefM X.prog X.w X.K X.mg X.base c "__len__" ps k 1 m) (hr : Room k' X.A) (hk : k + 1 ≤ k') (F : ClsF X.K X.mg c) (hm : Meth X.K (ga X.K c) "__len__" (ma X.K (ga X.K c) "__len__")) (hg : Gl X "len") (hn : X.mg "len" = none) (he : XE X W e fe)
    (na : starEach [e] X.env = (false, eval e X.env) :: starEach [] X.env := by rfl) : XE X W (.Call (.Name "len" p) [e] [] pos) (fLenO c m fe) := by
  obtain ⟨fd, G, b⟩ := D.ex
  refine ⟨fun pins s σ H Q I ⟨M, env, st, r, q⟩ => ?_⟩
  refine Call_ (ld_blt I hg hn PySem.boot_len ?_)
  refine PyProof.Rows.callWith_builtin1 (PyProof.Rows.args_cons (thn (he.run pins s σ H (fun v H1 => ∃ M1 d st1, RelH X.K X.mg M1 st1 H1 ∧ RV X.K X.mg M1 H1 d v ∧ Post X.K X.mg (RV X.K X.mg) W M1 σ H1 (match insOf c d st1 with
      | some _ => (m [d] st1).bind fun z st2 => match z with
        | .int i => if 0 ≤ i ∧ i < 2 ^ 63 then .ok (.int i) st2 else .bad
        | _ => .bad
      | none => .bad) Q) I ⟨M, env, st, r, Post.bind q fun M1 d st1 v H1 _ x1 r1 q1 p1 => ⟨M1, d, st1, r1, q1, p1⟩⟩) fun v s1 ⟨x, H1, I1, rx, M1, d, st1, r1, q1, p1⟩ => PyProof.Rows.args_nil ?_) na) na rfl
  cases e1 : insOf c d st1 with
  | none => rw [e1] at p1; exact p1.elim
  | some kf =>
    obtain ⟨j, fs⟩ := kf
    rw [e1] at p1
    obtain ⟨a, dx, gs, rfl, rfl, hmm, ha, rf⟩ := insOf_ok F r1 q1 e1
    obtain rfl : v = Value.ref a := rx
    obtain ⟨mA, J, _⟩ := ins_get I1.hok ha
    obtain ⟨od, J, _⟩ := J.look
    obtain ⟨mm, hF⟩ := I1.fr
    refine PySem.W.len_K hF I1.ok.mod.kin J hm.at_ hm.fn ?_
    refine wpAny_mono (run_in1 (Q := fun z H2 => ∃ i, z = .int i ∧ (0 ≤ i ∧ i < 2 ^ 63) ∧ Q (.int i) H2) (us := [.ref a]) (vs := [.ref a]) tk G hr hk b I1 (.cons rfl .nil) ⟨rfl, M1, st1, [.ref j], r1, .cons q1 .nil, ?_⟩) (fun u s2 hq => ?_) fun _ _ z => z
    · have p1' : Post X.K X.mg (RV X.K X.mg) W M1 σ H1 ((m [.ref j] st1).bind fun z st2 => match z with
        | .int i => if 0 ≤ i ∧ i < 2 ^ 63 then .ok (.int i) st2 else .bad
        | _ => .bad) Q := p1
      cases e2 : m [.ref j] st1 with
      | ok z s =>
        rw [e2] at p1'
        intro M' v' H' x4 rh rv
        cases rv with
        | int i =>
          have p2 : Post X.K X.mg (RV X.K X.mg) W M1 σ H1 (if 0 ≤ i ∧ i < 2 ^ 63 then .ok (.int i) s else .bad) Q := p1'
          by_cases hi : 0 ≤ i ∧ i < 2 ^ 63
          · rw [if_pos hi] at p2
            exact ⟨i, rfl, hi, p2 M' _ H' x4 rh (.int i)⟩
          · rw [if_neg hi] at p2
            exact p2.elim
        | _ => exact p1'.elim
      | exc z s => rw [e2] at p1'; exact p1'
      | bad => rw [e2] at p1'; exact p1'
    · obtain ⟨z, H2, I2, rz, i, rfl, hi, q2⟩ := hq
      obtain ⟨t, rfl⟩ := rz
      exact ⟨hi, .int i, H2, I2.tok _, ⟨_, rfl⟩, q2⟩
end
end Fb

/-! Fb.K5: == of an own class. -/
namespace Fb
open PySem PySem.Spec PyProof.Rows L2
section
variable {X : Cx} {W : WX}
/-- nothing is raised -/
def E0 : XK := fun _ _ _ => False
theorem passE0 (σ : L2.St) : PassesAt (L2.CX X.prog X.w) X σ E0 := fun _ _ _ _ _ _ ⟨_, _, _, _, _, _, _, _, _, _, _, _, z⟩ => z.elim
/-- what isinstance asks of an own class -/
structure IsO (K : PySem.W.Frag) (C : Addr) : Prop where
  a : PySem.W.findIn K (.ref C) "__class__" = some (some (.builtin "object.__class__"))
  b : PySem.W.specialIn K (.builtin "object.__class__") "__get__" = some (some (.builtin "getset_descriptor.__get__"))
  c : PySem.W.takesIn K (.builtin "object.__class__") = some true
  d : PySem.W.mroIn K C (.type "object") = some true
/-- a built-in type that is no kin of the class -/
structure SdO (K : PySem.W.Frag) (C : Addr) (t : String) : Prop where
  n : PySem.W.notFirst K C (.type t) = true
  k : PySem.W.kitOne K (.type t) (.ref C) = some false
structure OthO (K : PySem.W.Frag) (C : Addr) : Prop where
  s : SdO K C "str"
  l : SdO K C "list"
  i : IsO K C
/-- an instance of the class, or a text, or a list -/
def sideO (c : Str) (st : Sto) (d : D) : Bool := (insOf c d st).isSome || (match tyName st d with
  | some t => t == "str" || t == "list"
  | none => false)
theorem side_ok {K : PySem.W.Frag} {mg : Str → Option Value} {M : Mp} {st : Sto} {H : Hp} {c : Str} {d : D} {v : V} (F : ClsF K mg c) (O : OthO K (ga K c)) (r : RelH K mg M st H) (h : RV K mg M H d v) (e : sideO c st d = true) :
    ∃ t, TyX K H v t ∧ PySem.W.notFirst K (ga K c) t = true ∧ PySem.W.kitOne K t (.ref (ga K c)) = some (insOf c d st).isSome := by
  cases e1 : insOf c d st with
  | some kf =>
    obtain ⟨k, fs⟩ := kf
    obtain ⟨a, dx, gs, rfl, rfl, _, ha, _⟩ := insOf_ok F r h e1
    refine ⟨.ref (ga K c), .base (.ins ha F.ok O.i.a O.i.b O.i.c O.i.d), by simp [PySem.W.notFirst], ?_⟩
    unfold PySem.W.kitOne
    rw [if_pos (by simp)]
    rfl
  | none =>
    unfold sideO at e
    rw [e1] at e
    cases e2 : tyName st d with
    | none => rw [e2] at e; cases e
    | some t =>
      rw [e2] at e
      have e' : (t == "str" || t == "list") = true := e
      rcases Bool.or_eq_true_iff.mp e' with z | z
      · have z' := beq_iff_eq.mp z
        subst z'
        exact ⟨_, tyName_ok r h e2, O.s.n, O.s.k⟩
      · have z' := beq_iff_eq.mp z
        subst z'
        exact ⟨_, tyName_ok r h e2, O.l.n, O.l.k⟩
def rEqO (K : PySem.W.Frag) (mg : Str → Option Value) (c : Str) (m : Fn) : R2 := fun x y H Q => ∃ M st d e b st2, RelH K mg M st H ∧ RV K mg M H d x ∧ RV K mg M H e y ∧ (insOf c d st).isSome = true ∧ sideO c st e = true ∧ m [d, e] st = .ok (.bl b) st2 ∧ ∀ M' H', Ext M H M' H' → RelH K mg M' st2 H' → Q (.bl b) H'
theorem op_eqO {c : Str} {k k' : Nat} {ps : List Str} {m : Fn} (D : DefM X.prog X.w X.K X.mg X.base c "__eq__" ps k 2 m) (hr : Room k' X.A) (hk : k ≤ k') (F : ClsF X.K X.mg c) (O : OthO X.K (ga X.K c)) (hm : Meth X.K (ga X.K c) "__eq__" (ma X.K (ga X.K c) "__eq__")) : OpR X (compareOp .Eq) (rEqO X.K X.mg c m) := by
  obtain ⟨fd, G, b0⟩ := D.ex
  intro pins s σ H x y v u Q I rx ry ⟨M, st, d, e, b, st2, r, hd, he, i1, i2, em, q⟩
  obtain ⟨⟨j1, f1⟩, e1⟩ := Option.isSome_iff_exists.mp i1
  obtain ⟨a1, dx1, g1, rfl, rfl, _, ha, _⟩ := insOf_ok F r hd e1
  obtain ⟨t2, ty2, nf2, _⟩ := side_ok F O r he i2
  obtain rfl : v = Value.ref a1 := rx
  obtain ⟨mA, J, _⟩ := ins_get I.hok ha
  obtain ⟨od, J, _⟩ := J.look
  obtain ⟨P2, Z2, p2, _⟩ := kit_of I ry ty2
  obtain ⟨mm, hF⟩ := I.fr
  show wpAny (model X.prog X.w) X.A (richCompare .Eq (.ref a1) u) (EP X pins σ Q) X.xe s
  refine PySem.W.cmp_K (op := .Eq) (tb := t2) hr.units0 hF I.ok.mod.kin J (Z2.ty _ _ I.kIn p2) nf2 hm.at_ hm.fn ?_
  refine wpAny_mono (run_fnS (E := fun _ => E0) (Q := fun z H2 => z = .bl b ∧ Q (.bl b) H2) (us := [.ref a1, u]) (vs := [.ref a1, y]) G (hr.mono hk) b0 (passE0 σ) I (.cons rfl (.cons ry .nil)) ⟨rfl, M, st, [.ref j1, e], r, .cons hd (.cons he .nil), ?_⟩) (fun w s2 hq => ?_) fun _ _ z => z
  · rw [em]
    intro M' v' H' x4 rh rv
    cases rv
    exact ⟨rfl, q M' H' x4 rh⟩
  · obtain ⟨z, H2, I2, rz, rfl, q2⟩ := hq
    obtain rfl : w = Value.bool b := rz
    exact ⟨.bl b, H2, I2, rfl, q2⟩
def fEqO (c : Str) (m : Fn) (fa fb : Fe) : Fe := fun env st => (fa env st).bind fun d st => (fb env st).bind fun e st => if (insOf c d st).isSome = true ∧ sideO c st e = true then (match m [d, e] st with
  | .ok (.bl b) st2 => .ok (.bl b) st2
  | _ => .bad) else .bad
theorem eqO_ok {K : PySem.W.Frag} {mg : Str → Option Value} {c : Str} {m : Fn} {fa fb : Fe} {σ : L2.St} {H : Hp} {Q : VK} (h : tF K mg W (fEqO c m fa fb) σ H Q) : tOp (rEqO K mg c m) (tF K mg W fa) (tF K mg W fb) σ H Q := by
    obtain ⟨M, env, st, r, p⟩ := h
    refine ⟨M, env, st, r, Post.bind p fun M1 d1 st1 v1 H1 _ x1 r1 q1 p1 => ?_⟩
    refine ⟨M1, env, st1, r.mono x1 r1, Post.bind p1 fun M2 d2 st2 v2 H2 _ x2 r2 q2 p2 => ?_⟩
    by_cases hi : (insOf c d1 st2).isSome = true ∧ sideO c st2 d2 = true
    · rw [if_pos hi] at p2
      cases em : m [d1, d2] st2 with
      | ok z s3 =>
        rw [em] at p2
        cases z with
        | bl b => exact ⟨M2, st2, d1, d2, b, s3, r2, q1.mono x2, q2, hi.1, hi.2, em, fun M' H' x3 rh => p2 M' _ H' x3 rh (.bl b)⟩
        | _ => exact p2.elim
      | exc z s3 => rw [em] at p2; exact p2.elim
      | bad => rw [em] at p2; exact p2.elim
    · rw [if_neg hi] at p2
      exact p2.elim
theorem x_eqO {a b : Expr} {c : Str} {pos : Pos} {fa fb : Fe} {k k' : Nat} {ps : List Str} {m : Fn} (D : DefM X.prog X.w X.K X.mg X.base c "__eq__" ps k 2 m) (hr : Room k' X.A) (hk : k ≤ k') (F : ClsF X.K X.mg c) (O : OthO X.K (ga X.K c)) (hm : Meth X.K (ga X.K c) "__eq__" (ma X.K (ga X.K c) "__eq__")) (ha : XE X W a fa) (hb : XE X W b fb)
    (hmk : behindInMarks .Eq b = false := by first | exact nomark _ | rfl) : XE X W (.Compare a [.Eq] [b] pos) (fEqO c m fa fb) :=
  (pe_cmpR (op_eqO D hr hk F O hm) ha hb hmk).fb fun _ _ _ => eqO_ok
theorem t_eqO {a b : Expr} {c : Str} {pos : Pos} {fa fb : Fe} {k k' : Nat} {ps : List Str} {m : Fn} (D : DefM X.prog X.w X.K X.mg X.base c "__eq__" ps k 2 m) (hr : Room k' X.A) (hk : k ≤ k') (F : ClsF X.K X.mg c) (O : OthO X.K (ga X.K c)) (hm : Meth X.K (ga X.K c) "__eq__" (ma X.K (ga X.K c) "__eq__")) (ha : XE X W a fa) (hb : XE X W b fb)
    (hmk : behindInMarks .Eq b = false := by first | exact nomark _ | rfl) : XT X W (.Compare a [.Eq] [b] pos) (fTest (fEqO c m fa fb)) :=
  (pt_cmpR (op_eqO D hr hk F O hm) ha hb hmk).fb fun _ _ _ h => (by
    obtain ⟨M, env, st, r, p⟩ := test_ok h
    exact eqO_ok ⟨M, env, st, r, p⟩)
end
end Fb

/-! Fb.K6: != of an own class (object.__ne__ asks the own __eq__). -/
namespace Fb
open PySem PySem.Spec PyProof.Rows L2 PySem.W
section
variable {prog : Program} {w : World} {A : Around} {E : Value → Shared → Prop} {s : Shared} {K : Frag} {x C L f : Addr} {h₀ : Heap} {m : Str → Option Value} {ox : Obj} {od : Option Obj} {b tb : Value}
/-- a comparison of which the first side knows -/
theorem cmp_one {op : CmpOp} {Q : Value → Shared → Prop} (hu : A.units < cLine) (X : K.In s.heap) (I : InstAt s.heap x ox C od) (hb : Looks (model prog w) s.heap (typeOf b) tb) (hn : notFirst K C tb = true)
    (one : wpAny (model prog w) A (tryCompare (.ref x) (cmpInfo op).2.1 b) (fun r s' => ∃ v, r = some v ∧ Q v s') E s) : wpAny (model prog w) A (richCompare op (.ref x) b) Q E s := by
  unfold richCompare
  simp only [oneThing_ref]
  refine wpAny_holding (wpAny_bind (wpAny_cRoomFor hu ?_))
  refine wpAny_bind (I.type.here (wpAny_bind (hb.here ?_)))
  split
  · rename_i q
    have e : subIn K tb (.ref C) = some false := by
      rcases Bool.or_eq_true_iff.mp hn with e | e
      · rw [beq_iff_eq.mp e] at q; simp at q
      · exact beq_iff_eq.mp e
    refine wpAny_bind ((looks_subIn X e).here ?_)
    simp only [Bool.false_eq_true, if_false]
    refine wpAny_bind (wpAny_mono one (fun r s' z => ?_) fun _ _ e => e)
    obtain ⟨v, rfl, hq⟩ := z
    exact wpAny_pure hq
  · refine wpAny_bind (wpAny_pure ?_)
    simp only [Bool.false_eq_true, if_false]
    refine wpAny_bind (wpAny_mono one (fun r s' z => ?_) fun _ _ e => e)
    obtain ⟨v, rfl, hq⟩ := z
    exact wpAny_pure hq
theorem ifBound_objNe {M : Model} {args : List Value} {Q : Option Value → Shared → Prop} (X : K.In s.heap) (I : InstAt s.heap x ox C od) (hs : findIn K (.ref C) "__ne__" = some (some (.builtin "object.__ne__")))
    (h : wpAny M A (call (.builtin "object.__ne__") (.ref x :: args)) (fun v => Q (some v)) E s) : wpAny M A (callSpecialIfBound? (.ref x) "__ne__" args) Q E s := by
  simp only [callSpecialIfBound?, bindSpecialIfBound?]
  refine wpAny_holding (wpAny_bind (wpAny_bind (wpAny_bind (I.type.here ((looks_findIn X hs).here ?_)))))
  refine wpAny_bind (wpAny_askSetting (wpAny_ite ?_))
  have fin : wpAny M A (call (.builtin "object.__ne__") ([.ref x] ++ args) >>= fun v => pure (some v)) Q E s := wpAny_bind (wpAny_mono h (fun v s' h' => wpAny_pure h') fun _ _ h' => h')
  split
  · exact wpAny_bind (wpAny_of_eq (PySem.F.cmp_object.ne.bind _) (wpAny_pure (by exact fin)))
  · exact wpAny_tryCatch (wpAny_bind (wpAny_of_eq (PySem.F.cmp_object.ne.bind _) (wpAny_pure (by exact fin))))
theorem call_objNe {Q : Value → Shared → Prop} (hu : A.in1.units < cLine) (X : K.In s.heap) (I : InstAt s.heap x ox C od) (hm : mroIn K C (.type "object") = some true) (hs : findIn K (.ref C) "__eq__" = some (some (.ref f))) (hf : isFn K (.ref f) = true)
    (h : wpAny (model prog w) A.in1 (call (.ref f) [.ref x, b]) (fun v s' => ∃ z, v = .bool z ∧ Q (.bool (!z)) s') E s) : wpAny (model prog w) A (call (.builtin "object.__ne__") [.ref x, b]) Q E s := by
  refine wpAny_call (codeAny_call_builtin PySem.F.cmp_object.ne.plain PySem.F.cmpEntry_ne (PySem.W.check_slot PySem.F.cmpKind_ne PySem.F.cmpSplit_ne (I.type.andThen (PySem.W.looks_mroIn X hm)) (PySem.F.cmpArgs_ne _ _) ?_))
  unfold Builtin.«object.__ne__»
  refine wpAny_bind (wpAny_pure ?_)
  refine wpAny_bind (wpAny_cRoomFor hu ?_)
  refine wpAny_bind (ifBound_K X I hs hf (wpAny_mono h (fun v s' z => ?_) fun _ _ z => z))
  obtain ⟨z, rfl, hq⟩ := z
  exact wpAny_bind (wpAny_truthy_bool (wpAny_pure hq))
end
end Fb

/-! Fb.K7: != of an own class, as an operator. -/
namespace Fb
open PySem PySem.Spec PyProof.Rows L2
section
variable {X : Cx} {W : WX}
theorem run_in1E {k k' n : Nat} {f : Addr} {fd : FuncData} {ps : List Str} {m : Fn} {pins : List (Addr × Obj)} {σ : L2.St} {H : Hp} {s : Shared} {Q : VK} {us : List Value} {vs : List V} (F : FnOk X.prog X.w X.K X.mg X.base (L2.CX X.prog X.w) k f fd ps (spM X.K X.mg n m)) (hr : Room k' X.A) (hk : k + 1 ≤ k') (hb : Binds X.K fd ps [])
    (I : Inv X pins σ H s) (r : Vals vs us) (h : spM X.K X.mg n m vs H Q E0) : wpAny (model X.prog X.w) X.A.in1 (call (.ref f) us) (EP X pins σ Q) X.xe s := by
  have hl : us.length = ps.length := by rw [← r.length]; exact F.len _ _ _ _ h
  have b := hb s us I.kIn (by rw [List.append_nil]; exact hl)
  rw [List.append_nil] at b
  refine wpAny_call (codeAny_mono (F.run X.A.in1 X.stack s H ⟨us, []⟩ us vs Q E0 (hr.mono hk).in1 I.env0.in1 b r h) fun r s' hq => ?_)
  cases r with
  | error e => exact passE0 σ pins H s e s' I hq
  | ok fl =>
    cases fl with
    | ret u => exact I.after hq
    | next => exact False.elim hq
    | brk => exact False.elim hq
    | cont => exact False.elim hq
def rNeO (K : PySem.W.Frag) (mg : Str → Option Value) (c : Str) (m : Fn) : R2 := fun x y H Q => ∃ M st d e b st2, RelH K mg M st H ∧ RV K mg M H d x ∧ RV K mg M H e y ∧ (insOf c d st).isSome = true ∧ sideO c st e = true ∧ m [d, e] st = .ok (.bl b) st2 ∧ ∀ M' H', Ext M H M' H' → RelH K mg M' st2 H' → Q (.bl (!b)) H'
theorem op_neO {c : Str} {k k' : Nat} {ps : List Str} {m : Fn} (D : DefM X.prog X.w X.K X.mg X.base c "__eq__" ps k 2 m) (hr : Room k' X.A) (hk : k + 1 ≤ k') (F : ClsF X.K X.mg c) (O : OthO X.K (ga X.K c)) (hm : Meth X.K (ga X.K c) "__eq__" (ma X.K (ga X.K c) "__eq__"))
    (hne : PySem.W.findIn X.K (.ref (ga X.K c)) "__ne__" = some (some (.builtin "object.__ne__"))) : OpR X (compareOp .NotEq) (rNeO X.K X.mg c m) := by
  obtain ⟨fd, G, b0⟩ := D.ex
  intro pins s σ H x y v u Q I rx ry ⟨M, st, d, e, b, st2, r, hd, he, i1, i2, em, q⟩
  obtain ⟨⟨j1, f1⟩, e1⟩ := Option.isSome_iff_exists.mp i1
  obtain ⟨a1, dx1, g1, rfl, rfl, _, ha, _⟩ := insOf_ok F r hd e1
  obtain ⟨t2, ty2, nf2, _⟩ := side_ok F O r he i2
  obtain rfl : v = Value.ref a1 := rx
  obtain ⟨mA, J, _⟩ := ins_get I.hok ha
  obtain ⟨od, J, _⟩ := J.look
  obtain ⟨P2, Z2, p2, _⟩ := kit_of I ry ty2
  show wpAny (model X.prog X.w) X.A (richCompare .NotEq (.ref a1) u) (EP X pins σ Q) X.xe s
  refine cmp_one (op := .NotEq) (tb := t2) hr.units0 I.kIn J (Z2.ty _ _ I.kIn p2) nf2 ?_
  show wpAny (model X.prog X.w) X.A (tryCompare (.ref a1) "__ne__" u) _ X.xe s
  unfold tryCompare
  refine wpAny_bind (ifBound_objNe I.kIn J hne (call_objNe (hr.mono hk).in1.units0 I.kIn J O.i.d hm.at_ hm.fn (wpAny_mono (run_in1E (Q := fun z H2 => z = .bl b ∧ Q (.bl (!b)) H2) (us := [.ref a1, u]) (vs := [.ref a1, y]) G hr hk b0 I (.cons rfl (.cons ry .nil)) ⟨rfl, M, st, [.ref j1, e], r, .cons hd (.cons he .nil), ?_⟩) (fun w s2 hq => ?_) fun _ _ z => z)))
  · rw [em]
    intro M' v' H' x4 rh rv
    cases rv
    exact ⟨rfl, q M' H' x4 rh⟩
  · obtain ⟨z, H2, I2, rz, rfl, q2⟩ := hq
    obtain rfl : w = Value.bool b := rz
    exact ⟨b, rfl, wpAny_pure ⟨_, rfl, .bl (!b), H2, I2, rfl, q2⟩⟩
def fNeO (c : Str) (m : Fn) (fa fb : Fe) : Fe := fun env st => (fa env st).bind fun d st => (fb env st).bind fun e st => if (insOf c d st).isSome = true ∧ sideO c st e = true then (match m [d, e] st with
  | .ok (.bl b) st2 => .ok (.bl (!b)) st2
  | _ => .bad) else .bad
theorem neO_ok {K : PySem.W.Frag} {mg : Str → Option Value} {c : Str} {m : Fn} {fa fb : Fe} {σ : L2.St} {H : Hp} {Q : VK} (h : tF K mg W (fNeO c m fa fb) σ H Q) : tOp (rNeO K mg c m) (tF K mg W fa) (tF K mg W fb) σ H Q := by
    obtain ⟨M, env, st, r, p⟩ := h
    refine ⟨M, env, st, r, Post.bind p fun M1 d1 st1 v1 H1 _ x1 r1 q1 p1 => ?_⟩
    refine ⟨M1, env, st1, r.mono x1 r1, Post.bind p1 fun M2 d2 st2 v2 H2 _ x2 r2 q2 p2 => ?_⟩
    by_cases hi : (insOf c d1 st2).isSome = true ∧ sideO c st2 d2 = true
    · rw [if_pos hi] at p2
      cases em : m [d1, d2] st2 with
      | ok z s3 =>
        rw [em] at p2
        cases z with
        | bl b => exact ⟨M2, st2, d1, d2, b, s3, r2, q1.mono x2, q2, hi.1, hi.2, em, fun M' H' x3 rh => p2 M' _ H' x3 rh (.bl (!b))⟩
        | _ => exact p2.elim
      | exc z s3 => rw [em] at p2; exact p2.elim
      | bad => rw [em] at p2; exact p2.elim
    · rw [if_neg hi] at p2
      exact p2.elim
theorem x_neO {a b : Expr} {c : Str} {pos : Pos} {fa fb : Fe} {k k' : Nat} {ps : List Str} {m : Fn} (D : DefM X.prog X.w X.K X.mg X.base c "__eq__" ps k 2 m) (hr : Room k' X.A) (hk : k + 1 ≤ k') (F : ClsF X.K X.mg c) (O : OthO X.K (ga X.K c)) (hm : Meth X.K (ga X.K c) "__eq__" (ma X.K (ga X.K c) "__eq__"))
    (hne : PySem.W.findIn X.K (.ref (ga X.K c)) "__ne__" = some (some (.builtin "object.__ne__"))) (ha : XE X W a fa) (hb : XE X W b fb)
    (hmk : behindInMarks .NotEq b = false := by first | exact nomark _ | rfl) : XE X W (.Compare a [.NotEq] [b] pos) (fNeO c m fa fb) :=
  (pe_cmpR (op_neO D hr hk F O hm hne) ha hb hmk).fb fun _ _ _ => neO_ok
theorem t_neO {a b : Expr} {c : Str} {pos : Pos} {fa fb : Fe} {k k' : Nat} {ps : List Str} {m : Fn} (D : DefM X.prog X.w X.K X.mg X.base c "__eq__" ps k 2 m) (hr : Room k' X.A) (hk : k + 1 ≤ k') (F : ClsF X.K X.mg c) (O : OthO X.K (ga X.K c)) (hm : Meth X.K (ga X.K c) "__eq__" (ma X.K (ga X.K c) "__eq__"))
    (hne : PySem.W.findIn X.K (.ref (ga X.K c)) "__ne__" = some (some (.builtin "object.__ne__"))) (ha : XE X W a fa) (hb : XE X W b fb)
    (hmk : behindInMarks .NotEq b = false := by first | exact nomark _ | rfl) : XT X W (.Compare a [.NotEq] [b] pos) (fTest (fNeO c m fa fb)) :=
  (pt_cmpR (op_neO D hr hk F O hm hne) ha hb hmk).fb fun _ _ _ h => (by
    obtain ⟨M, env, st, r, p⟩ := test_ok h
    exact neO_ok ⟨M, env, st, r, p⟩)
end
end Fb

/-! Fb.K8: isinstance(x, C), x an instance of the own class C. -/
namespace Fb
open PySem PySem.Spec PyProof.Rows L2
section
variable {X : Cx} {W : WX}
def gIsO (c : Str) (ds : List D) (st : Sto) : Option D := match ds with
  | [d, .gl x] => if x = c ∧ sideO c st d = true then some (.bl (insOf c d st).isSome) else none
  | _ => none
theorem b_isO {c : Str} (F : ClsF X.K X.mg c) (O : OthO X.K (ga X.K c)) : CallD X (.builtin "isinstance") (gIsO c) := by
  intro pins s σ H vs us Q I rx h
  obtain ⟨M, st, ds, z, r, hd, hg, q⟩ := h
  unfold gIsO at hg
  split at hg
  · rename_i d x
    split at hg
    · rename_i hx
      cases hg
      obtain ⟨rfl, hi⟩ := hx
      obtain ⟨v1, v2, rfl, h1, h2⟩ := hd.two
      obtain ⟨t, ty, _, hk⟩ := side_ok F O r h1 hi
      cases h2 with
      | @gl _ u _ hm rv =>
        rw [F.gl] at hm
        cases hm
        have ev : v2 = V.ref (ga X.K x) := by
          cases v2 <;> first | (cases rv; rfl) | (cases rv; done) | (obtain ⟨_, z⟩ := rv; cases z)
        subst ev
        exact call_isi pins s σ H _ us Q I rx ⟨_, _, _, _, _, rfl, .own _, ty, hk, q _ _ (Ext.refl _ _) r (.bl _)⟩
    · cases hg
  · cases hg
end
end Fb

/-! Fb.K9: what a head tells of an own class; the mirrors of classes as rewriting steps. -/
namespace Fb
open PySem PySem.Spec PyProof.Rows L2
def sdB (K : PySem.W.Frag) (C : Addr) (t : String) : Bool := PySem.W.notFirst K C (.type t) && decide (PySem.W.kitOne K (.type t) (.ref C) = some false)
theorem sdB_ok {K : PySem.W.Frag} {C : Addr} {t : String} (h : sdB K C t = true) : SdO K C t := ⟨(He.ba h).1, of_decide_eq_true (He.ba h).2⟩
def clsB (K : PySem.W.Frag) (c : Str) : Bool :=
  He.eqO (PySem.W.findIn K (.ref (ga K c)) "__ne__") (some (some (.builtin "object.__ne__"))) && (He.eqO (PySem.W.findIn K (.ref (ga K c)) "__class__") (some (some (.builtin "object.__class__"))) &&
    (He.eqO (PySem.W.specialIn K (.builtin "object.__class__") "__get__") (some (some (.builtin "getset_descriptor.__get__"))) && (decide (PySem.W.takesIn K (.builtin "object.__class__") = some true) && (decide (PySem.W.mroIn K (ga K c) (.type "object") = some true) &&
    (sdB K (ga K c) "str" && sdB K (ga K c) "list")))))
theorem clsB_ok {K : PySem.W.Frag} {c : Str} (h : clsB K c = true) : PySem.W.findIn K (.ref (ga K c)) "__ne__" = some (some (.builtin "object.__ne__")) ∧ OthO K (ga K c) := by
  unfold clsB at h
  obtain ⟨h1, h2⟩ := He.ba h
  obtain ⟨h3, h4⟩ := He.ba h2
  obtain ⟨h5, h6⟩ := He.ba h4
  obtain ⟨h7, h8⟩ := He.ba h6
  obtain ⟨h9, h10⟩ := He.ba h8
  obtain ⟨h11, h12⟩ := He.ba h10
  exact ⟨He.eqO_ok h1, sdB_ok h11, sdB_ok h12, He.eqO_ok h3, He.eqO_ok h5, of_decide_eq_true h7, of_decide_eq_true h9⟩
section
variable {env : Env} {st : Sto} {c f m : Str} {fo fv fa' fb' : Fe} {fa : Fa} {fn : Fn}
@[simp] theorem e_fld : fFld c f fo env st = (fo env st).bind fun d st => match insOf c d st with
  | some (_, fs) => match fs.lookup f with
    | some z => .ok z st
    | none => .bad
  | none => .bad := (rfl)
@[simp] theorem e_fldP : sFldP c f fo fv env st = RS.of (fv env st) env fun v st => RS.of (fo env st) env fun o st => match insOf c o st with
  | some (k, fs) => if fs.length < 1000 then .nx env (st.set k (.ins c (putG f v fs))) else .bad
  | none => .bad := (rfl)
@[simp] theorem e_meth : fMeth c m fn fo fa env st = (fo env st).bind fun o st1 => match insOf c o st1 with
  | some (_, fs) => if (fs.lookup m).isNone = true then (fa env st1).bind fun ds st2 => fn (o :: ds) st2 else .bad
  | none => .bad := (rfl)
@[simp] theorem e_make : fMake c fn fa env st = (fa env st).bind fun ds st1 => (fn (.ref st1.length :: ds) (st1 ++ [.ins c []])).bind fun d st2 => match d with
  | .non => .ok (.ref st1.length) st2
  | _ => .bad := (rfl)
@[simp] theorem e_lenO : fLenO c fn fo env st = (fo env st).bind fun d st1 => match insOf c d st1 with
  | some _ => (fn [d] st1).bind fun z st2 => match z with
    | .int i => if 0 ≤ i ∧ i < 2 ^ 63 then .ok (.int i) st2 else .bad
    | _ => .bad
  | none => .bad := (rfl)
@[simp] theorem e_eqO : fEqO c fn fa' fb' env st = (fa' env st).bind fun d st => (fb' env st).bind fun e st => if (insOf c d st).isSome = true ∧ sideO c st e = true then (match fn [d, e] st with
  | .ok (.bl b) st2 => .ok (.bl b) st2
  | _ => .bad) else .bad := (rfl)
@[simp] theorem e_neO : fNeO c fn fa' fb' env st = (fa' env st).bind fun d st => (fb' env st).bind fun e st => if (insOf c d st).isSome = true ∧ sideO c st e = true then (match fn [d, e] st with
  | .ok (.bl b) st2 => .ok (.bl (!b)) st2
  | _ => .bad) else .bad := (rfl)
@[simp] theorem e_insOf {k : Nat} : insOf c (.ref k) st = (match st[k]? with
  | some (.ins c' fs) => if c' = c then some (k, fs) else none
  | _ => none) := (rfl)
@[simp] theorem e_isO {d : D} {x : Str} : gIsO c [d, .gl x] st = if x = c ∧ sideO c st d = true then some (.bl (insOf c d st).isSome) else none := (rfl)
@[simp] theorem e_sideO {d : D} : sideO c st d = ((insOf c d st).isSome || (match tyName st d with
  | some t => t == "str" || t == "list"
  | none => false)) := (rfl)
@[simp] theorem e_tyR {k : Nat} : tyName st (.ref k) = (match st[k]? with
    | some (.lst _) => some "list"
    | some (.dct _) => some "dict"
    | _ => none) := (rfl)
@[simp] theorem e_insS {x : Str} : insOf c (.str x) st = none := (rfl)
end
end Fb

/-! Fb.X1: texts: str(x), sep.join(l), x.split(sep), list(x), a text walked, f-strings. -/
namespace Fb
open PySem PySem.Spec PyProof.Rows L2
section
variable {X : Cx} {W : WX}
/-! ### str(x), x an int or a text -/
def gStr (ds : List D) (_ : Sto) : Option D := match ds with
  | [.int i] => if i.natAbs.log2 < 1920 then some (.str (toString i)) else none
  | [.str t] => some (.str t)
  | _ => none
theorem b_str : CallD X (.type "str") gStr := by
  intro pins s σ H vs us Q I rx h
  obtain ⟨M, st, ds, z, r, hd, hg, q⟩ := h
  unfold gStr at hg
  split at hg
  · split at hg
    · rename_i hc
      cases hg
      obtain ⟨v, rfl, h1⟩ := hd.one
      cases h1
      exact call_str_int pins s σ H _ us Q I rx ⟨_, rfl, hc, fin_int r q (.str _)⟩
    · cases hg
  · cases hg
    obtain ⟨v, rfl, h1⟩ := hd.one
    cases h1
    exact SkE.call_str_str pins s σ H _ us Q I rx ⟨_, rfl, fin_int r q (.str _)⟩
  · cases hg
/-! ### methods of texts with one argument -/
abbrev Gs := Str → D → Sto → Option D
def rM1 (K : PySem.W.Frag) (mg : Str → Option Value) (g : Gs) : V → List V → Hp → VK → Prop := fun x xs H Q => ∃ a M st e v z, x = .str a ∧ xs = [v] ∧ RelH K mg M st H ∧ RV K mg M H e v ∧ g a e st = some z ∧ ∀ v H', Ext M H M H' → RelH K mg M st H' → RV K mg M H' z v → Q v H'
def fM1 (g : Gs) (fo fe : Fe) : Fe := fun env st => (fo env st).bind fun d st => match d with
  | .str a => (fe env st).bind fun e st => match g a e st with
    | some z => .ok z st
    | none => .bad
  | _ => .bad
theorem m1_ok {K : PySem.W.Frag} {mg : Str → Option Value} {g : Gs} {fo fe : Fe} {σ : L2.St} {H : Hp} {Q : VK} (h : tF K mg W (fM1 g fo fe) σ H Q) : tM1 (rM1 K mg g) (tF K mg W fo) (tF K mg W fe) σ H Q := by
  obtain ⟨M, env, st, r, p⟩ := h
  refine ⟨M, env, st, r, Post.bind p fun M1 d1 st1 v1 H1 _ x1 r1 q1 p1 => ?_⟩
  cases q1 with
  | str a =>
    refine ⟨⟨a, rfl⟩, M1, env, st1, r.mono x1 r1, Post.bind p1 fun M2 e st2 v2 H2 _ x2 r2 q2 p2 => ?_⟩
    cases e' : g a e st2 with
    | none => rw [e'] at p2; exact p2.elim
    | some z =>
      rw [e'] at p2
      exact ⟨a, M2, st2, e, v2, z, rfl, rfl, r2, q2, e', fun v H' x rh rv => p2 M2 v H' x rh rv⟩
  | _ => exact p1.elim
theorem x_m1 {id : String} {name : Str} {o e : Expr} {apos pos : Pos} {g : Gs} {fo fe : Fe} (slot : Slot "str" name id) (ty : typeOf (.builtin id) = pure (.type "method_descriptor")) (rule : MtR X id (rM1 X.K X.mg g)) (ho : XE X W o fo) (he : XE X W e fe)
    (hs : starEach [e] X.env = [(false, eval e X.env)] := by rfl) (hbase : attributeBase o name X.env (eval o X.env) = eval o X.env := by rfl) (hline : (apos.endLine == pos.line) = true := by rfl) :
    XE X W (.Call (.Attribute o name apos) [e] [] pos) (fM1 g fo fe) := (pe_m1 slot ty rule ho he hs hbase hline).fb fun _ _ _ => m1_ok
/-- x.split(sep) -/
def gSplit : Gs := fun a e _ => match e with
  | .str b => if b.length ≠ 0 ∧ a.length ≤ 100000 then some (.lst ((Txt.split a b).map .str)) else none
  | _ => none
theorem mt_splitD : MtR X "str.split" (rM1 X.K X.mg gSplit) := by
  intro pins s σ H x xs v us Q I rx rs h
  obtain ⟨a, M, st, e, w, z, rfl, rfl, r, re, hg, q⟩ := h
  unfold gSplit at hg
  split at hg
  · rename_i b
    split at hg
    · rename_i hc
      cases hg
      cases re
      exact mt_split pins s σ H _ _ v us Q I rx rs ⟨a, b, rfl, rfl, by simpa using hc.1, by have := sizeLine_eq; omega, fin_lst r q (rvs_strs _)⟩
    · cases hg
  · cases hg
theorem x_split {o e : Expr} {apos pos : Pos} {fo fe : Fe} (ho : XE X W o fo) (he : XE X W e fe)
    (hs : starEach [e] X.env = [(false, eval e X.env)] := by rfl) (hbase : attributeBase o "split" X.env (eval o X.env) = eval o X.env := by rfl) (hline : (apos.endLine == pos.line) = true := by rfl) :
    XE X W (.Call (.Attribute o "split" apos) [e] [] pos) (fM1 gSplit fo fe) := x_m1 F.slot_str_split F.type_str_split mt_splitD ho he hs hbase hline
/-- sep.join(l) -/
def toStrs : List D → Option (List Str)
  | [] => some []
  | .str s :: r => (toStrs r).map (s :: ·)
  | _ => none
theorem toStrs_ok {K : PySem.W.Frag} {mg : Str → Option Value} {M : Mp} {H : Hp} {ds : List D} {vs : List V} (h : RVs K mg M H ds vs) : ∀ {ys : List Str}, toStrs ds = some ys → vs = ys.map V.str := by
  induction ds generalizing vs with
  | nil =>
    intro ys e
    cases h
    cases e
    rfl
  | cons d ds ih =>
    intro ys e
    cases h with
    | cons h1 h2 =>
      unfold toStrs at e
      split at e
      · rename_i heq; cases heq
      · rename_i s r heq
        cases heq
        cases h1
        cases h3 : toStrs ds with
        | none => rw [h3] at e; cases e
        | some zs =>
          rw [h3] at e
          cases e
          rw [ih h2 h3]
          rfl
      · cases e
theorem toStrs_map : ∀ l : List Str, toStrs (l.map D.str) = some l
  | [] => rfl
  | x :: l => by
    rw [List.map_cons]
    unfold toStrs
    rw [toStrs_map l]
    rfl
def gJoin : Gs := fun a e st => (seqA st e).bind fun ds => (toStrs ds).bind fun ys => if (ys.map (·.length)).sum + ys.length * a.length ≤ 1000000 then some (.str (Txt.join a ys)) else none
theorem mt_joinD : MtR X "str.join" (rM1 X.K X.mg gJoin) := by
  intro pins s σ H x xs v us Q I rx rs h
  obtain ⟨a, M, st, e, w, z, rfl, rfl, r, re, hg, q⟩ := h
  unfold gJoin at hg
  cases h1 : seqA st e with
  | none => rw [h1] at hg; cases hg
  | some ds =>
    cases h2 : toStrs ds with
    | none => rw [h1] at hg; change ((toStrs ds).bind _) = _ at hg; rw [h2] at hg; cases hg
    | some ys =>
      rw [h1] at hg
      change ((toStrs ds).bind _) = _ at hg
      rw [h2] at hg
      have hg' : (if (ys.map (·.length)).sum + ys.length * a.length ≤ 1000000 then some (D.str (Txt.join a ys)) else none) = some z := hg
      split at hg'
      · rename_i hc
        cases hg'
        obtain ⟨p, zs, rfl, hs, rv⟩ := seqA_ok r re h1
        have ez := toStrs_ok rv h2
        subst ez
        exact mt_join pins s σ H _ _ v us Q I rx rs ⟨a, p, ys, rfl, rfl, hs, by omega, fin_int r q (.str _)⟩
      · cases hg'
theorem x_join {o e : Expr} {apos pos : Pos} {fo fe : Fe} (ho : XE X W o fo) (he : XE X W e fe)
    (hs : starEach [e] X.env = [(false, eval e X.env)] := by rfl) (hbase : attributeBase o "join" X.env (eval o X.env) = eval o X.env := by rfl) (hline : (apos.endLine == pos.line) = true := by rfl) :
    XE X W (.Call (.Attribute o "join" apos) [e] [] pos) (fM1 gJoin fo fe) := x_m1 F.slot_str_join F.type_str_join mt_joinD ho he hs hbase hline
/-! ### a text walked; list(x) -/
def signsD (z : Str) : List D := z.cps.toList.map fun c => .str ⟨#[c]⟩
theorem walk_txt {K : PySem.W.Frag} {mg : Str → Option Value} {M : Mp} {H : Hp} {z : Str} : Walk K mg (Its z) M H (.fix (signsD z)) := by
  have hl : (signsD z).length = z.cps.size := by unfold signsD; simp
  refine ⟨fun M' H' st es i x rh e1 e2 e3 => ?_, fun M' H' st es i d x rh e1 e2 e3 => ?_, fun M' H' st es i d v H2 x rh e1 e2 e3 y => ?_⟩
  · show z.cps.size ≤ i
    have e3' : (signsD z).length ≤ i := Nat.le_of_eq e3.symm
    omega
  · cases e1
    have := (List.getElem?_eq_some_iff.mp e3).1
    show i < z.cps.size
    omega
  · cases e1
    obtain ⟨rfl, c, hc, rfl⟩ := y
    have e : (signsD z)[i]? = some (.str ⟨#[c]⟩) := by
      unfold signsD
      rw [List.getElem?_map, Array.getElem?_toList, hc]
      rfl
    rw [e] at e3
    cases e3
    exact ⟨Ext.refl _ _, rh, .str _⟩
def fSrcS (f : Fe) : Fi := fun env st => (f env st).bind fun d st => match d with
  | .str z => .ok (.fix (signsD z)) st
  | _ => .bad
theorem i_txt {tg e : Expr} {f : Fe} (h : XE X W e f) : XI X W tg e (fSrcS f) := (pi_str h).fb fun σ H R ⟨M, env, st, r, p⟩ => ⟨M, env, st, r, iD_bind p fun M1 d st1 v H1 _ x1 r1 q1 p1 => by
  cases q1 with
  | str z => exact ⟨z, rfl, p1 M1 H1 _ (Ext.refl _ _) r1 walk_txt⟩
  | _ => exact p1.elim⟩
theorem call_listS (hcalm : X.calm = true) : CallR X (.type "list") (fun xs H Q => ∃ z : Str, xs = [.str z] ∧ z.length ≤ sizeLine ∧ ∀ p, H p = none → Q (.ref p) (upd H p (.lst (z.cps.toList.map fun c => V.str ⟨#[c]⟩)))) := by
  intro pins s σ H xs us Q I r h
  obtain ⟨z, rfl, hz, q⟩ := h
  obtain ⟨u, rfl, t, rfl⟩ := vals1 r
  refine PySem.call_list_str (hn := hz) (I.ok.hd hcalm) z t fun h' tk acc' c' hk hS hacc => ?_
  refine ⟨.ref s.heap.objs.size, upd H s.heap.objs.size (.lst (z.cps.toList.map fun c => V.str ⟨#[c]⟩)), I.laid hk (Nat.le_refl _) (show ObjOk X.prog X.w _ _ _ (.lst (z.cps.toList.map fun c => V.str ⟨#[c]⟩)) from ⟨?_, acc'.toList, c', ?_, ?_⟩), rfl, q _ (I.hok.fresh (Nat.le_refl _))⟩
  · rw [List.length_map, Array.length_toList]; exact hz
  · have el : acc'.toList.length = acc'.size := by simp
    refine vals_of_at (by rw [List.length_map, el, hacc.1, Array.length_toList]) fun j x w h1 h2 => ?_
    have hi := hacc.2 j w (by rw [← Array.getElem?_toList]; exact h2)
    obtain ⟨c, k, hc, e⟩ := hi
    have e2 : (z.cps.toList.map fun c => V.str ⟨#[c]⟩)[j]? = some (V.str ⟨#[c]⟩) := by
      rw [List.getElem?_map, Array.getElem?_toList, hc]
      rfl
    rw [e2] at h1
    cases h1
    exact ⟨k, e⟩
  · rw [Array.toArray_toList]; exact hS
def gListS (ds : List D) (_ : Sto) : Option D := match ds with
  | [.str z] => if z.length ≤ 100000 then some (.lst (signsD z)) else none
  | _ => none
theorem rvs_signs {K : PySem.W.Frag} {mg : Str → Option Value} {M : Mp} {H : Hp} : ∀ l : List Nat, RVs K mg M H (l.map fun c => D.str ⟨#[c]⟩) (l.map fun c => V.str ⟨#[c]⟩)
  | [] => .nil
  | x :: l => .cons (.str _) (rvs_signs l)
theorem b_listS (hcalm : X.calm = true) : CallD X (.type "list") gListS := by
  intro pins s σ H vs us Q I rx h
  obtain ⟨M, st, ds, z, r, hd, hg, q⟩ := h
  unfold gListS at hg
  split at hg
  · rename_i t
    split at hg
    · rename_i hz
      cases hg
      obtain ⟨v, rfl, h1⟩ := hd.one
      cases h1
      exact call_listS hcalm pins s σ H _ us Q I rx ⟨t, rfl, szl hz, fin_lst r q (rvs_signs _)⟩
    · cases hg
  · cases hg
/-! ### f-strings of texts and ints -/
def fmtD (d : D) : Option Str := match d with
  | .str y => if y.length ≤ 100000 then some y else none
  | .int i => if i.natAbs.log2 < 1920 then some (Str.ofString (toString i)) else none
  | _ => none
def fFmt (f : Fe) : Fe := fun env st => (f env st).bind fun d st => match fmtD d with
  | some y => .ok (.str y) st
  | none => .bad
theorem x_fmt {e : Expr} {pos : Pos} {f : Fe} (he : XE X W e f) : XE X W (.FormattedValue e (-1) none pos) (fFmt f) :=
  (pe_fmt he).fb fun σ H Q ⟨M, env, st, r, p⟩ => ⟨M, env, st, r, Post.bind p fun M1 d1 st1 v1 H1 _ x1 r1 q1 p1 => by
    cases e1 : fmtD d1 with
    | none => rw [e1] at p1; exact p1.elim
    | some y =>
      rw [e1] at p1
      unfold fmtD at e1
      split at e1
      · split at e1
        · rename_i hc
          cases e1
          cases q1
          exact .inl ⟨_, rfl, szl hc, p1 M1 _ H1 (Ext.refl _ _) r1 (.str _)⟩
        · cases e1
      · split at e1
        · rename_i hc
          cases e1
          cases q1
          exact .inr ⟨_, rfl, hc, p1 M1 _ H1 (Ext.refl _ _) r1 (.str _)⟩
        · cases e1
      · cases e1⟩
/-- the parts one behind the other -/
def fJs : List Fe → Str → Fe
  | [], acc => fun _ st => .ok (.str acc) st
  | f :: fs, acc => fun env st => (f env st).bind fun d st => match d with
    | .str y => if (acc ++ y).length ≤ 100000 then fJs fs (acc ++ y) env st else .bad
    | _ => .bad
inductive XJ (X : Cx) (W : WX) : List Expr → List Fe → Prop where
  | nil : XJ X W [] []
  | cons {e : Expr} {f : Fe} {es : List Expr} {fs : List Fe} (h : XE X W e f) (r : XJ X W es fs) : XJ X W (e :: es) (f :: fs)
theorem XJ.pj {es : List Expr} {fs : List Fe} (h : XJ X W es fs) : PJ X es (fs.map (tF X.K X.mg W)) := by
  induction h with
  | nil => exact .nil
  | cons h _ ih => exact .cons h ih
theorem js_ok {K : PySem.W.Frag} {mg : Str → Option Value} : ∀ (fs : List Fe) (acc : Str) (M : Mp) (env : Env) (st : Sto) (σ : L2.St) (H : Hp) (Q : VK), Rel K mg M env st σ H → Post K mg (RV K mg) W M σ H (fJs fs acc env st) Q → tJs (fs.map (tF K mg W)) acc σ H fun out H1 => Q (.str out) H1
  | [], acc, M, env, st, σ, H, Q, r, p => p M _ H (Ext.refl _ _) r.h (.str _)
  | f :: fs, acc, M, env, st, σ, H, Q, r, p => ⟨M, env, st, r, Post.bind p fun M1 d1 st1 v1 H1 _ x1 r1 q1 p1 => by
    cases q1 with
    | str y =>
      have p1' : Post K mg (RV K mg) W M1 σ H1 (if (acc ++ y).length ≤ 100000 then fJs fs (acc ++ y) env st1 else .bad) Q := p1
      by_cases hc : (acc ++ y).length ≤ 100000
      · rw [if_pos hc] at p1'
        exact ⟨y, rfl, szl hc, js_ok fs (acc ++ y) M1 env st1 σ H1 Q (r.mono x1 r1) p1'⟩
      · rw [if_neg hc] at p1'
        exact p1'.elim
    | _ => exact p1.elim⟩
theorem x_joined {v1 v2 : Expr} {rest : List Expr} {fs : List Fe} {pos : Pos} (h : XJ X W (v1 :: v2 :: rest) fs) : XE X W (.JoinedStr (v1 :: v2 :: rest) pos) (fJs fs Str.empty) :=
  (pe_joined h.pj).fb fun σ H Q ⟨M, env, st, r, p⟩ => js_ok fs Str.empty M env st σ H Q r p
end
section
variable {env : Env} {st : Sto} {fo fe f : Fe} {g : Gs} {a acc : Str} {d e : D} {fs : List Fe}
@[simp] theorem e_strI {i : Int} : gStr [.int i] st = if i.natAbs.log2 < 1920 then some (.str (toString i)) else none := (rfl)
@[simp] theorem e_strS : gStr [.str a] st = some (.str a) := (rfl)
@[simp] theorem e_m1 : fM1 g fo fe env st = (fo env st).bind fun d st => match d with
  | .str a => (fe env st).bind fun e st => match g a e st with
    | some z => .ok z st
    | none => .bad
  | _ => .bad := (rfl)
@[simp] theorem e_split {b : Str} : gSplit a (.str b) st = if b.length ≠ 0 ∧ a.length ≤ 100000 then some (.lst ((Txt.split a b).map .str)) else none := (rfl)
@[simp] theorem e_join : gJoin a e st = (seqA st e).bind fun ds => (toStrs ds).bind fun ys => if (ys.map (·.length)).sum + ys.length * a.length ≤ 1000000 then some (.str (Txt.join a ys)) else none := (rfl)
@[simp] theorem e_srcS : fSrcS f env st = (f env st).bind fun d st => match d with
  | .str z => .ok (.fix (signsD z)) st
  | _ => .bad := (rfl)
@[simp] theorem e_listS : gListS [.str a] st = if a.length ≤ 100000 then some (.lst (signsD a)) else none := (rfl)
@[simp] theorem e_fmt : fFmt f env st = (f env st).bind fun d st => match fmtD d with
  | some y => .ok (.str y) st
  | none => .bad := (rfl)
@[simp] theorem e_js0 : fJs [] acc env st = .ok (.str acc) st := (rfl)
@[simp] theorem e_js1 : fJs (f :: fs) acc env st = (f env st).bind fun d st => match d with
    | .str y => if (acc ++ y).length ≤ 100000 then fJs fs (acc ++ y) env st else .bad
    | _ => .bad := (rfl)
@[simp] theorem e_fmtS : fmtD (.str a) = if a.length ≤ 100000 then some a else none := (rfl)
@[simp] theorem e_fmtI {i : Int} : fmtD (.int i) = if i.natAbs.log2 < 1920 then some (Str.ofString (toString i)) else none := (rfl)
end
end Fb

/-! Fb.X2: o[i], o[j] = x, y; str(x) by an own __str__. -/
namespace Fb
open PySem PySem.Spec PyProof.Rows L2
section
variable {X : Cx} {W : WX}
/-! ### two items stored -/
def putS (fo fi : Fe) (d : D) (env : Env) (k : Sto → RS) : Sto → RS := fun st => RS.of (fo env st) env fun o st => RS.of (fi env st) env fun i st => match putD o i d st with
  | some st => k st
  | none => .bad
theorem putS_ok {K : PySem.W.Frag} {mg : Str → Option Value} {fo fi : Fe} {d : D} {v : V} {env : Env} {k : Sto → RS} {M : Mp} {st : Sto} {σ : L2.St} {H : Hp} {Q : Ends} {N : L2.St → Hp → Prop} (r : Rel K mg M env st σ H) (rv : RV K mg M H d v) (p : PostS K mg W M H (putS fo fi d env k st) Q)
    (h : ∀ M' st' H', Ext M H M' H' → Rel K mg M' env st' σ H' → PostS K mg W M' H' (k st') Q → N σ H') : L2.gSub (tF K mg W fo) (tF K mg W fi) rSetL v σ H N := by
  refine ⟨M, env, st, r, PostS.of r p fun M2 d2 st2 v2 H2 _ x2 r2 q2 p2 => ?_⟩
  have rr2 := r.mono x2 r2
  refine ⟨M2, env, st2, rr2, PostS.of rr2 p2 fun M3 d3 st3 v3 H3 _ x3 r3 q3 p3 => ?_⟩
  cases e : putD d2 d3 d st3 with
  | none => rw [e] at p3; exact p3.elim
  | some st4 =>
    rw [e] at p3
    unfold putD at e
    split at e
    · rename_i k0 n _ _
      split at e
      · rename_i ds hds
        cases hj : ixN ds.length n with
        | none => rw [hj] at e; cases e
        | some j =>
          rw [hj] at e
          cases e
          have q2' := q2.mono x3
          cases q2' with
          | @ref _ a hk =>
            cases q3
            obtain ⟨vs, c1, c2⟩ := r3.cell k0 _ a hds hk
            refine ⟨a, vs, n, j, rfl, rfl, c1, by rw [← c2.length]; exact hj, ?_⟩
            have x4 : Ext M3 H3 M3 (upd H3 a (.lst (vs.set j v))) := Ext.wr r3 hk
            exact h M3 (st3.set k0 (.lst (ds.set j d))) _ ((x2.trans x3).trans x4) ⟨r3.wr hk ⟨_, upd_same, (RVs.set ((rv.mono x2).mono x3) j c2).mono x4⟩, ((rr2.mono x3 r3).e).mono x4⟩ (PostS.mono p3 x4)
      · cases e
    · cases e
def sPut2 (o1 i1 o2 i2 fv : Fe) : Fs := fun env st => RS.of (fv env st) env fun v st => match v with
  | .tup [d1, d2] => putS o1 i1 d1 env (putS o2 i2 d2 env fun st => .nx env st) st
  | _ => .bad
theorem s_put2 {o1 i1 o2 i2 e : Expr} {f1 g1 f2 g2 fv : Fe} {p1 p2 pt pos : Pos} {kt : Nat} (hc : X.calm = true) (he : XE X W e fv) (ho1 : XE X W o1 f1) (hi1 : XE X W i1 g1) (ho2 : XE X W o2 f2) (hi2 : XE X W i2 g2)
    (hs : swapsWithSole [.Tuple [.Subscript o1 i1 p1, .Subscript o2 i2 p2] kt pt] e pos.line X.env = pure false := by rfl) (hw : swappedStores [.Tuple [.Subscript o1 i1 p1, .Subscript o2 i2 p2] kt pt] e X.env = pure none := by rfl)
    (h1 : (assignEach [.Tuple [.Subscript o1 i1 p1, .Subscript o2 i2 p2] kt pt] X.env).map (·.2) = [assign (.Tuple [.Subscript o1 i1 p1, .Subscript o2 i2 p2] kt pt) X.env] := by rfl)
    (ha1 : ∀ v, assign (.Subscript o1 i1 p1) X.env v = (do
      let ov ← holding [v] (eval o1 X.env)
      let iv ← holding [v, ov] (eval i1 X.env)
      standAt p1
      holding [v, ov, iv] (setItem ov iv v)
      release [v, ov, iv] []) := by intro _; rfl)
    (ha2 : ∀ v, assign (.Subscript o2 i2 p2) X.env v = (do
      let ov ← holding [v] (eval o2 X.env)
      let iv ← holding [v, ov] (eval i2 X.env)
      standAt p2
      holding [v, ov, iv] (setItem ov iv v)
      release [v, ov, iv] []) := by intro _; rfl)
    (hc1 : (assignEach [.Subscript o1 i1 p1, .Subscript o2 i2 p2] X.env).map (·.2) = assign (.Subscript o1 i1 p1) X.env :: (assignEach [.Subscript o2 i2 p2] X.env).map (·.2) := by rfl)
    (hc2 : (assignEach [.Subscript o2 i2 p2] X.env).map (·.2) = assign (.Subscript o2 i2 p2) X.env :: (assignEach [] X.env).map (·.2) := by rfl)
    (hn : (assignEach [.Subscript o1 i1 p1, .Subscript o2 i2 p2] X.env).length = 2 := by rfl) (hst : (assignEach [.Subscript o1 i1 p1, .Subscript o2 i2 p2] X.env).findIdx? (·.1) = none := by rfl) :
    XS X W (.Assign [.Tuple [.Subscript o1 i1 p1, .Subscript o2 i2 p2] kt pt] e pos) (sPut2 f1 g1 f2 g2 fv) :=
  (ps_asg he (pg_tup hc (pgs_cons (pg_sub ho1 hi1 set_list ha1) (pgs_cons (pg_sub ho2 hi2 set_list ha2) pgs_nil hc2) hc1) hn hst) hs hw h1).fb fun Q σ H ⟨M, env, st, r, p⟩ => ⟨M, env, st, r, PostS.of r p fun M1 v st1 vv H1 _ x1 r1 q1 p1 => by
    have rr1 := r.mono x1 r1
    match v, q1, p1 with
    | .tup [d1, d2], q1, p1 =>
      cases q1 with
      | tup t rs =>
        obtain ⟨v1, v2, rfl, a1, a2⟩ := rs.two
        refine ⟨_, _, rfl, t.sq, rfl, v1, [v2], rfl, putS_ok rr1 a1 p1 fun M2 st2 H2 x2 rr2 p2 => ⟨v2, [], rfl, putS_ok rr2 (a2.mono x2) p2 fun M3 st3 H3 x3 rr3 p3 => ⟨rfl, p3 M3 σ H3 (Ext.refl _ _) rr3⟩⟩⟩
    | .tup [], _, p1 => exact p1.elim
    | .tup [_], _, p1 => exact p1.elim
    | .tup (_ :: _ :: _ :: _), _, p1 => exact p1.elim
    | .non, _, p1 => exact p1.elim
    | .bl _, _, p1 => exact p1.elim
    | .int _, _, p1 => exact p1.elim
    | .str _, _, p1 => exact p1.elim
    | .lst _, _, p1 => exact p1.elim
    | .ref _, _, p1 => exact p1.elim
    | .gl _, _, p1 => exact p1.elim
    | .ty _, _, p1 => exact p1.elim
    | .exc _, _, p1 => exact p1.elim⟩
/-! ### str(x) by an own __str__ -/
theorem run_in2E {k k' n : Nat} {f : Addr} {fd : FuncData} {ps : List Str} {m : Fn} {pins : List (Addr × Obj)} {σ : L2.St} {H : Hp} {s : Shared} {Q : VK} {us : List Value} {vs : List V} (F : FnOk X.prog X.w X.K X.mg X.base (L2.CX X.prog X.w) k f fd ps (spM X.K X.mg n m)) (hr : Room k' X.A) (hk : k + 2 ≤ k') (hb : Binds X.K fd ps [])
    (I : Inv X pins σ H s) (r : Vals vs us) (h : spM X.K X.mg n m vs H Q E0) : wpAny (model X.prog X.w) X.A.in1.in1 (call (.ref f) us) (EP X pins σ Q) X.xe s := by
  have hl : us.length = ps.length := by rw [← r.length]; exact F.len _ _ _ _ h
  have b := hb s us I.kIn (by rw [List.append_nil]; exact hl)
  rw [List.append_nil] at b
  refine wpAny_call (codeAny_mono (F.run X.A.in1.in1 X.stack s H ⟨us, []⟩ us vs Q E0 (hr.mono hk).in1.in1 I.env0.in1.in1 b r h) fun r s' hq => ?_)
  cases r with
  | error e => exact passE0 σ pins H s e s' I hq
  | ok fl =>
    cases fl with
    | ret u => exact I.after hq
    | next => exact False.elim hq
    | brk => exact False.elim hq
    | cont => exact False.elim hq
def rStrO (K : PySem.W.Frag) (mg : Str → Option Value) (c : Str) (m : Fn) : List V → Hp → VK → Prop := fun vs H Q => ∃ v M st d y st2, vs = [v] ∧ RelH K mg M st H ∧ RV K mg M H d v ∧ (insOf c d st).isSome = true ∧ m [d] st = .ok (.str y) st2 ∧ ∀ M' H', Ext M H M' H' → RelH K mg M' st2 H' → Q (.str y) H'
theorem call_strO {c : Str} {k k' : Nat} {ps : List Str} {m : Fn} (D : DefM X.prog X.w X.K X.mg X.base c "__str__" ps k 1 m) (hr : Room k' X.A) (hk : k + 2 ≤ k') (F : ClsF X.K X.mg c) (hm : Meth X.K (ga X.K c) "__str__" (ma X.K (ga X.K c) "__str__")) : CallR X (.type "str") (rStrO X.K X.mg c m) := by
  obtain ⟨fd, G, b0⟩ := D.ex
  intro pins s σ H vs us Q I rx ⟨v, M, st, d, y, st2, ev, r, hd, hi, em, q⟩
  subst ev
  obtain ⟨u, rfl, ru⟩ := vals1 rx
  obtain ⟨⟨j, f1⟩, e1⟩ := Option.isSome_iff_exists.mp hi
  obtain ⟨a1, dx1, g1, rfl, rfl, _, ha, _⟩ := insOf_ok F r hd e1
  obtain rfl : u = Value.ref a1 := ru
  obtain ⟨mA, J, _⟩ := ins_get I.hok ha
  obtain ⟨od, J, _⟩ := J.look
  refine PySem.W.kso_call (hr.mono hk).in1.in1.units0 I.kIn J hm.at_ hm.fn ?_
  refine wpAny_mono (run_in2E (Q := fun z H2 => z = .str y ∧ Q (.str y) H2) (us := [.ref a1]) (vs := [.ref a1]) G hr hk b0 I (.cons rfl .nil) ⟨rfl, M, st, [.ref j], r, .cons hd .nil, ?_⟩) (fun w s2 hq => ?_) fun _ _ z => z
  · rw [em]
    intro M' v' H' x4 rh rv
    cases rv
    exact ⟨rfl, q M' H' x4 rh⟩
  · obtain ⟨z, H2, I2, rz, rfl, q2⟩ := hq
    obtain ⟨t, rfl⟩ := rz
    exact ⟨.str y, H2, I2, ⟨t, rfl⟩, q2⟩
def fStrO (c : Str) (m : Fn) (fe : Fe) : Fe := fun env st => (fe env st).bind fun d st => if (insOf c d st).isSome = true then (match m [d] st with
  | .ok (.str y) st2 => .ok (.str y) st2
  | _ => .bad) else .bad
theorem x_strO {e : Expr} {c : Str} {p pos : Pos} {fe : Fe} {k k' : Nat} {ps : List Str} {m : Fn} (D : DefM X.prog X.w X.K X.mg X.base c "__str__" ps k 1 m) (hr : Room k' X.A) (hk : k + 2 ≤ k') (F : ClsF X.K X.mg c) (hm : Meth X.K (ga X.K c) "__str__" (ma X.K (ga X.K c) "__str__")) (hg : Gl X "str") (hn : X.mg "str" = none) (he : XE X W e fe)
    (na : starEach [e] X.env = (false, eval e X.env) :: starEach [] X.env := by rfl) (hpl : (backTo pos (starEach [] X.env)).any (·.1) = false := by rfl) : XE X W (.Call (.Name "str" p) [e] [] pos) (fStrO c m fe) :=
  (pe_callTy (call_strO D hr hk F hm) hg hn (by rfl) (a_cons he (a_nil (W := W)) na) (by decide) (by decide) na hpl).fb fun σ H Q ⟨M, env, st, r, p⟩ => by
    refine ⟨M, env, st, r, ?_⟩
    have p' : Post X.K X.mg (RV X.K X.mg) W M σ H ((fCons fe fNil env st).bind fun ds st => match ds with
      | [d] => if (insOf c d st).isSome = true then (match m [d] st with
        | .ok (.str y) st2 => .ok (.str y) st2
        | _ => .bad) else .bad
      | _ => .bad) Q := by
      show Post X.K X.mg (RV X.K X.mg) W M σ H (R.bind (R.bind (fe env st) _) _) Q
      cases e1 : fe env st with
      | ok d s => 
        have p2 : Post X.K X.mg (RV X.K X.mg) W M σ H (R.bind (fe env st) _) Q := p
        rw [e1] at p2
        exact p2
      | exc x s =>
        have p2 : Post X.K X.mg (RV X.K X.mg) W M σ H (R.bind (fe env st) _) Q := p
        rw [e1] at p2
        exact p2
      | bad =>
        have p2 : Post X.K X.mg (RV X.K X.mg) W M σ H (R.bind (fe env st) _) Q := p
        rw [e1] at p2
        exact p2
    refine Post.bind p' fun M1 ds st1 vs H1 _ x1 r1 q1 p1 => ?_
    match ds, q1, p1 with
    | [d], q1, p1 =>
      obtain ⟨v, rfl, q1'⟩ := q1.one
      by_cases hi : (insOf c d st1).isSome = true
      · have p1' : Post X.K X.mg (RV X.K X.mg) W M1 σ H1 (if (insOf c d st1).isSome = true then (match m [d] st1 with
          | .ok (.str y) st2 => .ok (.str y) st2
          | _ => .bad) else .bad) Q := p1
        rw [if_pos hi] at p1'
        cases em : m [d] st1 with
        | ok z s3 =>
          rw [em] at p1'
          cases z with
          | str y => exact ⟨v, M1, st1, d, y, s3, rfl, r1, q1', hi, em, fun M' H' x3 rh => p1' M' _ H' x3 rh (.str y)⟩
          | _ => exact p1'.elim
        | exc z s3 => rw [em] at p1'; exact p1'.elim
        | bad => rw [em] at p1'; exact p1'.elim
      · have p1' : Post X.K X.mg (RV X.K X.mg) W M1 σ H1 (if (insOf c d st1).isSome = true then (match m [d] st1 with
          | .ok (.str y) st2 => .ok (.str y) st2
          | _ => .bad) else .bad) Q := p1
        rw [if_neg hi] at p1'
        exact p1'.elim
    | [], _, p1 => exact p1.elim
    | _ :: _ :: _, _, p1 => exact p1.elim
/-! ### list(x) as a cell -/
theorem cons1 {K : PySem.W.Frag} {mg : Str → Option Value} {fe : Fe} {k : D → Sto → R D} {M : Mp} {env : Env} {st : Sto} {σ : L2.St} {H : Hp} {Q : VK} (p : Post K mg (RV K mg) W M σ H ((fe env st).bind k) Q) :
    Post K mg (RV K mg) W M σ H ((fCons fe fNil env st).bind fun ds st => match ds with
      | [d] => k d st
      | _ => .bad) Q := by
  show Post K mg (RV K mg) W M σ H (R.bind (R.bind (fe env st) _) _) Q
  cases e1 : fe env st with
  | ok d s => rw [e1] at p; exact p
  | exc x s => rw [e1] at p; exact p
  | bad => rw [e1] at p; exact p
def fListC (fe : Fe) : Fe := fun env st => (fe env st).bind fun d st => match seqA st d with
  | some ds => .ok (.ref st.length) (st ++ [.lst ds])
  | none => .bad
theorem x_listC {e : Expr} {p pos : Pos} {fe : Fe} (hg : Gl X "list") (hn : X.mg "list" = none) (he : XE X W e fe)
    (na : starEach [e] X.env = (false, eval e X.env) :: starEach [] X.env := by rfl) (hpl : (backTo pos (starEach [] X.env)).any (·.1) = false := by rfl) : XE X W (.Call (.Name "list" p) [e] [] pos) (fListC fe) :=
  (pe_callTy call_list_of hg hn (by rfl) (a_cons he (a_nil (W := W)) na) (by decide) (by decide) na hpl).fb fun σ H Q ⟨M, env, st, r, p⟩ => by
    refine ⟨M, env, st, r, Post.bind (cons1 p) fun M1 ds st1 vs H1 _ x1 r1 q1 p1 => ?_⟩
    match ds, q1, p1 with
    | [d], q1, p1 =>
      obtain ⟨v, rfl, q1'⟩ := q1.one
      cases h1 : seqA st1 d with
      | none =>
        have p1' : Post X.K X.mg (RV X.K X.mg) W M1 σ H1 (match seqA st1 d with | some ds => .ok (.ref st1.length) (st1 ++ [.lst ds]) | none => .bad) Q := p1
        rw [h1] at p1'
        exact p1'.elim
      | some es =>
        have p1' : Post X.K X.mg (RV X.K X.mg) W M1 σ H1 (match seqA st1 d with | some ds => .ok (.ref st1.length) (st1 ++ [.lst ds]) | none => .bad) Q := p1
        rw [h1] at p1'
        obtain ⟨a, ys, rfl, hs, rv⟩ := seqA_ok r1 q1' h1
        exact ⟨a, ys, rfl, hs, fun pp np => p1' (M1.push pp) _ _ (Ext.push np) (r1.push np ⟨ys, upd_same, rv.mono (Ext.push np)⟩) (.ref (push_get r1.len))⟩
    | [], _, p1 => exact p1.elim
    | _ :: _ :: _, _, p1 => exact p1.elim
end
section
variable {env : Env} {st : Sto} {o1 i1 o2 i2 fv fe fo fi : Fe} {c : Str} {m : Fn} {d : D} {k : Sto → RS}
@[simp] theorem e_putS : putS fo fi d env k st = RS.of (fo env st) env fun o st => RS.of (fi env st) env fun i st => match putD o i d st with
  | some st => k st
  | none => .bad := (rfl)
@[simp] theorem e_put2 : sPut2 o1 i1 o2 i2 fv env st = RS.of (fv env st) env fun v st => match v with
  | .tup [d1, d2] => putS o1 i1 d1 env (putS o2 i2 d2 env fun st => .nx env st) st
  | _ => .bad := (rfl)
@[simp] theorem e_listC : fListC fe env st = (fe env st).bind fun d st => match seqA st d with
  | some ds => .ok (.ref st.length) (st ++ [.lst ds])
  | none => .bad := (rfl)
@[simp] theorem e_strO : fStrO c m fe env st = (fe env st).bind fun d st => if (insOf c d st).isSome = true then (match m [d] st with
  | .ok (.str y) st2 => .ok (.str y) st2
  | _ => .bad) else .bad := (rfl)
end
end Fb

/-! Fb.X3: dict(l) of pairs with text keys, d.get(k, x). -/
namespace Fb
open PySem PySem.Spec PyProof.Rows L2
section
variable {X : Cx} {W : WX}
def pairsD : List D → Option (List (Key × D))
  | [] => some []
  | .tup [.str s, d] :: r => (pairsD r).map ((Sum.inr s, d) :: ·)
  | _ => none
theorem pairs_rv {K : PySem.W.Frag} {mg : Str → Option Value} {M : Mp} {H : Hp} {ds : List D} {vs : List V} (h : RVs K mg M H ds vs) : ∀ {kd : List (Key × D)}, pairsD ds = some kd →
    ∃ ps kv, vs = ps.map V.ref ∧ Paired (fun p kv => SqT K H p [kV kv.1, kv.2]) ps kv ∧ RFs K mg M H kd kv ∧ kv.map (·.1) = kd.map (·.1) := by
  induction ds generalizing vs with
  | nil =>
    intro kd e
    cases h
    cases e
    exact ⟨[], [], rfl, .nil, .nil, rfl⟩
  | cons d ds ih =>
    intro kd e
    cases h with
    | cons h1 h2 =>
      unfold pairsD at e
      split at e
      · rename_i heq; cases heq
      · rename_i s d' r heq
        cases heq
        cases h3 : pairsD ds with
        | none => rw [h3] at e; cases e
        | some kd' =>
          rw [h3] at e
          cases e
          obtain ⟨ps, kv, e1, e2, e3, e4⟩ := ih h2 h3
          cases h1 with
          | tup t rs =>
            obtain ⟨v1, v2, rfl, a1, a2⟩ := rs.two
            cases a1
            refine ⟨_ :: ps, (Sum.inr s, v2) :: kv, by rw [e1]; rfl, .cons t.sq e2, .cons a2 e3, ?_⟩
            rw [List.map_cons, List.map_cons, e4]
      · cases e
/-- dict(l): a new cell -/
def fDictP (fe : Fe) : Fe := fun env st => (fe env st).bind fun d st => match (seqL st d).bind pairsD with
  | some kvs => if (kvs.map (·.1)).Nodup then .ok (.ref st.length) (st ++ [.dct kvs]) else .bad
  | none => .bad
theorem x_dictP {e : Expr} {p pos : Pos} {fe : Fe} (hcalm : X.calm = true) (hg : Gl X "dict") (hn : X.mg "dict" = none) (he : XE X W e fe)
    (na : starEach [e] X.env = (false, eval e X.env) :: starEach [] X.env := by rfl) (hpl : (backTo pos (starEach [] X.env)).any (·.1) = false := by rfl) : XE X W (.Call (.Name "dict" p) [e] [] pos) (fDictP fe) :=
  (pe_callTy (call_dictP hcalm) hg hn (by rfl) (a_cons he (a_nil (W := W)) na) (by decide) (by decide) na hpl).fb fun σ H Q ⟨M, env, st, r, p⟩ => by
    refine ⟨M, env, st, r, Post.bind (cons1 p) fun M1 ds st1 vs H1 _ x1 r1 q1 p1 => ?_⟩
    match ds, q1, p1 with
    | [d], q1, p1 =>
      obtain ⟨v, rfl, q1'⟩ := q1.one
      have p1' : Post X.K X.mg (RV X.K X.mg) W M1 σ H1 (match (seqL st1 d).bind pairsD with
        | some kvs => if (kvs.map (·.1)).Nodup then .ok (.ref st1.length) (st1 ++ [.dct kvs]) else .bad
        | none => .bad) Q := p1
      cases h1 : seqL st1 d with
      | none => rw [h1] at p1'; exact p1'.elim
      | some es =>
        cases h2 : pairsD es with
        | none =>
          rw [h1] at p1'
          have p2 : Post X.K X.mg (RV X.K X.mg) W M1 σ H1 (match pairsD es with
            | some kvs => if (kvs.map (·.1)).Nodup then .ok (.ref st1.length) (st1 ++ [.dct kvs]) else .bad
            | none => .bad) Q := p1'
          rw [h2] at p2
          exact p2.elim
        | some kvs =>
          rw [h1] at p1'
          have p2 : Post X.K X.mg (RV X.K X.mg) W M1 σ H1 (match pairsD es with
            | some kvs => if (kvs.map (·.1)).Nodup then .ok (.ref st1.length) (st1 ++ [.dct kvs]) else .bad
            | none => .bad) Q := p1'
          rw [h2] at p2
          have p3 : Post X.K X.mg (RV X.K X.mg) W M1 σ H1 (if (kvs.map (·.1)).Nodup then .ok (.ref st1.length) (st1 ++ [.dct kvs]) else .bad) Q := p2
          by_cases hn : (kvs.map (·.1)).Nodup
          · rw [if_pos hn] at p3
            obtain ⟨a, ys, rfl, hs, rv⟩ := seqL_ok r1 q1' h1
            obtain ⟨ps, kv, e1, e2, e3, e4⟩ := pairs_rv rv h2
            subst e1
            refine ⟨a, ps, kv, rfl, .inl hs, e2, fun pp np => ?_⟩
            rw [mergeK_nil (by rw [e4]; exact hn)]
            exact p3 (M1.push pp) _ _ (Ext.push np) (r1.push np ⟨kv, upd_same, e3.mono (Ext.push np)⟩) (.ref (push_get r1.len))
          · rw [if_neg hn] at p3
            exact p3.elim
    | [], _, p1 => exact p1.elim
    | _ :: _ :: _, _, p1 => exact p1.elim
/-! ### d.get(k, x) -/
theorem rfs_find0 {K : PySem.W.Frag} {mg : Str → Option Value} {M : Mp} {H : Hp} {fs : List (Key × D)} {gs : List (Key × V)} (h : RFs K mg M H fs gs) (k : Key) (e : (fs.find? fun kv => decide (kv.1 = k)).map (·.2) = none) : valV gs k = none := by
  induction h with
  | nil => rfl
  | @cons x d0 v0 fs gs r0 t ih =>
    by_cases z : x = k
    · rw [List.find?_cons, decide_eq_true z] at e
      cases e
    · rw [List.find?_cons, decide_eq_false z] at e
      rw [valV_neg (p := (x, v0)) z]
      exact ih e
def isDct (st : Sto) (d : D) : Bool := match d with
  | .ref k => match st[k]? with
    | some (.dct _) => true
    | _ => false
  | _ => false
def getDX (d e z : D) (st : Sto) : Option D := match d, e with
  | .ref k, .str s => match st[k]? with
    | some (.dct kvs) => some (((kvs.find? fun kv => decide (kv.1 = Sum.inr s)).map (·.2)).getD z)
    | _ => none
  | _, _ => none
def fGet2 (fo fe fx : Fe) : Fe := fun env st => (fo env st).bind fun d st => if isDct st d = true then (fe env st).bind fun e st => (fx env st).bind fun z st => match getDX d e z st with
  | some y => .ok y st
  | none => .bad else .bad
theorem isDct_ok {K : PySem.W.Frag} {mg : Str → Option Value} {M : Mp} {st : Sto} {H : Hp} {d : D} {v : V} (r : RelH K mg M st H) (h : RV K mg M H d v) (e : isDct st d = true) : ∃ a, v = .ref a ∧ IsD H a := by
  unfold isDct at e
  split at e
  · rename_i k
    split at e
    · rename_i kvs hc
      cases h with
      | ref hm =>
        obtain ⟨ws, a1, a2⟩ := r.cell _ _ _ hc hm
        exact ⟨_, rfl, .inl ⟨ws, .inl a1⟩⟩
    · cases e
  · cases e
theorem x_get2 {o e f : Expr} {apos cpos : Pos} {fo fe fx : Fe} (hu : X.A.units + 1 < cLine) (ho : XE X W o fo) (he : XE X W e fe) (hf : XE X W f fx) (m : M2 X o "get" apos e f cpos := by exact ⟨rfl, rfl, rfl, rfl⟩) : XE X W (.Call (.Attribute o "get" apos) [e, f] [] cpos) (fGet2 fo fe fx) :=
  (pe_dget2 hu ho he hf m).fb fun σ H Q ⟨M, env, st, r, p⟩ => by
    refine ⟨M, env, st, r, Post.bind p fun M1 d st1 v1 H1 _ x1 r1 q1 p1 => ?_⟩
    by_cases hd : isDct st1 d = true
    · rw [if_pos hd] at p1
      obtain ⟨a, rfl, ha⟩ := isDct_ok r1 q1 hd
      refine ⟨a, rfl, ha, M1, env, st1, r.mono x1 r1, Post.bind p1 fun M2 e1 st2 v2 H2 _ x2 r2 q2 p2 => ?_⟩
      refine ⟨M2, env, st2, (r.mono x1 r1).mono x2 r2, Post.bind p2 fun M3 z st3 v3 H3 _ x3 r3 q3 p3 => ?_⟩
      cases hg : getDX d e1 z st3 with
      | none => rw [hg] at p3; exact p3.elim
      | some y =>
        rw [hg] at p3
        unfold getDX at hg
        split at hg
        · rename_i k s _ _
          split at hg
          · rename_i kvs hc
            cases hg
            cases q2
            have q1' := (q1.mono x2).mono x3
            cases q1' with
            | ref hm =>
              obtain ⟨ws, a1, a2⟩ := r3.cell _ _ _ hc hm
              refine ⟨valV ws (Sum.inr s), .inl ⟨ws, Sum.inr s, .inl a1, rfl, rfl⟩, ?_⟩
              cases hf : (kvs.find? fun kv => decide (kv.1 = Sum.inr s)).map (·.2) with
              | none =>
                rw [rfs_find0 a2 _ hf]
                rw [hf] at p3
                exact p3 M3 _ H3 (Ext.refl _ _) r3 q3
              | some y =>
                obtain ⟨v, e1, e2⟩ := rfs_find a2 _ hf
                rw [e1]
                rw [hf] at p3
                exact p3 M3 v H3 (Ext.refl _ _) r3 e2
          · cases hg
        · cases hg
    · rw [if_neg hd] at p1
      exact p1.elim
end
section
variable {env : Env} {st : Sto} {fo fe fx : Fe} {d z : D} {k : Nat} {s : Str} {ds : List D}
@[simp] theorem e_dictP : fDictP fe env st = (fe env st).bind fun d st => match (seqL st d).bind pairsD with
  | some kvs => if (kvs.map (·.1)).Nodup then .ok (.ref st.length) (st ++ [.dct kvs]) else .bad
  | none => .bad := (rfl)
@[simp] theorem e_get2 : fGet2 fo fe fx env st = (fo env st).bind fun d st => if isDct st d = true then (fe env st).bind fun e st => (fx env st).bind fun z st => match getDX d e z st with
  | some y => .ok y st
  | none => .bad else .bad := (rfl)
@[simp] theorem e_isDct : isDct st (.ref k) = (match st[k]? with
    | some (.dct _) => true
    | _ => false) := (rfl)
@[simp] theorem e_getDX : getDX (.ref k) (.str s) z st = (match st[k]? with
    | some (.dct kvs) => some (((kvs.find? fun kv => decide (kv.1 = Sum.inr s)).map (·.2)).getD z)
    | _ => none) := (rfl)
end
end Fb

/-! Fb.X4: isinstance(x, (T1, T2, ..)) of built-in types. -/
namespace Fb
open PySem PySem.Spec PyProof.Rows L2
section
variable {X : Cx} {W : WX}
def tysD : List D → Option (List String)
  | [] => some []
  | .ty n :: r => (tysD r).map (n :: ·)
  | _ => none
theorem tysD_ok {K : PySem.W.Frag} {mg : Str → Option Value} {M : Mp} {H : Hp} {ds : List D} {vs : List V} (h : RVs K mg M H ds vs) : ∀ {ns : List String}, tysD ds = some ns → vs = ns.map V.ty := by
  induction ds generalizing vs with
  | nil =>
    intro ns e
    cases h
    cases e
    rfl
  | cons d ds ih =>
    intro ns e
    cases h with
    | cons h1 h2 =>
      unfold tysD at e
      split at e
      · rename_i heq; cases heq
      · rename_i n r heq
        cases heq
        cases h1
        cases h3 : tysD ds with
        | none => rw [h3] at e; cases e
        | some zs =>
          rw [h3] at e
          cases e
          rw [ih h2 h3]
          rfl
      · cases e
theorem vals_tys : ∀ {ns : List String} {us : List Value}, Vals (ns.map V.ty) us → us = ns.map Value.type
  | [], _, .nil => rfl
  | n :: ns, _, .cons r t => by
    cases (show _ = Value.type n from r)
    rw [vals_tys t]
    rfl
def kitAnyB (t : String) : List String → Option Bool
  | [] => some false
  | n :: ns => match kitB t n with
    | some true => some true
    | some false => kitAnyB t ns
    | none => none
theorem kitAnyB_ok {K : PySem.W.Frag} {t : String} : ∀ {ns : List String} {b : Bool}, kitAnyB t ns = some b → PySem.W.kitAny K (.type t) (ns.map Value.type) = some b
  | [], b, e => by cases e; rfl
  | n :: ns, b, e => by
    unfold kitAnyB at e
    cases h : kitB t n with
    | none => rw [h] at e; cases e
    | some c =>
      rw [h] at e
      have k := kit_ty (K := K) h
      cases c with
      | true => cases e; exact kitAny_cons k (fun z => by cases z) fun _ => rfl
      | false => exact kitAny_cons k (fun _ => kitAnyB_ok e) fun z => by cases z
def gIsiT (ds : List D) (st : Sto) : Option D := match ds with
  | [d, .tup cs] => (tyName st d).bind fun t => (tysD cs).bind fun ns => (kitAnyB t ns).map .bl
  | _ => none
theorem b_isiT : CallD X (.builtin "isinstance") gIsiT := by
  intro pins s σ H vs us Q I rx h
  obtain ⟨M, st, ds, z, r, hd, hg, q⟩ := h
  unfold gIsiT at hg
  split at hg
  · rename_i d cs
    cases h1 : tyName st d with
    | none => rw [h1] at hg; cases hg
    | some t =>
      rw [h1] at hg
      have hg1 : ((tysD cs).bind fun ns => (kitAnyB t ns).map D.bl) = some z := hg
      cases h2 : tysD cs with
      | none => rw [h2] at hg1; cases hg1
      | some ns =>
        rw [h2] at hg1
        have hg2 : (kitAnyB t ns).map D.bl = some z := hg1
        cases h3 : kitAnyB t ns with
        | none => rw [h3] at hg2; cases hg2
        | some b =>
          rw [h3] at hg2
          cases hg2
          obtain ⟨v1, v2, rfl, a1, a2⟩ := hd.two
          obtain ⟨u1, u2, rfl, r1, r2⟩ := vals2 rx
          obtain ⟨P, Z, p, hx⟩ := kit_of I r1 (tyName_ok r a1 h1)
          cases a2 with
          | @tup a xs _ tr rs =>
            cases (show u2 = Value.ref a from r2)
            have ex := tysD_ok rs h2
            subst ex
            obtain ⟨its, rv, ht, _⟩ := I.tuple tr.sq
            have ei := vals_tys rv
            subst ei
            obtain ⟨o, ho, hc, n, hdt⟩ := ht
            obtain ⟨oc, od, dt, sl⟩ := o
            simp only at hc hdt
            subst hc hdt
            exact PySem.W.kia_tup Z I.kIn p ho (kitAnyB_ok h3) hx fun tk => ⟨.bl b, H, I.tok tk, rfl, fin_int r q (.bl _)⟩
  · cases hg
end
@[simp] theorem e_isiT {d : D} {cs : List D} {st : Sto} : gIsiT [d, .tup cs] st = (tyName st d).bind fun t => (tysD cs).bind fun ns => (kitAnyB t ns).map .bl := (rfl)
end Fb

/-! Fb.X5: a, *b = l; a comprehension as a cell; x.replace(y, z) where a text has been made before. -/
namespace Fb
open PySem PySem.Spec PyProof.Rows L2
section
variable {X : Cx} {W : WX}
/-! ### a, *b = l -/
def gStar (K : PySem.W.Frag) (i j : Nat) : TG := fun v σ H Q => ∃ a x xs, v = .ref a ∧ SqL K H a (x :: xs) ∧ ∀ p, H p = none → Q ((σ.set i (some x)).set j (some (.ref p))) (upd H p (.lst xs))
theorem pg_star {i j : Nat} {x y : Str} {px py ps pos : Pos} {kt : Nat} (hc : X.calm = true) (hN : X.N.Nodup) (hi : X.N[i]? = some x) (hj : X.N[j]? = some y) (hx : X.env.scope.names.lookup x = some .local) (hy : X.env.scope.names.lookup y = some .local)
    (h2 : (assignEach [.Name x px, .Starred (.Name y py) ps] X.env).map (·.2) = [assign (.Name x px) X.env, assign (.Name y py) X.env] := by rfl)
    (hn : (assignEach [.Name x px, .Starred (.Name y py) ps] X.env).length = 2 := by rfl) (hst : (assignEach [.Name x px, .Starred (.Name y py) ps] X.env).findIdx? (·.1) = some 1 := by rfl) :
    PG X (.Tuple [.Name x px, .Starred (.Name y py) ps] kt pos) (gStar X.K i j) := by
  refine ⟨fun pins s σ H v u Q I r hw => ?_⟩
  obtain ⟨a, x0, xs, rfl, hq, hw⟩ := hw
  cases r
  obtain ⟨its, rv, p, hz⟩ := I.list hq
  cases rv with
  | @cons _ u0 _ us r0 rs =>
  have hl : s.heap.IsList a (u0 :: us).toArray := p.isList
  have hh : X.A.handled = none := I.ok.hd hc
  have hlt : a ≠ s.heap.objs.size := by obtain ⟨o, ho, _⟩ := hl; exact Nat.ne_of_lt (Heap.lt_size ho)
  rw [assign_Tuple]
  refine wpAny_bind (wpAny_standAt ?_)
  unfold unpack
  rw [hn, hst, h2]
  refine wpAny_bind (wpAny_holding ?_)
  unfold unpackItems
  refine wpAny_bind ?_
  unfold notIterableAtAll
  refine wpAny_bind (wpAny_specialOf hl.typeIs slot_list_iter.lookup ?_)
  refine wpAny_pure ?_
  simp only [Bool.false_eq_true, if_false]
  refine wpAny_bind (wpAny_holding (wpAny_pyIter_list hl ?_))
  refine wpAny_bind (wpAny_holding (PySem.W.kun_draw hlt 1 0 _ _ ⟨_, Heap.get?_push_size _ rfl, rfl, rfl⟩ (hl.push _) (by simp) fun h₁ hit₁ hs₁ => ?_))
  have hl₁ : h₁.IsList a (u0 :: us).toArray := (hl.push _).extBut hs₁.extBut hlt
  rw [Nat.zero_add] at hit₁
  have hit₁' := hit₁
  obtain ⟨oi, hoi, _⟩ := hit₁'
  have hl₁' := hl₁
  obtain ⟨ol, hol, _⟩ := hl₁'
  show wpAny _ _ (if ([u0] : List Value).length < 1 then _ else _) _ _ _
  rw [if_neg (by simp)]
  refine wpAny_bind (wpAny_holding (PySem.W.kun_collect (s := { s with heap := h₁ }) (T := "list_iterator") (.inr (.inr (.inl rfl))) (Walks.list (A := X.A.in1) hh s.heap.objs.size a hlt (u0 :: us).toArray) (fun j u st => st.1.typeIs) (k := 1) (by simp) ⟨hit₁, hl₁⟩ (Heap.lt_size hoi) (Heap.lt_size hol) (fun h₂ tk hk => ?_)
    (by have := rs.length; simp at hz ⊢; omega)))
  show wpAny _ _ (if us.length < 0 then _ else _) _ _ _
  rw [if_neg (by omega)]
  show wpAny _ _ (newList (us.take us.length) >>= fun d => pure ([u0] ++ [d] ++ us.drop us.length)) _ _ _
  rw [List.take_length, List.drop_length]
  have I1 : Inv X pins σ H { s with heap := h₂, toks := tk } := I.kept (t' := tk) fun b o e => hk b o (Nat.ne_of_lt (Heap.lt_size e)) (hs₁.extBut b o (Nat.ne_of_lt (Heap.lt_size e)) (Heap.get?_push_of_some _ e))
  refine wpAny_bind (wpAny_newList (wpAny_pure ?_) (by have := rs.length; simp at hz ⊢; omega))
  have hf : H h₂.objs.size = none := I1.hok.fresh (Nat.le_refl _)
  have I2 : Inv X pins σ (upd H h₂.objs.size (.lst xs)) { s with heap := h₂.push { cls := .type "list", data := .seq us.toArray }, toks := tk } :=
    I1.laid (t' := tk) (fun b u e => Heap.get?_push_of_some _ e) (Nat.le_refl _) ⟨by have := hz; simp at this; omega, us, 0, rs, Heap.get?_push_size _ rfl⟩
  show wpAny _ _ (assignInOrder [assign (.Name x px) X.env, assign (.Name y py) X.env] [u0, .ref h₂.objs.size]) _ _ _
  refine assignInOrder_cons (wpAny_assign_Name (store_ok I2 hN hi (.inl hx) r0 (fun s2 I4 => ?_) (.inr hx)))
  refine assignInOrder_cons (wpAny_assign_Name (store_ok (v := V.ref h₂.objs.size) I4 hN hj (.inl hy) rfl (fun s3 I5 => assignInOrder_nil ?_) (.inr hy)))
  exact ⟨_, _, I5, hw _ hf⟩
def sStar (i j : Nat) (f : Fe) : Fs := fun env st => RS.of (f env st) env fun d st => match seqL st d with
  | some (x :: xs) => .nx ((env.set i (some x)).set j (some (.lst xs))) st
  | _ => .bad
theorem star_ok {K : PySem.W.Frag} {mg : Str → Option Value} {i j : Nat} {f : Fe} {Q : Ends} {σ : L2.St} {H : Hp} (h : tS K mg W (sStar i j f) Q σ H) : tAsg (tF K mg W f) (gStar K i j) Q σ H := by
  obtain ⟨M, env, st, r, p⟩ := h
  refine ⟨M, env, st, r, PostS.of r p fun M1 d st1 v H1 _ x1 r1 q1 p1 => ?_⟩
  cases e : seqL st1 d with
  | none => rw [e] at p1; exact p1.elim
  | some l =>
    rw [e] at p1
    cases l with
    | nil => exact p1.elim
    | cons x xs =>
      obtain ⟨a, ys, rfl, hs, rv⟩ := seqL_ok r1 q1 e
      cases rv with
      | @cons _ _ v0 vs r0 rs =>
      refine ⟨a, v0, vs, rfl, .inl hs, fun pp np => ?_⟩
      have x2 : Ext M1 H1 M1 (upd H1 pp (.lst vs)) := Ext.new np
      exact p1 M1 _ _ x2 ⟨r1.new np, ((((r.mono x1 r1).e.mono x2).set (r0.mono x2) i).set (.lst ⟨.inl upd_same, r1.fresh np⟩ (rs.mono x2)) j)⟩
theorem s_star {i j : Nat} {x y : Str} {e : Expr} {f : Fe} {px py ps pt pos : Pos} {kt : Nat} (hc : X.calm = true) (hN : X.N.Nodup) (hi : X.N[i]? = some x) (hj : X.N[j]? = some y) (hx : X.env.scope.names.lookup x = some .local) (hy : X.env.scope.names.lookup y = some .local) (he : XE X W e f)
    (hs : swapsWithSole [.Tuple [.Name x px, .Starred (.Name y py) ps] kt pt] e pos.line X.env = pure false := by rfl) (hw : swappedStores [.Tuple [.Name x px, .Starred (.Name y py) ps] kt pt] e X.env = pure none := by rfl)
    (h1 : (assignEach [.Tuple [.Name x px, .Starred (.Name y py) ps] kt pt] X.env).map (·.2) = [assign (.Tuple [.Name x px, .Starred (.Name y py) ps] kt pt) X.env] := by rfl)
    (h2 : (assignEach [.Name x px, .Starred (.Name y py) ps] X.env).map (·.2) = [assign (.Name x px) X.env, assign (.Name y py) X.env] := by rfl)
    (hn : (assignEach [.Name x px, .Starred (.Name y py) ps] X.env).length = 2 := by rfl) (hst : (assignEach [.Name x px, .Starred (.Name y py) ps] X.env).findIdx? (·.1) = some 1 := by rfl) :
    XS X W (.Assign [.Tuple [.Name x px, .Starred (.Name y py) ps] kt pt] e pos) (sStar i j f) := (ps_asg he (pg_star hc hN hi hj hx hy h2 hn hst) hs hw h1).fb fun _ _ _ => star_ok
/-! ### a comprehension as a cell -/
def Mp.Turn (M M' : Mp) : Prop := (∀ (k : Nat) (a : Addr), M.c[k]? = some a → M'.c[k]? = some a) ∧ ∀ a, M.av a → M'.av a
mutual
theorem RV.turn {K : PySem.W.Frag} {mg : Str → Option Value} {M M' : Mp} {H : Hp} (l : M.Turn M') : ∀ {d : D} {v : V}, RV K mg M H d v → RV K mg M' H d v
  | _, _, .non => .non
  | _, _, .bl b => .bl b
  | _, _, .int i => .int i
  | _, _, .str s => .str s
  | _, _, .tup t r => .tup (t.imp (fun ⟨o, d, z, v⟩ => ⟨o, d, z, l.2 _ v⟩) id) (RVs.turn l r)
  | _, _, .lst t r => .lst ⟨t.1, l.2 _ t.2⟩ (RVs.turn l r)
  | _, _, .ref h => .ref (l.1 _ _ h)
  | _, _, .gl h r => .gl h r
  | _, _, .ty n => .ty n
  | _, _, .exc h e a => .exc h e (l.2 _ a)
theorem RVs.turn {K : PySem.W.Frag} {mg : Str → Option Value} {M M' : Mp} {H : Hp} (l : M.Turn M') : ∀ {ds : List D} {vs : List V}, RVs K mg M H ds vs → RVs K mg M' H ds vs
  | _, _, .nil => .nil
  | _, _, .cons h r => .cons (RV.turn l h) (RVs.turn l r)
end
theorem RFs.turn {K : PySem.W.Frag} {mg : Str → Option Value} {κ : Type} {M M' : Mp} {H : Hp} (l : M.Turn M') {fs : List (κ × D)} {gs : List (κ × V)} (h : RFs K mg M H fs gs) : RFs K mg M' H fs gs := by
  induction h with
  | nil => exact .nil
  | cons a _ ih => exact .cons (a.turn l) ih
theorem CellOk.turn {K : PySem.W.Frag} {mg : Str → Option Value} {M M' : Mp} {H : Hp} {c : Cell} {a : Addr} (l : M.Turn M') (h : CellOk K mg M H c a) : CellOk K mg M' H c a := by
  cases c with
  | lst ds => obtain ⟨vs, q, r⟩ := h; exact ⟨vs, q, r.turn l⟩
  | ins c fs => obtain ⟨C, dx, gs, m, q, r⟩ := h; exact ⟨C, dx, gs, m, q, r.turn l⟩
  | dct kvs => obtain ⟨ws, q, r⟩ := h; exact ⟨ws, q, r.turn l⟩
/-- a barred list becomes a cell -/
theorem RelH.bare {K : PySem.W.Frag} {mg : Str → Option Value} {M : Mp} {B : List Addr} {st : Sto} {H : Hp} {p : Addr} {c : Cell} (r : RelH K mg M st H) (hp : p ∈ M.b) (hB : ∀ a ∈ B, a ∈ M.b) (hpB : p ∉ B) (hc : CellOk K mg M H c p) :
    M.Turn ⟨M.c ++ [p], B⟩ ∧ RelH K mg ⟨M.c ++ [p], B⟩ (st ++ [c]) H := by
  have t : M.Turn ⟨M.c ++ [p], B⟩ := ⟨fun k a h => by
      show (M.c ++ [p])[k]? = some a
      rw [List.getElem?_append_left (List.getElem?_eq_some_iff.mp h).1]
      exact h, fun a ha => ⟨fun hm => ?_, fun hm => ha.2 (hB a hm)⟩⟩
  · refine ⟨t, ?_, ?_, fun k c' a e1 e2 => ?_, fun a ha => ⟨fun hm => ?_, (r.blk a (hB a ha)).2⟩⟩
    · show (M.c ++ [p]).length = (st ++ [c]).length
      rw [List.length_append, List.length_append, r.len]
      rfl
    · show (M.c ++ [p]).Nodup
      rw [List.nodup_append]
      refine ⟨r.nd, by simp, fun a ha b hb e => ?_⟩
      rw [List.mem_singleton] at hb
      subst hb e
      exact (r.blk a hp).1 ha
    · have e2' : (M.c ++ [p])[k]? = some a := e2
      by_cases hk : k < M.c.length
      · rw [List.getElem?_append_left hk] at e2'
        rw [List.getElem?_append_left (by rw [← r.len]; exact hk)] at e1
        exact (r.cell k c' a e1 e2').turn t
      · rw [List.getElem?_append_right (by omega)] at e2'
        rw [List.getElem?_append_right (by rw [← r.len]; omega), ← r.len] at e1
        have h0 : k - M.c.length = 0 := by
          have := (List.getElem?_eq_some_iff.mp e2').1
          simp at this
          omega
        rw [h0] at e1 e2'
        cases e1
        cases e2'
        exact hc.turn t
    · rcases List.mem_append.mp hm with hm | hm
      · exact (r.blk a (hB a ha)).1 hm
      · rw [List.mem_singleton.mp hm] at ha
        exact hpB ha
  · rcases List.mem_append.mp hm with hm | hm
    · exact ha.1 hm
    · rw [List.mem_singleton.mp hm] at ha
      exact ha.2 hp
def fLoopC (src : Fi) (t : Tg) (stp : Stp) (own : List Nat) : Fe := fun env st => match src env st with
  | .ok S st1 => match loopG S t stp (wipeE env own) S.n 0 [] st1 with
    | .ok ds st2 => .ok (.ref st2.length) (st2 ++ [.lst ds])
    | _ => .bad
  | .exc x st1 => .exc x st1
  | .bad => .bad
def fCompC (src : Fi) (t : Tg) (c : Ft) (e : Fe) (own : List Nat) : Fe := fLoopC src t (step1 c e) own
theorem loop_endC {K : PySem.W.Frag} {mg : Str → Option Value} {M M1 : Mp} {H H1 : Hp} {p0 : Addr} {σ : L2.St} {Q : VK} {r : R (List D)} {st1 : Sto} (x1 : Ext M H M1 H1) (r1 : RelH K mg M1 st1 H1) (hp0 : H1 p0 = none)
    (p : Post K mg (RV K mg) W M σ H (match r with | .ok ds st2 => .ok (.ref st2.length) (st2 ++ [.lst ds]) | _ => .bad) Q) : PC K mg M1 H1 p0 (M1.bar p0) (upd H1 p0 (.lst [])) r fun H' => Q (.ref p0) H' := by
  cases r with
  | ok ds st2 =>
    intro M2 H2 cs _
    obtain ⟨x3, hin, r3, vs, hv, rv⟩ := cs
    have p' : ∀ M' v H', Ext M H M' H' → RelH K mg M' (st2 ++ [.lst ds]) H' → RV K mg M' H' (.ref st2.length) v → Q v H' := p
    obtain ⟨B, hb, b2⟩ := x3.b
    obtain ⟨t, rr⟩ := r3.bare (B := M1.b) (c := .lst ds) hin (fun a ha => by rw [hb]; exact List.mem_append_right _ ha) (fun z => by
      obtain ⟨_, o, q⟩ := r1.blk p0 z
      rw [hp0] at q
      cases q) ⟨vs, hv, rv⟩
    refine p' ⟨M2.c ++ [p0], M1.b⟩ (.ref p0) H2 ?_ rr (.ref ?_)
    · have y := x1.trans x3
      obtain ⟨N, e, n⟩ := y.c
      refine ⟨x1.b, ⟨N ++ [p0], by show M2.c ++ [p0] = _; rw [e, List.append_assoc], fun a ha => ?_⟩, y.keep, y.live⟩
      rcases List.mem_append.mp ha with ha | ha
      · exact n a ha
      · rw [List.mem_singleton.mp ha]
        cases q : H p0 with
        | none => rfl
        | some o =>
          obtain ⟨o', q'⟩ := x1.live p0 o q
          rw [hp0] at q'
          cases q'
    · show (M2.c ++ [p0])[st2.length]? = some p0
      rw [← r3.len, List.getElem?_append_right (Nat.le_refl _), Nat.sub_self]
      rfl
  | exc z st2 => exact p.elim
  | bad => exact p.elim
theorem loop_okC {K : PySem.W.Frag} {mg : Str → Option Value} {src : Fi} {t : Tg} {stp : Stp} {own : List Nat} {σ : L2.St} {H : Hp} {Q : VK} {Body : Addr → L2.St → Hp → (Hp → Prop) → Prop} (ho : ∀ j ∈ t.slots, j ∈ own)
    (hbody : ∀ M0 H0 p, H0 p = none → ∀ env acc st σ2 M H N', Rel K mg M env st σ2 H → CS K mg M0 H0 p acc st M H → PC K mg M0 H0 p M H (stp env acc st) N' → Body p σ2 H N') (h : tF K mg W (fLoopC src t stp own) σ H Q) :
    iD K mg W src σ H fun J H1 => ∀ D, H1 D = none → ∃ W : Nat → Nat → Hp → Prop, (∃ m, W 0 m (upd H1 D (.lst []))) ∧ ∀ i m H, W i m H →
      (J.stop i H ∧ Q (.ref D) H) ∨ (J.go i H ∧ ∃ Nx : Hp → Prop, (∀ H', Nx H' → ∃ m', m' < m ∧ W (i + 1) m' H') ∧ ∀ x H', J.yld i H x H' → gD K mg t x (L2.wipe σ own) H' fun σ2 H2 => L2.wipe σ2 own = L2.wipe σ own ∧ Body D σ2 H2 Nx) := by
  obtain ⟨M, env, st, r, p⟩ := h
  refine ⟨M, env, st, r, ?_⟩
  unfold fLoopC at p
  cases e : src env st with
  | bad => rw [e] at p; exact p.elim
  | exc x st1 => rw [e] at p; exact p
  | ok S st1 =>
    rw [e] at p
    dsimp only at p
    intro M1 H1 J x1 r1 wk p0 hp0
    exact comp_loop (M0 := M1) (H0 := H1) ho wk ((r.e.mono x1).wipe own) (hbody M1 H1 p0 hp0) (M := M1.bar p0)
      ⟨Ext.bar hp0, List.mem_cons_self, r1.bar hp0, [], upd_same, .nil⟩ (Ext.bar hp0).w (loop_endC x1 r1 hp0 p)
theorem comp_okC {K : PySem.W.Frag} {mg : Str → Option Value} {src : Fi} {t : Tg} {c : Ft} {f : Fe} {own : List Nat} {σ : L2.St} {H : Hp} {Q : VK} (ho : ∀ j ∈ t.slots, j ∈ own) (h : tF K mg W (fCompC src t c f own) σ H Q) :
    tLc (iD K mg W src) (gD K mg t) (tT K mg W0 c) (tF K mg W0 f) own σ H Q :=
  loop_okC (Body := fun p => body1 K mg c f p) ho (fun M0 H0 p hp => body1_ok hp) h
theorem s_setLcC {i : Nat} {y : Str} {py : Pos} {elt tg iter : Expr} {ifs : List Expr} {scope : Scope} {own : List (Str × Nat)} {pos spos : Pos} {src : Fi} {t : Tg} {c : Ft} {f : Fe} (hc : X.calm = true) (hN : X.N.Nodup) (hy : X.N[i]? = some y) (hyl : X.env.scope.names.lookup y = some .local)
    (hsw : swapsWith (.ListComp elt [⟨tg, iter, ifs, 0⟩] scope pos) (some (.Name y py)) spos.line X.env = pure true) (hi : XI X W tg iter src) (ok : BlkOk X.N X.env.scope scope own)
    (hg : ∀ (s : Shared) (H : Hp) (C : Addr) (cl : List (Str × Addr)) (fp : List Addr), XG (X.blk s H scope (compEnvC scope cl C X.env) fp) tg t) (ht : ∀ (s : Shared) (H : Hp) (C : Addr) (cl : List (Str × Addr)) (fp : List Addr), XTs (X.blk s H scope (compEnvC scope cl C X.env) fp) W0 ifs c)
    (he : ∀ (s : Shared) (H : Hp) (C : Addr) (cl : List (Str × Addr)) (fp : List Addr), XE (X.blk s H scope (compEnvC scope cl C X.env) fp) W0 elt f) (ho : ∀ j ∈ t.slots, j ∈ own.map (·.2) := by decide) (hs : ∀ x, foldedSetIterable iter X.env x = pure x := by intro _; rfl) :
    XS X W (.Assign [.Name y py] (.ListComp elt [⟨tg, iter, ifs, 0⟩] scope pos) spos) (sSet (.nm i) (fCompC src t c f (own.map (·.2)))) :=
  (ps_setLc hc hN hy hyl hsw hi ok hg ht he hs).fb fun _ _ _ h => comp_okC ho (name_ok h)
end
section
variable {env : Env} {st : Sto} {fe : Fe} {i j : Nat} {c : Ft} {f : Fe}
@[simp] theorem e_star : sStar i j fe env st = RS.of (fe env st) env fun d st => match seqL st d with
  | some (x :: xs) => .nx ((env.set i (some x)).set j (some (.lst xs))) st
  | _ => .bad := (rfl)
@[simp] theorem e_compC {src : Fi} {t : Tg} {own : List Nat} : fCompC src t c f own env st = (match src env st with
  | .ok S st1 => match loopG S t (step1 c f) (wipeE env own) S.n 0 [] st1 with
    | .ok ds st2 => .ok (.ref st2.length) (st2 ++ [.lst ds])
    | _ => .bad
  | .exc x st1 => .exc x st1
  | .bad => .bad) := (rfl)
end
end Fb

/-! Fb.X6: x.replace(y, z) of two written texts, behind a statement in which a text is written. -/
namespace Fb
open PySem PySem.Spec PyProof.Rows L2
section
variable {X : Cx} {W : WX}
theorem x_compC {elt tg iter : Expr} {ifs : List Expr} {scope : Scope} {own : List (Str × Nat)} {pos : Pos} {src : Fi} {t : Tg} {c : Ft} {f : Fe} (hc : X.calm = true) (hN : X.N.Nodup) (hi : XI X W tg iter src) (ok : BlkOk X.N X.env.scope scope own)
    (hg : ∀ (s : Shared) (H : Hp) (C : Addr) (cl : List (Str × Addr)) (fp : List Addr), XG (X.blk s H scope (compEnvC scope cl C X.env) fp) tg t) (ht : ∀ (s : Shared) (H : Hp) (C : Addr) (cl : List (Str × Addr)) (fp : List Addr), XTs (X.blk s H scope (compEnvC scope cl C X.env) fp) W0 ifs c)
    (he : ∀ (s : Shared) (H : Hp) (C : Addr) (cl : List (Str × Addr)) (fp : List Addr), XE (X.blk s H scope (compEnvC scope cl C X.env) fp) W0 elt f) (ho : ∀ j ∈ t.slots, j ∈ own.map (·.2) := by decide) (hs : ∀ x, foldedSetIterable iter X.env x = pure x := by intro _; rfl) :
    XE X W (.ListComp elt [⟨tg, iter, ifs, 0⟩] scope pos) (fCompC src t c f (own.map (·.2))) :=
  (pe_lc hc hN hi ok hg ht he hs).fb fun _ _ _ => comp_okC ho
/-! ### code behind which a token is out -/
def PE1 (X : Cx) (e : Expr) (t : TE) : Prop := ∀ (pins : List (Addr × Obj)) (s : Shared) (σ : L2.St) (H : Hp) (Q : VK), Inv X pins σ H s → t σ H Q → wpAny (model X.prog X.w) X.A (eval e X.env) (fun v s' => 1 ≤ s'.toks ∧ EP X pins σ Q v s') X.xe s
def PS1 (X : Cx) (st : Stmt) (t : TS) : Prop := ∀ (pins : List (Addr × Obj)) (s : Shared) (σ : L2.St) (H : Hp) (D : Ends), Inv X pins σ H s → t D σ H → wpAny (model X.prog X.w) X.A (exec st X.env) (fun f s' => 1 ≤ s'.toks ∧ SP X pins D f s') X.xe s
theorem keep1 {α : Type} {M : Model} {A : Around} {t : Sem α} {Q : α → Shared → Prop} {E : Value → Shared → Prop} {s : Shared} (h1 : 1 ≤ s.toks) (h : wpAny M A t Q E s) : wpAny M A t (fun a s' => 1 ≤ s'.toks ∧ Q a s') E s :=
  wpAny_mono (PySem.wpAny_toks_of h1 h) (fun _ _ z => z) fun _ _ z => z.2
theorem pe1_str {x : Str} {j : Nat} {pos : Pos} : PE1 X (.Constant (.str x) j pos) (tC (.str x)) := fun pins s σ H Q I h =>
  Calls.Constant_str ⟨by show 1 ≤ s.toks + 1; omega, .str x, H, I.tok _, ⟨_, rfl⟩, h⟩
theorem pe1_cmp {a b : Expr} {pos : Pos} {ta tb : TE} {op : CmpOp} {r : R2} (ho : OpR X (compareOp op) r) (ha : PE X a ta) (hb : PE1 X b tb) (hm : behindInMarks op b = false) : PE1 X (.Compare a [op] [b] pos) (tOp r ta tb) := by
  intro pins s σ H Q I h
  exact wpAny_Compare1 (thn (ha.run pins s σ H _ I h) fun v s1 ⟨x, H1, I1, r1, q1⟩ => thn (hb pins s1 σ H1 _ I1 q1) fun u s2 ⟨hk, y, H2, I2, r2, q2⟩ => keep1 hk (ho pins s2 σ H2 x y v u Q I2 r1 r2 q2)) hm
theorem pe1_callTy {x : Str} {p pos : Pos} {e : Expr} {t : TE} {T : String} {r : List V → Hp → VK → Prop} (hc : CallR X (.type T) r) (hg : Gl X x) (hm : X.mg x = none) (hv : bootBuiltins x = some (.type T)) (ha : PE1 X e t) (hn : x ≠ "__name__" := by decide) (hdb : (x == ("__debug__" : Str)) = false := by decide)
    (he : starEach [e] X.env = (false, eval e X.env) :: starEach [] X.env := by rfl) (hpl : (backTo pos (starEach [] X.env)).any (·.1) = false := by rfl) : PE1 X (.Call (.Name x p) [e] [] pos) (tCB r (tCons t tNil)) := by
  intro pins s σ H Q I h
  refine wpAny_Call_Name_kw (ld_blt I hg hm hv ?_ hn hdb)
  refine PyProof.Rows.callWith_type1 ?_ he hpl
  rw [he]
  show wpAny _ _ (spliced ((false, eval e X.env) :: backTo pos (starEach [] X.env))) _ _ s
  refine Calls.spliced_cons (thn (ha pins s σ H _ I h) fun u s1 ⟨hk, x, H1, I1, r1, q1⟩ => Calls.spliced_nil ?_)
  exact keep1 hk (hc pins s1 σ H1 [x] [u] Q I1 (.cons r1 .nil) q1)
theorem ps1_aug {i : Nat} {x : Str} {e : Expr} {te : TE} {op : Operator} {ti : TIp} {pos' pos : Pos} (hN : X.N.Nodup) (hi : X.N[i]? = some x) (hx : Loc X.env.scope x) (he : PE1 X e te) (ho : PIp X op ti) (hf : X.fn x = true ∨ X.env.scope.names.lookup x = some .local := by first | exact .inl rfl | exact .inr rfl | assumption) :
    PS1 X (.AugAssign (.Name x pos') op e pos) (tAug i te ti) := by
  intro pins s σ H D I h
  obtain ⟨v, e1, h⟩ := h
  obtain ⟨m, hn, hl⟩ := I.loc
  have vis : Vis X.env.scope x := by rcases hx with k | k; exact .inl k; exact .inr (.inl k)
  obtain ⟨u, r, l⟩ := hl i x v hi e1 vis
  refine wpAny_AugAssign_Name ?_
  have go : wpAny (model X.prog X.w) X.A (eval e X.env) (fun w s₂ => wpAny (model X.prog X.w) X.A (inplaceOp op u w) (fun r s₃ => wpAny (model X.prog X.w) X.A (storeName X.env x r) (fun _ s' => 1 ≤ s'.toks ∧ SP X pins D .next s') X.xe s₃) X.xe s₂) X.xe s := by
    refine thn (he pins s σ H _ I h) fun w s1 ⟨hk, y, H1, I1, r1, q1⟩ => ?_
    refine thn (keep1 hk (ho pins s1 σ H1 v y u w _ I1 r r1 q1)) fun z s2 ⟨hk2, zv, H2, I2, r2, q2⟩ => ?_
    exact keep1 hk2 (store_ok I2 hN hi hx r2 (fun s3 I3 => ⟨_, H2, I3, q2⟩) hf)
  rcases l with ⟨hk, hm⟩ | ⟨hk, c, hc, hcell⟩
  · exact wpAny_loadName_local I.ok.kind hk hn hm go
  · rcases hk with hk | hk
    · exact wpAny_loadName_cell I.ok.kind hk hc hcell go
    · rcases hx with k | k
      · have : X.env.scope.names.lookup x = some .free := hk
        rw [k] at this; cases this
      · have : X.env.scope.names.lookup x = some .free := hk
        rw [k] at this; cases this
theorem pss_tok {st : Stmt} {rest : List Stmt} {t u : TS} (h1 : PS1 X st t) (h2 : PSsT X rest u) : PSs X (st :: rest) (tSeq t u) := by
  refine ⟨fun pins s σ H D I h => ?_⟩
  refine wpAny_execs_cons (thn (h1 pins s σ H { D with nx := u D } I h) fun f s1 ⟨hk, q⟩ => ?_)
  cases f with
  | next =>
    obtain ⟨σ', H', I', q⟩ := q
    exact h2 pins s1 σ' H' D hk I' q
  | ret v => exact q
  | brk => exact q
  | cont => exact q
def ipAdd (d e : D) (_ : Sto) : Option D := match d, e with
  | .int i, .int j => some (.int (i + j))
  | _, _ => none
theorem ip_addX : PIp X .Add (rD X.K X.mg ipAdd) := by
  intro pins s σ H x y v u Q I rx ry ⟨M, st, d, e, z, r, hd, he, hg, q⟩
  unfold ipAdd at hg
  split at hg
  · cases hg
    cases hd
    cases he
    exact ip_add pins s σ H _ _ v u Q I rx ry ⟨_, _, rfl, rfl, q _ H (Ext.refl _ _) r (.int _)⟩
  · cases hg
/-! ### the same over mirrors -/
abbrev XE1 (X : Cx) (W : WX) (e : Expr) (f : Fe) : Prop := PE1 X e (tF X.K X.mg W f)
abbrev XET (X : Cx) (W : WX) (e : Expr) (f : Fe) : Prop := PET X e (tF X.K X.mg W f)
theorem PE1.fb {e : Expr} {t t' : TE} (h : PE1 X e t) (k : ∀ σ H Q, t' σ H Q → t σ H Q) : PE1 X e t' := fun pins s σ H Q I q => h pins s σ H Q I (k σ H Q q)
theorem PS1.fb {e : Stmt} {t t' : TS} (h : PS1 X e t) (k : ∀ Q σ H, t' Q σ H → t Q σ H) : PS1 X e t' := fun pins s σ H Q I q => h pins s σ H Q I (k Q σ H q)
theorem PETfb {e : Expr} {t t' : TE} (h : PET X e t) (k : ∀ σ H Q, t' σ H Q → t σ H Q) : PET X e t' := fun pins s σ H Q h0 I q => h pins s σ H Q h0 I (k σ H Q q)
theorem PSTfb {e : Stmt} {t t' : TS} (h : PST X e t) (k : ∀ Q σ H, t' Q σ H → t Q σ H) : PST X e t' := fun pins s σ H Q h0 I q => h pins s σ H Q h0 I (k Q σ H q)
theorem x1_str {s : Str} {j : Nat} {pos : Pos} : XE1 X W (.Constant (.str s) j pos) (fC (.str s)) := pe1_str.fb fun σ H Q ⟨M, env, st, r, p⟩ => p M (.str s) H (Ext.refl _ _) r.h (.str s)
theorem x1_cmp {op : CmpOp} {a b : Expr} {pos : Pos} {fa fb : Fe} {g : D → D → Sto → Option D} (ho : OpD X (compareOp op) g) (ha : XE X W a fa) (hb : XE1 X W b fb) (hm : behindInMarks op b = false := by first | exact nomark _ | rfl) : XE1 X W (.Compare a [op] [b] pos) (fBin g fa fb) :=
  (pe1_cmp ho ha hb hm).fb fun _ _ _ => bin_ok
theorem x1_callTy {T : String} {x : Str} {p pos : Pos} {e : Expr} {g : List D → Sto → Option D} {f : Fe} (hc : CallD X (.type T) g) (hg : Gl X x) (hm : X.mg x = none) (hv : bootBuiltins x = some (.type T)) (ha : XE1 X W e f)
    (hn : x ≠ "__name__" := by decide) (hdb : (x == ("__debug__" : Str)) = false := by decide) (he : starEach [e] X.env = (false, eval e X.env) :: starEach [] X.env := by rfl) (hpl : (backTo pos (starEach [] X.env)).any (·.1) = false := by rfl) :
    XE1 X W (.Call (.Name x p) [e] [] pos) (fCb g (fCons f fNil)) := (pe1_callTy hc hg hm hv ha hn hdb he hpl).fb fun σ H Q h => by
  obtain ⟨M, env, st, r, p⟩ := cb_ok h
  exact ⟨M, env, st, r, Post.bind p fun M1 d1 st1 v1 H1 _ x1 r1 q1 p1 => p1 M1 [v1] H1 (Ext.refl _ _) r1 (.cons q1 .nil)⟩
theorem s1_aug {i : Nat} {x : Str} {e : Expr} {f : Fe} {op : Operator} {g : D → D → Sto → Option D} {pos' pos : Pos} (hN : X.N.Nodup) (hi : X.N[i]? = some x) (hx : Loc X.env.scope x) (he : XE1 X W e f) (ho : PIp X op (rD X.K X.mg g))
    (hf : X.fn x = true ∨ X.env.scope.names.lookup x = some .local := by first | exact .inl rfl | exact .inr rfl | assumption) : PS1 X (.AugAssign (.Name x pos') op e pos) (tS X.K X.mg W (sAug i g f)) :=
  (ps1_aug hN hi hx he ho hf).fb fun Q σ H ⟨M, env, st, r, p⟩ => by
    unfold sAug at p
    split at p
    · rename_i d hd
      obtain ⟨v, hv, rv⟩ := r.e.get i d hd
      refine ⟨v, hv, M, env, st, r, PostS.of r p fun M1 d1 st1 v1 H1 _ x1 r1 q1 p1 => ?_⟩
      cases e : g d d1 st1 with
      | none => rw [e] at p1; exact p1.elim
      | some z =>
        rw [e] at p1
        exact ⟨M1, st1, d, d1, z, r1, rv.mono x1, q1, e, fun u H' x rh ru => p1 M1 _ H' x ⟨rh, (((r.mono x1 r1).mono x rh).e.set ru i)⟩⟩
    · exact p.elim
theorem ss_tok {st : Stmt} {rest : List Stmt} {f g : Fs} (h1 : PS1 X st (tS X.K X.mg W f)) (h2 : PSsT X rest (tS X.K X.mg W g)) : XSs X W (st :: rest) (sSeq f g) :=
  (pss_tok h1 h2).fb fun Q σ H ⟨M, env, st, r, p⟩ => ⟨M, env, st, r, PostS.bind p fun M1 env1 st1 σ1 H1 _ x1 r1 p1 => ⟨M1, env1, st1, r1, p1⟩⟩
theorem sst_cons {st : Stmt} {rest : List Stmt} {f g : Fs} (h1 : PST X st (tS X.K X.mg W f)) (h2 : XSs X W rest g) : PSsT X (st :: rest) (tS X.K X.mg W (sSeq f g)) :=
  fun pins s σ H D h0 I ⟨M, env, st, r, p⟩ => psst_cons h1 (PSsT.of h2) pins s σ H D h0 I ⟨M, env, st, r, PostS.bind p fun M1 env1 st1 σ1 H1 _ x1 r1 p1 => ⟨M1, env1, st1, r1, p1⟩⟩
theorem pst_asg {tg e : Expr} {te : TE} {g : TG} {pos : Pos} (he : PET X e te) (hg : PG X tg g) (hs : swapsWithSole [tg] e pos.line X.env = pure false := by rfl) (hw : swappedStores [tg] e X.env = pure none := by rfl)
    (h1 : (assignEach [tg] X.env).map (·.2) = [assign tg X.env] := by rfl) : PST X (.Assign [tg] e pos) (tAsg te g) := by
  intro pins s σ H D h0 I h
  refine wpAny_Assign_stores (thn (he pins s σ H _ h0 I h) fun v s1 ⟨x, H1, I1, r1, q1⟩ => ?_) hs hw
  rw [h1]
  exact thn (hg.run pins s1 σ H1 x v _ I1 r1 q1) fun _ s2 q => q
theorem s_starT {i j : Nat} {x y : Str} {e : Expr} {f : Fe} {px py ps pt pos : Pos} {kt : Nat} (hc : X.calm = true) (hN : X.N.Nodup) (hi : X.N[i]? = some x) (hj : X.N[j]? = some y) (hx : X.env.scope.names.lookup x = some .local) (hy : X.env.scope.names.lookup y = some .local) (he : XET X W e f)
    (hs : swapsWithSole [.Tuple [.Name x px, .Starred (.Name y py) ps] kt pt] e pos.line X.env = pure false := by rfl) (hw : swappedStores [.Tuple [.Name x px, .Starred (.Name y py) ps] kt pt] e X.env = pure none := by rfl)
    (h1 : (assignEach [.Tuple [.Name x px, .Starred (.Name y py) ps] kt pt] X.env).map (·.2) = [assign (.Tuple [.Name x px, .Starred (.Name y py) ps] kt pt) X.env] := by rfl)
    (h2 : (assignEach [.Name x px, .Starred (.Name y py) ps] X.env).map (·.2) = [assign (.Name x px) X.env, assign (.Name y py) X.env] := by rfl)
    (hn : (assignEach [.Name x px, .Starred (.Name y py) ps] X.env).length = 2 := by rfl) (hst : (assignEach [.Name x px, .Starred (.Name y py) ps] X.env).findIdx? (·.1) = some 1 := by rfl) :
    PST X (.Assign [.Tuple [.Name x px, .Starred (.Name y py) ps] kt pt] e pos) (tS X.K X.mg W (sStar i j f)) := PSTfb (pst_asg he (pg_star hc hN hi hj hx hy h2 hn hst) hs hw h1) fun _ _ _ => star_ok
def fRepl (y z : Str) (fo : Fe) : Fe := fun env st => (fo env st).bind fun d st => match d with
  | .str a => if a.length + (a.length + 1) * z.length ≤ 16777216 then .ok (.str (Txt.replace a y z)) st else .bad
  | _ => .bad
theorem x_repl {o : Expr} {y z : Str} {j k : Nat} {c0 c1 apos pos : Pos} {fo : Fe} (ho : XE X W o fo) (hyz : (y == z) = false := by decide)
    (hst : starEach [.Constant (.str y) j c0, .Constant (.str z) k c1] X.env = [(false, eval (.Constant (.str y) j c0) X.env), (false, eval (.Constant (.str z) k c1) X.env)] := by rfl)
    (hbase : attributeBase o "replace" X.env (eval o X.env) = eval o X.env := by rfl) (hline : (apos.endLine == pos.line) = true := by rfl) :
    XET X W (.Call (.Attribute o "replace" apos) [.Constant (.str y) j c0, .Constant (.str z) k c1] [] pos) (fRepl y z fo) :=
  PETfb (CwR.pet_replC ho hyz hst hbase hline) fun σ H Q ⟨M, env, st, r, p⟩ => ⟨M, env, st, r, Post.bind p fun M1 d1 st1 v1 H1 _ x1 r1 q1 p1 => by
    cases q1 with
    | str a =>
      dsimp only at p1
      split at p1
      · rename_i hb
        exact ⟨a, rfl, hb, p1 M1 _ H1 (Ext.refl _ _) r1 (.str _)⟩
      · exact p1.elim
    | _ => exact p1.elim⟩
theorem pet_m1 {id : String} {name : Str} {o e : Expr} {to te : TE} {apos pos : Pos} {r : V → List V → Hp → VK → Prop} (slot : Slot "str" name id) (ty : typeOf (.builtin id) = pure (.type "method_descriptor")) (rule : MtR X id r) (ho : PET X o to) (he : PE X e te)
    (hs : starEach [e] X.env = [(false, eval e X.env)] := by rfl) (hbase : attributeBase o name X.env (eval o X.env) = eval o X.env := by rfl) (hline : (apos.endLine == pos.line) = true := by rfl) :
    PET X (.Call (.Attribute o name apos) [e] [] pos) (tM1 r to te) := by
  intro pins s σ H Q h0 I h
  refine PySem.Call_method1 hbase hs hline (thn (ho pins s σ H _ h0 I h) fun v s1 ⟨x, H1, I1, r1, q1⟩ => ?_)
  obtain ⟨⟨a, rfl⟩, q1⟩ := q1
  obtain ⟨t, rfl⟩ := _root_.id r1
  refine ⟨"str", _, F.plainAttrs_str, slot, ty, typeIs_str _ _ _, (fun _ e => nomatch e), Calls.callWith_builtin rfl (Calls.evalArgs_plain (Calls.spliced_cons ?_))⟩
  exact thn (he.run pins s1 σ H1 _ I1 q1) fun u s2 ⟨y, H2, I2, r2, q2⟩ => Calls.spliced_nil (rule pins s2 σ H2 _ [y] _ [u] Q I2 r1 (.cons r2 .nil) q2)
theorem x_splitT {o e : Expr} {apos pos : Pos} {fo fe : Fe} (ho : XET X W o fo) (he : XE X W e fe)
    (hs : starEach [e] X.env = [(false, eval e X.env)] := by rfl) (hbase : attributeBase o "split" X.env (eval o X.env) = eval o X.env := by rfl) (hline : (apos.endLine == pos.line) = true := by rfl) :
    XET X W (.Call (.Attribute o "split" apos) [e] [] pos) (fM1 gSplit fo fe) := PETfb (pet_m1 F.slot_str_split F.type_str_split mt_splitD ho he hs hbase hline) fun _ _ _ => m1_ok
end
section
variable {env : Env} {st : Sto} {fo : Fe} {y z : Str}
@[simp] theorem e_ipAdd {i j : Int} : ipAdd (.int i) (.int j) st = some (.int (i + j)) := (rfl)
@[simp] theorem e_repl : fRepl y z fo env st = (fo env st).bind fun d st => match d with
  | .str a => if a.length + (a.length + 1) * z.length ≤ 16777216 then .ok (.str (Txt.replace a y z)) st else .bad
  | _ => .bad := (rfl)
end
end Fb

namespace Fb
open PySem PySem.Spec PyProof.Rows L2
def topS (i : Nat) : Stmt := PySem.Challenge.pw_fourbars_k73_saved_benches.main.body.getD i (.Pass ⟨0, 0, 0, 0⟩)
abbrev s__law_town : Stmt := topS 33
abbrev s_is_between : Stmt := topS 14
abbrev s_does_close : Stmt := topS 15
abbrev s_is_ring : Stmt := topS 16
abbrev s_check_ring : Stmt := topS 17
abbrev s_Bench___init__ : Stmt := clsBody (topS 23) 0
abbrev s__law_draw : Stmt := topS 34
abbrev s__law_closes : Stmt := topS 38
abbrev s__law_ring : Stmt := topS 39
abbrev s_length_of : Stmt := topS 26
abbrev s_ring_text : Stmt := topS 25
abbrev s_parse_ring : Stmt := topS 27
abbrev s_check_number : Stmt := topS 18
abbrev s_with_length : Stmt := topS 21
abbrev s_Bench_perform : Stmt := clsBody (topS 23) 4
abbrev s_kind_of : Stmt := topS 19
abbrev s_Bench_change : Stmt := clsBody (topS 23) 5
abbrev s_Bench_exchange : Stmt := clsBody (topS 23) 6
abbrev s_Bench_undo : Stmt := clsBody (topS 23) 8
abbrev s_load : Stmt := topS 31
abbrev s_Bench_redo : Stmt := clsBody (topS 23) 9
abbrev s__law_call : Stmt := topS 40
abbrev s__law_name : Stmt := topS 36
abbrev s__law_outcome : Stmt := topS 35
abbrev s_Bench_ring : Stmt := clsBody (topS 23) 7
abbrev s_operation_text : Stmt := topS 29
abbrev s_save : Stmt := topS 30
abbrev s_Bench___eq__ : Stmt := clsBody (topS 23) 2
abbrev s_Bench___str__ : Stmt := clsBody (topS 23) 3
abbrev s__law_raises : Stmt := topS 37
abbrev s_law : Stmt := topS 41
theorem sc__law_town : FnScope ["_law_script"] ["_law_script"] (defScope s__law_town) := ⟨rfl, rfl, rfl, by decide +kernel, rfl, by decide +kernel, by decide +kernel⟩
theorem sc_is_between : FnScope ["value", "low", "high"] ["value", "low", "high"] (defScope s_is_between) := ⟨rfl, rfl, rfl, by decide +kernel, rfl, by decide +kernel, by decide +kernel⟩
theorem sc_does_close : FnScope ["lengths"] ["lengths"] (defScope s_does_close) := ⟨rfl, rfl, rfl, by decide +kernel, rfl, by decide +kernel, by decide +kernel⟩
theorem sc_is_ring : FnScope ["value", "one"] ["value"] (defScope s_is_ring) := ⟨rfl, rfl, rfl, by decide +kernel, rfl, by decide +kernel, by decide +kernel⟩
theorem sc_check_ring : FnScope ["value"] ["value"] (defScope s_check_ring) := ⟨rfl, rfl, rfl, by decide +kernel, rfl, by decide +kernel, by decide +kernel⟩
theorem sc_Bench___init__ : FnScope ["self", "ring"] ["self", "ring"] (defScope s_Bench___init__) := ⟨rfl, rfl, rfl, by decide +kernel, rfl, by decide +kernel, by decide +kernel⟩
theorem sc__law_draw : FnScope ["_law_script", "_law_town_here", "_law_limit", "_law_at", "_law_left", "_law_number"] ["_law_script", "_law_town_here", "_law_limit"] (defScope s__law_draw) := ⟨rfl, rfl, rfl, by decide +kernel, rfl, by decide +kernel, by decide +kernel⟩
theorem sc__law_closes : FnScope ["_law_ring_here", "_law_one"] ["_law_ring_here"] (defScope s__law_closes) := ⟨rfl, rfl, rfl, by decide +kernel, rfl, by decide +kernel, by decide +kernel⟩
theorem sc__law_ring : FnScope ["_law_script", "_law_town_here", "_law_most", "_law_a", "_law_b", "_law_c", "_law_way", "_law_ring_here", "_law_middle", "_law_at", "_law_k", "_law_one"] ["_law_script", "_law_town_here", "_law_most"] (defScope s__law_ring) := ⟨rfl, rfl, rfl, by decide +kernel, rfl, by decide +kernel, by decide +kernel⟩
theorem sc_length_of : FnScope ["word", "sign"] ["word"] (defScope s_length_of) := ⟨rfl, rfl, rfl, by decide +kernel, rfl, by decide +kernel, by decide +kernel⟩
theorem sc_ring_text : FnScope ["ring", "length"] ["ring"] (defScope s_ring_text) := ⟨rfl, rfl, rfl, by decide +kernel, rfl, by decide +kernel, by decide +kernel⟩
theorem sc_parse_ring : FnScope ["text", "found", "word"] ["text"] (defScope s_parse_ring) := ⟨rfl, rfl, rfl, by decide +kernel, rfl, by decide +kernel, by decide +kernel⟩
theorem sc_check_number : FnScope ["value", "low", "high"] ["value", "low", "high"] (defScope s_check_number) := ⟨rfl, rfl, rfl, by decide +kernel, rfl, by decide +kernel, by decide +kernel⟩
theorem sc_with_length : FnScope ["ring", "bar", "length"] ["ring", "bar", "length"] (defScope s_with_length) := ⟨rfl, rfl, rfl, by decide +kernel, rfl, by decide +kernel, by decide +kernel⟩
theorem sc_Bench_perform : FnScope ["self", "ring", "operation"] ["self", "ring", "operation"] (defScope s_Bench_perform) := ⟨rfl, rfl, rfl, by decide +kernel, rfl, by decide +kernel, by decide +kernel⟩
theorem sc_kind_of : FnScope ["lengths", "some", "gap"] ["lengths"] (defScope s_kind_of) := ⟨rfl, rfl, rfl, by decide +kernel, rfl, by decide +kernel, by decide +kernel⟩
theorem sc_Bench_change : FnScope ["self", "bar", "length", "ring"] ["self", "bar", "length"] (defScope s_Bench_change) := ⟨rfl, rfl, rfl, by decide +kernel, rfl, by decide +kernel, by decide +kernel⟩
theorem sc_Bench_exchange : FnScope ["self", "bar", "other", "ring"] ["self", "bar"] (defScope s_Bench_exchange) := ⟨rfl, rfl, rfl, by decide +kernel, rfl, by decide +kernel, by decide +kernel⟩
theorem sc_Bench_undo : FnScope ["self", "operation"] ["self"] (defScope s_Bench_undo) := ⟨rfl, rfl, rfl, by decide +kernel, rfl, by decide +kernel, by decide +kernel⟩
theorem sc_load : FnScope ["text", "first", "rows", "found", "undone", "line", "name", "numbers", "step"] ["text"] (defScope s_load) := ⟨rfl, rfl, rfl, by decide +kernel, rfl, by decide +kernel, by decide +kernel⟩
theorem sc_Bench_redo : FnScope ["self", "operation", "ring"] ["self"] (defScope s_Bench_redo) := ⟨rfl, rfl, rfl, by decide +kernel, rfl, by decide +kernel, by decide +kernel⟩
theorem sc__law_call : FnScope ["_law_way", "_law_arguments", "_law_bench", "_law_one", "_law_two"] ["_law_way", "_law_arguments"] (defScope s__law_call) := ⟨rfl, rfl, rfl, by decide +kernel, rfl, by decide +kernel, by decide +kernel⟩
theorem sc__law_name : FnScope ["_law_caught", "_law_found"] ["_law_caught"] (defScope s__law_name) := ⟨rfl, rfl, rfl, by decide +kernel, rfl, by decide +kernel, by decide +kernel⟩
theorem sc__law_outcome : FnScope ["_law_way", "_law_arguments", "_law_caught", "_law_result", "error"] ["_law_way", "_law_arguments"] (defScope s__law_outcome) := ⟨rfl, rfl, rfl, by decide +kernel, rfl, by decide +kernel, by decide +kernel⟩
theorem sc_Bench_ring : FnScope ["self"] ["self"] (defScope s_Bench_ring) := ⟨rfl, rfl, rfl, by decide +kernel, rfl, by decide +kernel, by decide +kernel⟩
theorem sc_operation_text : FnScope ["operation", "part"] ["operation"] (defScope s_operation_text) := ⟨rfl, rfl, rfl, by decide +kernel, rfl, by decide +kernel, by decide +kernel⟩
theorem sc_save : FnScope ["bench", "rows", "operation", "ring"] ["bench"] (defScope s_save) := ⟨rfl, rfl, rfl, by decide +kernel, rfl, by decide +kernel, by decide +kernel⟩
theorem sc_Bench___eq__ : FnScope ["self", "other"] ["self", "other"] (defScope s_Bench___eq__) := ⟨rfl, rfl, rfl, by decide +kernel, rfl, by decide +kernel, by decide +kernel⟩
theorem sc_Bench___str__ : FnScope ["self"] ["self"] (defScope s_Bench___str__) := ⟨rfl, rfl, rfl, by decide +kernel, rfl, by decide +kernel, by decide +kernel⟩
theorem sc__law_raises : FnScope ["_law_name_here", "_law_names"] ["_law_name_here"] (defScope s__law_raises) := ⟨rfl, rfl, rfl, by decide +kernel, rfl, by decide +kernel, by decide +kernel⟩
theorem sc_law : FnScope ["_law_script", "_law_town_here", "_law_bench", "_law_k", "_law_way", "_law_bar", "_law_now", "_law_text", "_law_other", "_law_cut", "_law_bads", "_law_bad"] ["_law_script"] (defScope s_law) := ⟨rfl, rfl, rfl, by decide +kernel, rfl, by decide +kernel, by decide +kernel⟩
def exsL : List Str := ["InvalidRing", "InvalidNumber", "InvalidKind", "InvalidLength", "InvalidPerimeter", "InvalidText", "NoPosition", "ZeroDiagonal", "NoRing", "TooLong", "NothingToUndo"]
/-! ### mirrors -/
def b__law_town : Fs := (sRet (fBinC gCatC (fLst (fCons (fC (.int 0)) fNil)) (fCb gList (fCons (fVar 0) fNil))))
def m__law_town : Fn := runB 1 1 b__law_town
def b_is_between : Fs := (sRet (fAndV (fCb gIsi (fCons (fVar 0) (fCons (fC (.ty "int")) fNil))) (fAndV (fNotV (fCb gIsi (fCons (fVar 0) (fCons (fC (.ty "bool")) fNil)))) (fChain gLe gLe (fVar 1) (fVar 0) (fVar 2)))))
def m_is_between : Fn := runB 3 3 b_is_between
def b_does_close : Fs := (sRet (fBin gLt (fBin gMul (fC (.int 2)) (fCb gMax (fCons (fVar 0) fNil))) (fCb gSum (fCons (fVar 0) fNil))))
def m_does_close : Fn := runB 1 1 b_does_close
def b_is_ring_1 : Fs := (sRet (fCall m_does_close (fCons (fVar 0) fNil)))
def b_is_ring : Fs := (sSeq (sIf (fOr (fNot (fTest (fCb gIsi (fCons (fVar 0) (fCons (fC (.ty "tuple")) fNil))))) (fOr (fTest (fBin gNe (fCb gLen (fCons (fVar 0) fNil)) (fC (.int 4)))) (fNot (fTest (fCb gAll (fCons (fComp (fSrc (fVar 0)) (.nm 1) fYes (fCall m_is_between (fCons (fVar 1) (fCons (fC (.int 1)) (fCons (fC (.int 50)) fNil)))) [1]) fNil))))))
  (sRet (fC (.bl false)))
  sNop)
  b_is_ring_1)
def m_is_ring : Fn := runB 2 1 b_is_ring
def b_check_ring : Fs := (sIf (fNot (fTest (fCall m_is_ring (fCons (fVar 0) fNil))))
  (sRaise "InvalidRing")
  sNop)
def m_check_ring : Fn := runB 1 1 b_check_ring
def b_Bench___init___5 : Fs := (sFldP "Bench" "undone" (fVar 0) (fCel fNil))
def b_Bench___init___4 : Fs := (sSeq (sFldP "Bench" "done" (fVar 0) (fCel fNil))
  b_Bench___init___5)
def b_Bench___init___3 : Fs := (sSeq (sFldP "Bench" "earlier" (fVar 0) (fCel fNil))
  b_Bench___init___4)
def b_Bench___init___2 : Fs := (sSeq (sFldP "Bench" "current" (fVar 0) (fVar 1))
  b_Bench___init___3)
def b_Bench___init___1 : Fs := (sSeq (sFldP "Bench" "begun" (fVar 0) (fVar 1))
  b_Bench___init___2)
def b_Bench___init__ : Fs := (sSeq (sExpr (fCall m_check_ring (fCons (fVar 1) fNil)))
  b_Bench___init___1)
def m_Bench___init__ : Fn := runB 2 2 b_Bench___init__
def b__law_draw_7 : Fs := (sRet (fBin gMod (fBin gFdv (fBin gMod (fBin gAdd (fBin gMul (fBin gFdv (fVar 5) (fC (.int 64))) (fC (.int 69621))) (fVar 5)) (fC (.int 4294967231))) (fC (.int 8))) (fVar 2)))
def b__law_draw_6 : Fs := (sSeq (sSet (.nm 5) (fBin gMod (fBin gPow (fVar 5) (fC (.int 5))) (fC (.int 4294967279))))
  b__law_draw_7)
def b__law_draw_5 : Fs := (sSeq (sSet (.nm 5) (fBin gMod (fBin gAdd (fBin gIx (fVar 0) (fVar 3)) (fBin gMul (fC (.int 104729)) (fBin gIx (fVar 1) (fC (.int 0))))) (fC (.int 4294967291))))
  b__law_draw_6)
def b__law_draw_4 : Fs := (sSeq (sIf (fAnd (fTest (fBin gGe (fBin gIx (fVar 0) (fVar 3)) (fBin gPow (fC (.int 10)) (fC (.int 18))))) (fTest (fBin gGt (fVar 4) (fC (.int 0)))))
  (sSeq (sPut (fVar 1) (fBin gAdd (fC (.int 1)) (fVar 3)) (fBin gFdv (fVar 4) (fVar 2)))
  (sRet (fBin gMod (fVar 4) (fVar 2))))
  sNop)
  b__law_draw_5)
def b__law_draw_3 : Fs := (sSeq (sSet (.nm 4) (fBin gIx (fVar 1) (fBin gAdd (fC (.int 1)) (fVar 3))))
  b__law_draw_4)
def b__law_draw_2 : Fs := (sSeq (sSet (.nm 3) (fBin gMod (fBin gIx (fVar 1) (fC (.int 0))) (fCb gLen (fCons (fVar 0) fNil))))
  b__law_draw_3)
def b__law_draw_1 : Fs := (sSeq (sIf (fTest (fBin gEq (fVar 0) (fLst fNil)))
  (sRet (fBin gMod (fBin gFdv (fBin gMul (fBin gMul (fBin gIx (fVar 1) (fC (.int 0))) (fBin gIx (fVar 1) (fC (.int 0)))) (fC (.int 7))) (fC (.int 3))) (fVar 2)))
  sNop)
  b__law_draw_2)
def b__law_draw : Fs := (sSeq (sPut (fVar 1) (fC (.int 0)) (fBin gAdd (fBin gIx (fVar 1) (fC (.int 0))) (fC (.int 1))))
  b__law_draw_1)
def m__law_draw : Fn := runB 6 3 b__law_draw
def b__law_closes : Fs := (sRet (fBin gEq (fCb gLen (fCons (fComp (fSrc (fVar 0)) (.nm 1) (fTest (fBin gGe (fVar 1) (fBin gSub (fCb gSum (fCons (fVar 0) fNil)) (fVar 1)))) (fVar 1) [1]) fNil)) (fC (.int 0))))
def m__law_closes : Fn := runB 2 1 b__law_closes
def b__law_ring_6 : Fs := (sRet (fBin gAdd (fSl (fVar 7) (oSome (fVar 9)) oNone) (fSl (fVar 7) oNone (oSome (fVar 9)))))
def b__law_ring_5 : Fs := (sSeq (sSet (.nm 9) (fCall m__law_draw (fCons (fVar 0) (fCons (fVar 1) (fCons (fC (.int 4)) fNil)))))
  b__law_ring_6)
def b__law_ring_4 : Fs := (sSeq (sIf (fNot (fTest (fCall m__law_closes (fCons (fVar 7) fNil))))
  (sSeq (sSet (.nm 8) (fBin gIx (fCb gSorted (fCons (fVar 7) fNil)) (fC (.int 2))))
  (sSet (.nm 7) (fCb gTuple (fCons (fComp (fSrc (fVar 7)) (.nm 11) fYes (fCb gMin (fCons (fVar 11) (fCons (fVar 8) fNil))) [11]) fNil))))
  sNop)
  b__law_ring_5)
def b__law_ring_3 : Fs := (sSeq (sSet (.nm 7) (fCb gTuple (fCons (fComp (fSrc (fVar 7)) (.nm 11) fYes (fCb gMin (fCons (fC (.int 50)) (fCons (fVar 11) fNil))) [11]) fNil)))
  b__law_ring_4)
def b__law_ring_2 : Fs := (sSeq (sIf (fTest (fBin gEq (fVar 6) (fC (.int 0))))
  (sSet (.nm 7) (fTup (fCons (fVar 3) (fCons (fVar 4) (fCons (fVar 3) (fCons (fVar 4) fNil))))))
  (sIf (fTest (fBin gEq (fVar 6) (fC (.int 1))))
  (sSet (.nm 7) (fTup (fCons (fVar 3) (fCons (fVar 3) (fCons (fVar 4) (fCons (fVar 4) fNil))))))
  (sIf (fTest (fBin gEq (fVar 6) (fC (.int 2))))
  (sSet (.nm 7) (fTup (fCons (fVar 3) (fCons (fVar 4) (fCons (fVar 5) (fCons (fCb gMax (fCons (fC (.int 1)) (fCons (fBin gSub (fBin gAdd (fVar 3) (fVar 4)) (fVar 5)) fNil))) fNil))))))
  (sSet (.nm 7) (fTup (fCons (fVar 3) (fCons (fVar 4) (fCons (fVar 5) (fCons (fBin gAdd (fC (.int 1)) (fCall m__law_draw (fCons (fVar 0) (fCons (fVar 1) (fCons (fVar 2) fNil))))) fNil)))))))))
  b__law_ring_3)
def b__law_ring_1 : Fs := (sSeq (sSet (.nm 6) (fCall m__law_draw (fCons (fVar 0) (fCons (fVar 1) (fCons (fC (.int 6)) fNil)))))
  b__law_ring_2)
def b__law_ring : Fs := (sSeq (sSet (.tp [3, 4, 5]) (fComp (fRange1 (fCons (fC (.int 3)) fNil)) (.nm 10) fYes (fBin gAdd (fC (.int 1)) (fCall m__law_draw (fCons (fVar 0) (fCons (fVar 1) (fCons (fVar 2) fNil))))) [10]))
  b__law_ring_1)
def m__law_ring : Fn := runB 12 3 b__law_ring
def b_length_of : Fs := (sRet (fIf (fAnd (fTest (fChain gLe gLe (fC (.int 1)) (fCb gLen (fCons (fVar 0) fNil)) (fC (.int 2)))) (fTest (fCb gAll (fCons (fComp (fSrcS (fVar 0)) (.nm 1) fYes (fBin gIn (fVar 1) (fC (.str "0123456789"))) [1]) fNil)))) (fCb gInt (fCons (fVar 0) fNil)) (fC (.int 0))))
def m_length_of : Fn := runB 2 1 b_length_of
def b_ring_text : Fs := (sRet (fM1 gJoin (fC (.str "-")) (fComp (fSrc (fVar 0)) (.nm 1) fYes (fCb gStr (fCons (fVar 1) fNil)) [1])))
def m_ring_text : Fn := runB 2 1 b_ring_text
def b_parse_ring_3 : Fs := (sRet (fVar 1))
def b_parse_ring_2 : Fs := (sSeq (sIf (fOr (fNot (fTest (fCall m_is_ring (fCons (fVar 1) fNil)))) (fTest (fBin gNe (fCall m_ring_text (fCons (fVar 1) fNil)) (fVar 0))))
  (sRaise "InvalidText")
  sNop)
  b_parse_ring_3)
def b_parse_ring_1 : Fs := (sSeq (sSet (.nm 1) (fCb gTuple (fCons (fComp (fSrc (fM1 gSplit (fVar 0) (fC (.str "-")))) (.nm 2) fYes (fCall m_length_of (fCons (fVar 2) fNil)) [2]) fNil)))
  b_parse_ring_2)
def b_parse_ring : Fs := (sSeq (sIf (fNot (fTest (fCb gIsi (fCons (fVar 0) (fCons (fC (.ty "str")) fNil)))))
  (sRaise "InvalidText")
  sNop)
  b_parse_ring_1)
def m_parse_ring : Fn := runB 3 1 b_parse_ring
def b_check_number : Fs := (sIf (fNot (fTest (fCall m_is_between (fCons (fVar 0) (fCons (fVar 1) (fCons (fVar 2) fNil))))))
  (sRaise "InvalidNumber")
  sNop)
def m_check_number : Fn := runB 3 3 b_check_number
def b_with_length : Fs := (sRet (fBin gAdd (fBin gAdd (fSl (fVar 0) oNone (oSome (fVar 1))) (fTup (fCons (fVar 2) fNil))) (fSl (fVar 0) (oSome (fBin gAdd (fVar 1) (fC (.int 1)))) oNone)))
def m_with_length : Fn := runB 3 3 b_with_length
def b_Bench_perform_3 : Fs := (sFldP "Bench" "undone" (fVar 0) (fCel fNil))
def b_Bench_perform_2 : Fs := (sSeq (sExpr (fMt gAppend (fFld "Bench" "done" (fVar 0)) (fCons (fVar 2) fNil)))
  b_Bench_perform_3)
def b_Bench_perform_1 : Fs := (sSeq (sFldP "Bench" "current" (fVar 0) (fVar 1))
  b_Bench_perform_2)
def b_Bench_perform : Fs := (sSeq (sExpr (fMt gAppend (fFld "Bench" "earlier" (fVar 0)) (fCons (fFld "Bench" "current" (fVar 0)) fNil)))
  b_Bench_perform_1)
def m_Bench_perform : Fn := runB 3 3 b_Bench_perform
def b_kind_of_3 : Fs := (sRet (fIf (fTest (fBin gLt (fVar 2) (fC (.int 0)))) (fC (.str "free")) (fC (.str "bound"))))
def b_kind_of_2 : Fs := (sSeq (sIf (fTest (fBin gEq (fVar 2) (fC (.int 0))))
  (sRet (fC (.str "flat")))
  sNop)
  b_kind_of_3)
def b_kind_of_1 : Fs := (sSeq (sSet (.nm 2) (fBin gSub (fBin gSub (fBin gAdd (fBin gIx (fVar 1) (fC (.int 0))) (fBin gIx (fVar 1) (fC (.int 3)))) (fBin gIx (fVar 1) (fC (.int 1)))) (fBin gIx (fVar 1) (fC (.int 2)))))
  b_kind_of_2)
def b_kind_of : Fs := (sSeq (sSet (.nm 1) (fCb gSorted (fCons (fVar 0) fNil)))
  b_kind_of_1)
def m_kind_of : Fn := runB 3 1 b_kind_of
def b_Bench_change_5 : Fs := (sRet (fCall m_kind_of (fCons (fVar 3) fNil)))
def b_Bench_change_4 : Fs := (sSeq (sExpr (fMeth "Bench" "perform" m_Bench_perform (fVar 0) (fCons (fVar 3) (fCons (fTup (fCons (fC (.str "change")) (fCons (fVar 1) (fCons (fVar 2) fNil)))) fNil))))
  b_Bench_change_5)
def b_Bench_change_3 : Fs := (sSeq (sIf (fNot (fTest (fCall m_does_close (fCons (fVar 3) fNil))))
  (sRaise "NoRing")
  sNop)
  b_Bench_change_4)
def b_Bench_change_2 : Fs := (sSeq (sSet (.nm 3) (fCall m_with_length (fCons (fFld "Bench" "current" (fVar 0)) (fCons (fVar 1) (fCons (fVar 2) fNil)))))
  b_Bench_change_3)
def b_Bench_change_1 : Fs := (sSeq (sIf (fNot (fTest (fCall m_is_between (fCons (fVar 2) (fCons (fC (.int 1)) (fCons (fC (.int 50)) fNil))))))
  (sRaise "InvalidLength")
  sNop)
  b_Bench_change_2)
def b_Bench_change : Fs := (sSeq (sExpr (fCall m_check_number (fCons (fVar 1) (fCons (fC (.int 0)) (fCons (fC (.int 3)) fNil)))))
  b_Bench_change_1)
def m_Bench_change : Fn := runB 4 3 b_Bench_change
def b_Bench_exchange_4 : Fs := (sRet (fVar 3))
def b_Bench_exchange_3 : Fs := (sSeq (sExpr (fMeth "Bench" "perform" m_Bench_perform (fVar 0) (fCons (fVar 3) (fCons (fTup (fCons (fC (.str "exchange")) (fCons (fVar 1) fNil))) fNil))))
  b_Bench_exchange_4)
def b_Bench_exchange_2 : Fs := (sSeq (sSet (.nm 3) (fCall m_with_length (fCons (fCall m_with_length (fCons (fFld "Bench" "current" (fVar 0)) (fCons (fVar 1) (fCons (fBin gIx (fFld "Bench" "current" (fVar 0)) (fVar 2)) fNil)))) (fCons (fVar 2) (fCons (fBin gIx (fFld "Bench" "current" (fVar 0)) (fVar 1)) fNil)))))
  b_Bench_exchange_3)
def b_Bench_exchange_1 : Fs := (sSeq (sSet (.nm 2) (fBin gMod (fBin gAdd (fVar 1) (fC (.int 1))) (fC (.int 4))))
  b_Bench_exchange_2)
def b_Bench_exchange : Fs := (sSeq (sExpr (fCall m_check_number (fCons (fVar 1) (fCons (fC (.int 0)) (fCons (fC (.int 3)) fNil)))))
  b_Bench_exchange_1)
def m_Bench_exchange : Fn := runB 4 2 b_Bench_exchange
def b_Bench_undo_4 : Fs := (sRet (fBin gIx (fVar 1) (fC (.int 0))))
def b_Bench_undo_3 : Fs := (sSeq (sFldP "Bench" "current" (fVar 0) (fMt gPop (fFld "Bench" "earlier" (fVar 0)) fNil))
  b_Bench_undo_4)
def b_Bench_undo_2 : Fs := (sSeq (sExpr (fMt gAppend (fFld "Bench" "undone" (fVar 0)) (fCons (fTup (fCons (fVar 1) (fCons (fFld "Bench" "current" (fVar 0)) fNil))) fNil)))
  b_Bench_undo_3)
def b_Bench_undo_1 : Fs := (sSeq (sSet (.nm 1) (fMt gPop (fFld "Bench" "done" (fVar 0)) fNil))
  b_Bench_undo_2)
def b_Bench_undo : Fs := (sSeq (sIf (fTest (fBin gEq (fFld "Bench" "done" (fVar 0)) (fLst fNil)))
  (sRaise "NothingToUndo")
  sNop)
  b_Bench_undo_1)
def m_Bench_undo : Fn := runB 2 1 b_Bench_undo
def p_load_1_2 : Fs := (sIf (fTest (fBin gEq (fVar 6) (fC (.str "change"))))
  (sExpr (fMeth "Bench" "change" m_Bench_change (fVar 3) (fCons (fCb gInt (fCons (fBin gIx (fVar 7) (fC (.int 0))) fNil)) (fCons (fCb gInt (fCons (fBin gIx (fVar 7) (fC (.int 1))) fNil)) fNil))))
  (sExpr (fMeth "Bench" "exchange" m_Bench_exchange (fVar 3) (fCons (fCb gInt (fCons (fBin gIx (fVar 7) (fC (.int 0))) fNil)) fNil))))
def p_load_1_1 : Fs := (sSeq (sStar 6 7 (fM1 gSplit (fRepl "?" "" (fVar 5)) (fC (.str " "))))
  p_load_1_2)
def p_load_1 : Fs := (sSeq (sAug 4 ipAdd (fCb gInt (fCons (fBin gEq (fSl (fVar 5) oNone (oSome (fC (.int 1)))) (fC (.str "?"))) fNil)))
  p_load_1_1)
def l_load_1 : Fs := p_load_1
def l_load_2 : Fs := (sExpr (fMeth "Bench" "undo" m_Bench_undo (fVar 3) fNil))
def b_load_5 : Fs := (sRet (fVar 3))
def b_load_4 : Fs := (sSeq (sFor (fRange1 (fCons (fVar 4) fNil)) (.nm 8)
  l_load_2)
  b_load_5)
def b_load_3 : Fs := (sSeq (sFor (fSrc (fVar 2)) (.nm 5)
  l_load_1)
  b_load_4)
def b_load_2 : Fs := (sSeq (sPar [3, 4] (fCons (fMake "Bench" m_Bench___init__ (fCons (fCall m_parse_ring (fCons (fVar 1) fNil)) fNil)) (fCons (fC (.int 0)) fNil)))
  b_load_3)
def b_load_1 : Fs := (sSeq (sStar 1 2 (fM1 gSplit (fSl (fVar 0) oNone (oSome (fNeg (fC (.int 1))))) (fC (.str "|"))))
  b_load_2)
def b_load : Fs := (sSeq (sIf (fOr (fNot (fTest (fCb gIsi (fCons (fVar 0) (fCons (fC (.ty "str")) fNil))))) (fTest (fBin gNe (fSl (fVar 0) (oSome (fNeg (fC (.int 1)))) oNone) (fC (.str ".")))))
  (sRaise "InvalidText")
  sNop)
  b_load_1)
def m_load : Fn := runB 9 1 b_load
def b_Bench_redo_5 : Fs := (sRet (fBin gIx (fVar 1) (fC (.int 0))))
def b_Bench_redo_4 : Fs := (sSeq (sExpr (fMt gAppend (fFld "Bench" "done" (fVar 0)) (fCons (fVar 1) fNil)))
  b_Bench_redo_5)
def b_Bench_redo_3 : Fs := (sSeq (sFldP "Bench" "current" (fVar 0) (fVar 2))
  b_Bench_redo_4)
def b_Bench_redo_2 : Fs := (sSeq (sExpr (fMt gAppend (fFld "Bench" "earlier" (fVar 0)) (fCons (fFld "Bench" "current" (fVar 0)) fNil)))
  b_Bench_redo_3)
def b_Bench_redo_1 : Fs := (sSeq (sSet (.tp [1, 2]) (fMt gPop (fFld "Bench" "undone" (fVar 0)) fNil))
  b_Bench_redo_2)
def b_Bench_redo : Fs := (sSeq (sIf (fTest (fBin gEq (fFld "Bench" "undone" (fVar 0)) (fLst fNil)))
  (sRaise "NothingToUndo")
  sNop)
  b_Bench_redo_1)
def m_Bench_redo : Fn := runB 3 1 b_Bench_redo
def b__law_call_3 : Fs := (sRet (fIf (fTest (fBin gEq (fVar 0) (fC (.int 0)))) (fMeth "Bench" "undo" m_Bench_undo (fVar 2) fNil) (fMeth "Bench" "redo" m_Bench_redo (fVar 2) fNil)))
def b__law_call_2 : Fs := (sSeq (sIf (fTest (fBin gGt (fVar 0) (fC (.int 2))))
  (sRet (fIf (fTest (fBin gEq (fVar 0) (fC (.int 3)))) (fMeth "Bench" "change" m_Bench_change (fVar 2) (fCons (fVar 3) (fCons (fVar 4) fNil))) (fMeth "Bench" "exchange" m_Bench_exchange (fVar 2) (fCons (fVar 3) fNil))))
  sNop)
  b__law_call_3)
def b__law_call_1 : Fs := (sSeq (sIf (fTest (fBin gEq (fVar 0) (fC (.int 2))))
  (sRet (fCall m_load (fCons (fVar 3) fNil)))
  sNop)
  b__law_call_2)
def b__law_call : Fs := (sSeq (sSet (.tp [2, 3, 4]) (fVar 1))
  b__law_call_1)
def m__law_call : Fn := runB 5 2 b__law_call
def b__law_name_7 : Fs := (sRet (fIf (fTest (fBin gEq (fMt gCnt (fVar 1) (fCons (fC (.bl true)) fNil)) (fC (.int 1)))) (fMt gIdx (fVar 1) (fCons (fC (.bl true)) fNil)) (fNeg (fC (.int 1)))))
def b__law_name_6 : Fs := (sSeq (sSet (.nm 1) (fBin gAdd (fVar 1) (fLst (fCons (fCb (gIsX exsL) (fCons (fVar 0) (fCons (fC (.gl "NothingToUndo")) fNil))) fNil))))
  b__law_name_7)
def b__law_name_5 : Fs := (sSeq (sSet (.nm 1) (fBin gAdd (fVar 1) (fLst (fCons (fCb (gIsX exsL) (fCons (fVar 0) (fCons (fC (.gl "NoRing")) fNil))) (fCons (fCb (gIsX exsL) (fCons (fVar 0) (fCons (fC (.gl "TooLong")) fNil))) fNil)))))
  b__law_name_6)
def b__law_name_4 : Fs := (sSeq (sSet (.nm 1) (fBin gAdd (fVar 1) (fLst (fCons (fCb (gIsX exsL) (fCons (fVar 0) (fCons (fC (.gl "NoPosition")) fNil))) (fCons (fCb (gIsX exsL) (fCons (fVar 0) (fCons (fC (.gl "ZeroDiagonal")) fNil))) fNil)))))
  b__law_name_5)
def b__law_name_3 : Fs := (sSeq (sSet (.nm 1) (fBin gAdd (fVar 1) (fLst (fCons (fCb (gIsX exsL) (fCons (fVar 0) (fCons (fC (.gl "InvalidPerimeter")) fNil))) (fCons (fCb (gIsX exsL) (fCons (fVar 0) (fCons (fC (.gl "InvalidText")) fNil))) fNil)))))
  b__law_name_4)
def b__law_name_2 : Fs := (sSeq (sSet (.nm 1) (fBin gAdd (fVar 1) (fLst (fCons (fCb (gIsX exsL) (fCons (fVar 0) (fCons (fC (.gl "InvalidKind")) fNil))) (fCons (fCb (gIsX exsL) (fCons (fVar 0) (fCons (fC (.gl "InvalidLength")) fNil))) fNil)))))
  b__law_name_3)
def b__law_name_1 : Fs := (sSeq (sSet (.nm 1) (fLst (fCons (fCb (gIsX exsL) (fCons (fVar 0) (fCons (fC (.gl "InvalidRing")) fNil))) (fCons (fCb (gIsX exsL) (fCons (fVar 0) (fCons (fC (.gl "InvalidNumber")) fNil))) fNil))))
  b__law_name_2)
def b__law_name : Fs := (sSeq (sIf (fNot (fTest (fCb (gIsX exsL) (fCons (fVar 0) (fCons (fC (.ty "ValueError")) fNil)))))
  (sRet (fNeg (fC (.int 1))))
  sNop)
  b__law_name_1)
def m__law_name : Fn := runB 2 1 b__law_name
def b__law_outcome_4 : Fs := (sRet (fTup (fCons (fC (.str "raised")) (fCons (fCall m__law_name (fCons (fVar 2) fNil)) fNil))))
def b__law_outcome_3 : Fs := (sSeq (sIf (fTest (fBin gIs (fVar 2) (fC .non)))
  (sRet (fTup (fCons (fC (.str "returned")) (fCons (fVar 3) fNil))))
  sNop)
  b__law_outcome_4)
def b__law_outcome_2 : Fs := (sSeq (sTry (sSet (.nm 3) (fCall m__law_call (fCons (fVar 0) (fCons (fVar 1) fNil)))) exsL 4
  (sSet (.nm 2) (fVar 4)))
  b__law_outcome_3)
def b__law_outcome_1 : Fs := (sSeq (sSet (.nm 3) (fC .non))
  b__law_outcome_2)
def b__law_outcome : Fs := (sSeq (sSet (.nm 2) (fC .non))
  b__law_outcome_1)
def m__law_outcome : Fn := runB 5 2 b__law_outcome
def b_Bench_ring : Fs := (sRet (fFld "Bench" "current" (fVar 0)))
def m_Bench_ring : Fn := runB 1 1 b_Bench_ring
def b_operation_text : Fs := (sRet (fM1 gJoin (fC (.str " ")) (fComp (fSrc (fVar 0)) (.nm 1) fYes (fCb gStr (fCons (fVar 1) fNil)) [1])))
def m_operation_text : Fn := runB 2 1 b_operation_text
def b_save_2 : Fs := (sRet (fBin gAdd (fM1 gJoin (fC (.str "|")) (fBin gAdd (fLst (fCons (fCall m_ring_text (fCons (fFld "Bench" "begun" (fVar 0)) fNil)) fNil)) (fVar 1))) (fC (.str "."))))
def b_save_1 : Fs := (sSeq (sExpr (fMt gExtend (fVar 1) (fCons (fCompC (fSrc (fRev (fFld "Bench" "undone" (fVar 0)))) (.tp [2, 3]) fYes (fBin gAdd (fC (.str "?")) (fCall m_operation_text (fCons (fVar 2) fNil))) [2, 3]) fNil)))
  b_save_2)
def b_save : Fs := (sSeq (sSet (.nm 1) (fCompC (fSrc (fFld "Bench" "done" (fVar 0))) (.nm 2) fYes (fCall m_operation_text (fCons (fVar 2) fNil)) [2]))
  b_save_1)
def m_save : Fn := runB 4 1 b_save
def b_Bench___eq__ : Fs := (sRet (fAndV (fCb (gIsO "Bench") (fCons (fVar 1) (fCons (fC (.gl "Bench")) fNil))) (fAndV (fBin gEq (fFld "Bench" "begun" (fVar 0)) (fFld "Bench" "begun" (fVar 1))) (fBin gEq (fFld "Bench" "done" (fVar 0)) (fFld "Bench" "done" (fVar 1))))))
def m_Bench___eq__ : Fn := runB 2 2 b_Bench___eq__
def b_Bench___str__ : Fs := (sRet (fJs [(fFmt (fCall m_kind_of (fCons (fFld "Bench" "current" (fVar 0)) fNil))), (fC (.str " ring of perimeter ")), (fFmt (fCb gSum (fCons (fFld "Bench" "current" (fVar 0)) fNil)))] Str.empty))
def m_Bench___str__ : Fn := runB 1 1 b_Bench___str__
def b__law_raises_2 : Fs := (sRet (fTup (fCons (fC (.str "raised")) (fCons (fMt gIdx (fVar 1) (fCons (fVar 0) fNil)) fNil))))
def b__law_raises_1 : Fs := (sSeq (sSet (.nm 1) (fBin gAdd (fVar 1) (fLst (fCons (fC (.str "zero")) (fCons (fC (.str "noring")) (fCons (fC (.str "long")) (fCons (fC (.str "undo")) fNil)))))))
  b__law_raises_2)
def b__law_raises : Fs := (sSeq (sSet (.nm 1) (fLst (fCons (fC (.str "ring")) (fCons (fC (.str "number")) (fCons (fC (.str "kind")) (fCons (fC (.str "length")) (fCons (fC (.str "perimeter")) (fCons (fC (.str "text")) (fCons (fC (.str "none")) fNil)))))))))
  b__law_raises_1)
def m__law_raises : Fn := runB 2 1 b__law_raises
def l_law_1 : Fs := (sSeq (sPar [4, 5] (fCons (fBin gAdd (fC (.int 3)) (fCall m__law_draw (fCons (fVar 0) (fCons (fVar 1) (fCons (fC (.int 2)) fNil))))) (fCons (fCall m__law_draw (fCons (fVar 0) (fCons (fVar 1) (fCons (fC (.int 4)) fNil)))) fNil)))
  (sExpr (fCall m__law_outcome (fCons (fVar 4) (fCons (fTup (fCons (fVar 2) (fCons (fVar 5) (fCons (fBin gAdd (fC (.int 1)) (fCall m__law_draw (fCons (fVar 0) (fCons (fVar 1) (fCons (fC (.int 15)) fNil))))) fNil)))) fNil)))))
def l_law_2 : Fs := (sExpr (fCall m__law_outcome (fCons (fC (.int 0)) (fCons (fTup (fCons (fVar 2) (fCons (fC (.int 0)) (fCons (fC (.int 0)) fNil)))) fNil))))
def l_law_3 : Fs := (sIf (fOr (fTest (fBin gNe (fCall m__law_outcome (fCons (fVar 4) (fCons (fTup (fCons (fVar 2) (fCons (fC (.int 0)) (fCons (fC (.int 0)) fNil)))) fNil))) (fCall m__law_outcome (fCons (fVar 4) (fCons (fTup (fCons (fVar 8) (fCons (fC (.int 0)) (fCons (fC (.int 0)) fNil)))) fNil))))) (fTest (fBin gNe (fMeth "Bench" "ring" m_Bench_ring (fVar 2) fNil) (fMeth "Bench" "ring" m_Bench_ring (fVar 8) fNil))))
  (sRet (fC (.bl false)))
  sNop)
def l_law_4 : Fs := (sSeq (sSet (.nm 9) (fBin gAdd (fC (.int 1)) (fCall m__law_draw (fCons (fVar 0) (fCons (fVar 1) (fCons (fCb gLen (fCons (fVar 7) fNil)) fNil))))))
  (sIf (fTest (fBin gNe (fCall m__law_outcome (fCons (fC (.int 2)) (fCons (fTup (fCons (fC .non) (fCons (fSl (fVar 7) oNone (oSome (fBin gSub (fCb gLen (fCons (fVar 7) fNil)) (fVar 9)))) (fCons (fC .non) fNil)))) fNil))) (fCall m__law_raises (fCons (fC (.str "text")) fNil))))
  (sRet (fC (.bl false)))
  sNop))
def b_law_12 : Fs := (sRet (fBin gEq (fComp (fSrc (fVar 10)) (.nm 11) (fTest (fBin gNe (fCall m__law_outcome (fCons (fC (.int 2)) (fCons (fTup (fCons (fC .non) (fCons (fVar 11) (fCons (fC .non) fNil)))) fNil))) (fCall m__law_raises (fCons (fC (.str "text")) fNil)))) (fVar 11) [11]) (fLst fNil)))
def b_law_11 : Fs := (sSeq (sSet (.nm 10) (fLst (fCons (fC .non) (fCons (fC (.int 5)) (fCons (fC (.bl true)) (fCons (fLst (fCons (fVar 7) fNil)) (fCons (fTup (fCons (fVar 7) fNil)) fNil)))))))
  b_law_12)
def b_law_10 : Fs := (sSeq (sFor (fRange1 (fCons (fC (.int 4)) fNil)) (.nm 3)
  l_law_4)
  b_law_11)
def b_law_9 : Fs := (sSeq (sFor (fSrc (fBin gAdd (fBin gAdd (fBin gMul (fLst (fCons (fC (.int 1)) fNil)) (fC (.int 6))) (fBin gMul (fLst (fCons (fC (.int 0)) fNil)) (fC (.int 12)))) (fBin gMul (fLst (fCons (fC (.int 1)) fNil)) (fC (.int 4))))) (.nm 4)
  l_law_3)
  b_law_10)
def b_law_8 : Fs := (sSeq (sIf (fOr (fTest (fNeO "Bench" m_Bench___eq__ (fVar 8) (fVar 2))) (fOr (fTest (fBin gNe (fMeth "Bench" "ring" m_Bench_ring (fVar 8) fNil) (fVar 6))) (fTest (fBin gNe (fStrO "Bench" m_Bench___str__ (fVar 8)) (fStrO "Bench" m_Bench___str__ (fVar 2))))))
  (sRet (fC (.bl false)))
  sNop)
  b_law_9)
def b_law_7 : Fs := (sSeq (sSet (.nm 8) (fCall m_load (fCons (fVar 7) fNil)))
  b_law_8)
def b_law_6 : Fs := (sSeq (sIf (fOr (fNot (fTest (fCb gIsi (fCons (fVar 7) (fCons (fC (.ty "str")) fNil))))) (fTest (fBin gNe (fMeth "Bench" "ring" m_Bench_ring (fVar 2) fNil) (fVar 6))))
  (sRet (fC (.bl false)))
  sNop)
  b_law_7)
def b_law_5 : Fs := (sSeq (sSet (.nm 7) (fCall m_save (fCons (fVar 2) fNil)))
  b_law_6)
def b_law_4 : Fs := (sSeq (sSet (.nm 6) (fMeth "Bench" "ring" m_Bench_ring (fVar 2) fNil))
  b_law_5)
def b_law_3 : Fs := (sSeq (sFor (fRange1 (fCons (fCall m__law_draw (fCons (fVar 0) (fCons (fVar 1) (fCons (fC (.int 5)) fNil)))) fNil)) (.nm 3)
  l_law_2)
  b_law_4)
def b_law_2 : Fs := (sSeq (sFor (fRange1 (fCons (fCall m__law_draw (fCons (fVar 0) (fCons (fVar 1) (fCons (fC (.int 9)) fNil)))) fNil)) (.nm 3)
  l_law_1)
  b_law_3)
def b_law_1 : Fs := (sSeq (sSet (.nm 2) (fMake "Bench" m_Bench___init__ (fCons (fCall m__law_ring (fCons (fVar 0) (fCons (fVar 1) (fCons (fC (.int 12)) fNil)))) fNil)))
  b_law_2)
def b_law : Fs := (sSeq (sSet (.nm 1) (fCall m__law_town (fCons (fVar 0) fNil)))
  b_law_1)
def m_law : Fn := runB 12 1 b_law
/-! ### facts -/
structure Fx (K : PySem.W.Frag) (mg : Str → Option Value) : Prop where
  d__law_town : DefF K mg "_law_town" s__law_town
  d_is_between : DefF K mg "is_between" s_is_between
  d_does_close : DefF K mg "does_close" s_does_close
  d_is_ring : DefF K mg "is_ring" s_is_ring
  d_check_ring : DefF K mg "check_ring" s_check_ring
  d_Bench___init__ : DefMF K "Bench" "__init__" "Bench.__init__" s_Bench___init__
  d__law_draw : DefF K mg "_law_draw" s__law_draw
  d__law_closes : DefF K mg "_law_closes" s__law_closes
  d__law_ring : DefF K mg "_law_ring" s__law_ring
  d_length_of : DefF K mg "length_of" s_length_of
  d_ring_text : DefF K mg "ring_text" s_ring_text
  d_parse_ring : DefF K mg "parse_ring" s_parse_ring
  d_check_number : DefF K mg "check_number" s_check_number
  d_with_length : DefF K mg "with_length" s_with_length
  d_Bench_perform : DefMF K "Bench" "perform" "Bench.perform" s_Bench_perform
  d_kind_of : DefF K mg "kind_of" s_kind_of
  d_Bench_change : DefMF K "Bench" "change" "Bench.change" s_Bench_change
  d_Bench_exchange : DefMF K "Bench" "exchange" "Bench.exchange" s_Bench_exchange
  d_Bench_undo : DefMF K "Bench" "undo" "Bench.undo" s_Bench_undo
  d_load : DefF K mg "load" s_load
  d_Bench_redo : DefMF K "Bench" "redo" "Bench.redo" s_Bench_redo
  d__law_call : DefF K mg "_law_call" s__law_call
  d__law_name : DefF K mg "_law_name" s__law_name
  d__law_outcome : DefF K mg "_law_outcome" s__law_outcome
  d_Bench_ring : DefMF K "Bench" "ring" "Bench.ring" s_Bench_ring
  d_operation_text : DefF K mg "operation_text" s_operation_text
  d_save : DefF K mg "save" s_save
  d_Bench___eq__ : DefMF K "Bench" "__eq__" "Bench.__eq__" s_Bench___eq__
  d_Bench___str__ : DefMF K "Bench" "__str__" "Bench.__str__" s_Bench___str__
  d__law_raises : DefF K mg "_law_raises" s__law_raises
  d_law : DefF K mg "law" s_law
  c_Bench : ClsF K mg "Bench"
  a_Bench_begun : L2.NoAttr K (ga K "Bench") "begun"
  a_Bench_current : L2.NoAttr K (ga K "Bench") "current"
  a_Bench_earlier : L2.NoAttr K (ga K "Bench") "earlier"
  a_Bench_done : L2.NoAttr K (ga K "Bench") "done"
  a_Bench_undone : L2.NoAttr K (ga K "Bench") "undone"
  h_Bench_ring : L2.Meth K (ga K "Bench") "ring" (ma K (ga K "Bench") "ring")
  h_Bench___eq__ : L2.Meth K (ga K "Bench") "__eq__" (ma K (ga K "Bench") "__eq__")
  h_Bench___str__ : L2.Meth K (ga K "Bench") "__str__" (ma K (ga K "Bench") "__str__")
  h_Bench_change : L2.Meth K (ga K "Bench") "change" (ma K (ga K "Bench") "change")
  h_Bench_exchange : L2.Meth K (ga K "Bench") "exchange" (ma K (ga K "Bench") "exchange")
  h_Bench_undo : L2.Meth K (ga K "Bench") "undo" (ma K (ga K "Bench") "undo")
  h_Bench_redo : L2.Meth K (ga K "Bench") "redo" (ma K (ga K "Bench") "redo")
  h_Bench_perform : L2.Meth K (ga K "Bench") "perform" (ma K (ga K "Bench") "perform")
  o_Bench : PySem.W.findIn K (.ref (ga K "Bench")) "__ne__" = some (some (.builtin "object.__ne__")) ∧ OthO K (ga K "Bench")
  k_Bench : L2.Mk K (ga K "Bench") (ma K (ga K "Bench") "__init__")
  n_range : mg "range" = none
  n_isinstance : mg "isinstance" = none
  n_str : mg "str" = none
  n_len : mg "len" = none
  n_list : mg "list" = none
  n_tuple : mg "tuple" = none
  n_all : mg "all" = none
  n_int : mg "int" = none
  n_bool : mg "bool" = none
  n_max : mg "max" = none
  n_sum : mg "sum" = none
  n_min : mg "min" = none
  n_sorted : mg "sorted" = none
  n_ValueError : mg "ValueError" = none
  e_InvalidRing : ExcF K mg "InvalidRing"
  e_BarError : ExcF K mg "BarError"
  e_InvalidNumber : ExcF K mg "InvalidNumber"
  e_InvalidKind : ExcF K mg "InvalidKind"
  e_InvalidLength : ExcF K mg "InvalidLength"
  e_InvalidPerimeter : ExcF K mg "InvalidPerimeter"
  e_InvalidText : ExcF K mg "InvalidText"
  e_NoPosition : ExcF K mg "NoPosition"
  e_ZeroDiagonal : ExcF K mg "ZeroDiagonal"
  e_NoRing : ExcF K mg "NoRing"
  e_TooLong : ExcF K mg "TooLong"
  e_NothingToUndo : ExcF K mg "NothingToUndo"
  isi : IsiF K mg exsL
  exm : ∀ y ∈ exsL, ∀ C, mg y = some (.ref C) → PySem.W.exmOne K (.ref C) (.ref (ga K "BarError")) = some true
section
variable {P : Program} {w : World} {K : PySem.W.Frag} {mg : Str → Option Value} {base : Heap}
theorem ok__law_town (C : Fx K mg) : Def P w K mg base "_law_town" ["_law_script"] 1 1 m__law_town := by
  refine C.d__law_town.def_ (N := ["_law_script"]) (k := 0) (g := b__law_town) sc__law_town (fun _ _ _ _ _ _ us hl => match us, hl with | [_], _ => rfl) (fun f cdv A outer s H E hr => ?_)
  have hu := hu100 hr
  exact (ss_one (s_ret (x_binC o_catC (x_lst (a_cons x_int a_nil) (lenA_cons lenA_nil)) (x_callTy (b_list) (by rfl) C.n_list (by rfl) (a_cons (x_var (pv 0)) a_nil)))))
theorem ok_is_between (C : Fx K mg) : Def P w K mg base "is_between" ["value", "low", "high"] 1 3 m_is_between := by
  refine C.d_is_between.def_ (N := ["value", "low", "high"]) (k := 0) (g := b_is_between) sc_is_between (fun _ _ _ _ _ _ us hl => match us, hl with | [_, _, _], _ => rfl) (fun f cdv A outer s H E hr => ?_)
  have hu := hu100 hr
  exact (ss_one (s_ret (x_and (x_callB (b_isi) (by rfl) C.n_isinstance (by rfl) (a_cons (x_var (pv 0)) (a_cons (x_ty (by rfl) C.n_int (by rfl)) a_nil))) (x_and (x_not (x_callB (b_isi) (by rfl) C.n_isinstance (by rfl) (a_cons (x_var (pv 0)) (a_cons (x_ty (by rfl) C.n_bool (by rfl)) a_nil)))) (x_one (x_chain o_le o_le (x_var (pv 1)) (x_var (pv 0)) (x_var (pv 2))))))))
theorem ok_does_close (C : Fx K mg) : Def P w K mg base "does_close" ["lengths"] 1 1 m_does_close := by
  refine C.d_does_close.def_ (N := ["lengths"]) (k := 0) (g := b_does_close) sc_does_close (fun _ _ _ _ _ _ us hl => match us, hl with | [_], _ => rfl) (fun f cdv A outer s H E hr => ?_)
  have hu := hu100 hr
  exact (ss_one (s_ret (x_cmp (o_lt hu) (x_bin o_mul x_int (x_callB (b_max hu (by rfl) hr.hd) (by rfl) C.n_max (by rfl) (a_cons (x_var (pv 0)) a_nil))) (x_callB (b_sum (by rfl)) (by rfl) C.n_sum (by rfl) (a_cons (x_var (pv 0)) a_nil)))))
theorem ok_is_ring (C : Fx K mg) : Def P w K mg base "is_ring" ["value"] 2 1 m_is_ring := by
  refine C.d_is_ring.def_ (N := ["value", "one"]) (k := 1) (g := b_is_ring) sc_is_ring (fun _ _ _ _ _ _ us hl => match us, hl with | [_], _ => rfl) (fun f cdv A outer s H E hr => ?_)
  have hu := hu100 hr
  exact (ss_cons (s_if (t_bool (w_or (t_not (t_val (x_callB (b_isi) (by rfl) C.n_isinstance (by rfl) (a_cons (x_var (pv 0)) (a_cons (x_ty (by rfl) C.n_tuple (by rfl)) a_nil))))) (w_or (t_cmp (o_ne hu) (x_callB (b_len) (by rfl) C.n_len (by rfl) (a_cons (x_var (pv 0)) a_nil)) x_int) (w_or1 (t_not (t_val (x_callB (b_all (by rfl)) (by rfl) C.n_all (by rfl) (a_cons (x_comp (own := [("one", 1)]) (by rfl) sc_is_ring.nd (i_src (x_var (pv 0))) (blkOk_by (by kernel_rfl)) (fun _ _ _ _ _ => (g_nm (pg_name (i := 1) sc_is_ring.nd (by rfl) (.inl rfl)))) (fun _ _ _ _ _ => ts_nil) (fun _ _ _ _ _ => (x_def (ok_is_between C) takes0 hr (by decide) (by rfl) (a_cons (x_var (pv 1)) (a_cons x_int (a_cons x_int a_nil))) (lenA_cons (lenA_cons (lenA_cons lenA_nil)))))) a_nil))))))))
  (ss_one (s_ret x_bl))
  ss_nil)
  (ss_one (s_ret (x_def (ok_does_close C) (takes_of rfl rfl rfl rfl) hr (by decide) (by rfl) (a_cons (x_var (pv 0)) a_nil) (lenA_cons lenA_nil)))))
theorem ok_check_ring (C : Fx K mg) : Def P w K mg base "check_ring" ["value"] 3 1 m_check_ring := by
  refine C.d_check_ring.def_ (N := ["value"]) (k := 2) (g := b_check_ring) sc_check_ring (fun _ _ _ _ _ _ us hl => match us, hl with | [_], _ => rfl) (fun f cdv A outer s H E hr => ?_)
  have hu := hu100 hr
  exact (ss_one (s_if (t_not (t_val (x_def (ok_is_ring C) (takes_of rfl rfl rfl rfl) hr (by decide) (by rfl) (a_cons (x_var (pv 0)) a_nil) (lenA_cons lenA_nil))))
  (ss_one (s_raiseF C.e_InvalidRing (by rfl) (takes_of rfl rfl rfl rfl) (by rfl)))
  ss_nil))
theorem ok_Bench___init__ (C : Fx K mg) : DefM P w K mg base "Bench" "__init__" ["self", "ring"] 4 2 m_Bench___init__ := by
  refine C.d_Bench___init__.def_ (N := ["self", "ring"]) (k := 3) (g := b_Bench___init__) sc_Bench___init__ (fun _ _ _ _ _ _ us hl => match us, hl with | [_, _], _ => rfl) (fun f cdv A outer s H E hr => ?_)
  have hu := hu100 hr
  exact (ss_cons (s_expr (x_def (ok_check_ring C) (takes_of rfl rfl rfl rfl) hr (by decide) (by rfl) (a_cons (x_var (pv 1)) a_nil) (lenA_cons lenA_nil)))
  (ss_cons (s_fld (x_var (pv 0)) (x_var (pv 1)) C.c_Bench C.a_Bench_begun)
  (ss_cons (s_fld (x_var (pv 0)) (x_var (pv 1)) C.c_Bench C.a_Bench_current)
  (ss_cons (s_fld (x_var (pv 0)) (x_cel a_nil lenA_nil) C.c_Bench C.a_Bench_earlier)
  (ss_cons (s_fld (x_var (pv 0)) (x_cel a_nil lenA_nil) C.c_Bench C.a_Bench_done)
  (ss_one (s_fld (x_var (pv 0)) (x_cel a_nil lenA_nil) C.c_Bench C.a_Bench_undone)))))))
theorem ok__law_draw (C : Fx K mg) : Def P w K mg base "_law_draw" ["_law_script", "_law_town_here", "_law_limit"] 1 3 m__law_draw := by
  refine C.d__law_draw.def_ (N := ["_law_script", "_law_town_here", "_law_limit", "_law_at", "_law_left", "_law_number"]) (k := 0) (g := b__law_draw) sc__law_draw (fun _ _ _ _ _ _ us hl => match us, hl with | [_, _, _], _ => rfl) (fun f cdv A outer s H E hr => ?_)
  have hu := hu100 hr
  exact (ss_cons (s_put (x_bin o_add (x_ix (x_var (pv 1)) x_int) x_int) (x_var (pv 1)) x_int)
  (ss_cons (s_if (t_cmp (o_eq hu) (x_var (pv 0)) (x_lst a_nil lenA_nil))
  (ss_one (s_ret (x_bin o_mod (x_bin o_fdv (x_bin o_mul (x_bin o_mul (x_ix (x_var (pv 1)) x_int) (x_ix (x_var (pv 1)) x_int)) x_int) x_int) (x_var (pv 2)))))
  ss_nil)
  (ss_cons (s_set (i := 3) sc__law_draw.nd (by rfl) (.inl rfl) (x_bin o_mod (x_ix (x_var (pv 1)) x_int) (x_callB (b_len) (by rfl) C.n_len (by rfl) (a_cons (x_var (pv 0)) a_nil))))
  (ss_cons (s_set (i := 4) sc__law_draw.nd (by rfl) (.inl rfl) (x_ix (x_var (pv 1)) (x_bin o_add x_int (x_var (pv 3)))))
  (ss_cons (s_if (t_bool (w_and (t_cmp o_ge (x_ix (x_var (pv 0)) (x_var (pv 3))) (x_bin o_pow x_int x_int)) (w_and1 (t_cmp o_gt (x_var (pv 4)) x_int))))
  (ss_cons (s_put (x_bin o_fdv (x_var (pv 4)) (x_var (pv 2))) (x_var (pv 1)) (x_bin o_add x_int (x_var (pv 3))))
  (ss_one (s_ret (x_bin o_mod (x_var (pv 4)) (x_var (pv 2))))))
  ss_nil)
  (ss_cons (s_set (i := 5) sc__law_draw.nd (by rfl) (.inl rfl) (x_bin o_mod (x_bin o_add (x_ix (x_var (pv 0)) (x_var (pv 3))) (x_bin o_mul x_int (x_ix (x_var (pv 1)) x_int))) x_int))
  (ss_cons (s_set (i := 5) sc__law_draw.nd (by rfl) (.inl rfl) (x_bin o_mod (x_bin o_pow (x_var (pv 5)) x_int) x_int))
  (ss_one (s_ret (x_bin o_mod (x_bin o_fdv (x_bin o_mod (x_bin o_add (x_bin o_mul (x_bin o_fdv (x_var (pv 5)) x_int) x_int) (x_var (pv 5))) x_int) x_int) (x_var (pv 2))))))))))))
theorem ok__law_closes (C : Fx K mg) : Def P w K mg base "_law_closes" ["_law_ring_here"] 1 1 m__law_closes := by
  refine C.d__law_closes.def_ (N := ["_law_ring_here", "_law_one"]) (k := 0) (g := b__law_closes) sc__law_closes (fun _ _ _ _ _ _ us hl => match us, hl with | [_], _ => rfl) (fun f cdv A outer s H E hr => ?_)
  have hu := hu100 hr
  exact (ss_one (s_ret (x_cmp (o_eq hu) (x_callB (b_len) (by rfl) C.n_len (by rfl) (a_cons (x_comp (own := [("_law_one", 1)]) (by rfl) sc__law_closes.nd (i_src (x_var (pv 0))) (blkOk_by (by kernel_rfl)) (fun _ _ _ _ _ => (g_nm (pg_name (i := 1) sc__law_closes.nd (by rfl) (.inl rfl)))) (fun _ _ _ _ _ => ts_one (t_cmp o_ge (x_var (pv 1)) (x_bin o_sub (x_callB (b_sum (by rfl)) (by rfl) C.n_sum (by rfl) (a_cons (x_var (pv 0)) a_nil)) (x_var (pv 1))))) (fun _ _ _ _ _ => (x_var (pv 1)))) a_nil)) x_int)))
theorem ok__law_ring (C : Fx K mg) : Def P w K mg base "_law_ring" ["_law_script", "_law_town_here", "_law_most"] 2 3 m__law_ring := by
  refine C.d__law_ring.def_ (N := ["_law_script", "_law_town_here", "_law_most", "_law_a", "_law_b", "_law_c", "_law_way", "_law_ring_here", "_law_middle", "_law_at", "_law_k", "_law_one"]) (k := 1) (g := b__law_ring) sc__law_ring (fun _ _ _ _ _ _ us hl => match us, hl with | [_, _, _], _ => rfl) (fun f cdv A outer s H E hr => ?_)
  have hu := hu100 hr
  exact (ss_cons (s_asg (x_comp (own := [("_law_k", 10)]) (by rfl) sc__law_ring.nd (i_range1 (by rfl) C.n_range (a_cons x_int a_nil)) (blkOk_by (by kernel_rfl)) (fun _ _ _ _ _ => (g_nm (pg_name (i := 10) sc__law_ring.nd (by rfl) (.inl rfl)))) (fun _ _ _ _ _ => ts_nil) (fun _ _ _ _ _ => (x_bin o_add x_int (x_def (ok__law_draw C) takes0 hr (by decide) (by rfl) (a_cons (x_var (pv 0)) (a_cons (x_var (pv 1)) (a_cons (x_var (pv 2)) a_nil))) (lenA_cons (lenA_cons (lenA_cons lenA_nil))))))) (g_tp (by rfl) (pgs_cons (pg_name (i := 3) sc__law_ring.nd (by rfl) (.inl rfl)) (pgs_cons (pg_name (i := 4) sc__law_ring.nd (by rfl) (.inl rfl)) (pgs_cons (pg_name (i := 5) sc__law_ring.nd (by rfl) (.inl rfl)) pgs_nil)))))
  (ss_cons (s_set (i := 6) sc__law_ring.nd (by rfl) (.inl rfl) (x_def (ok__law_draw C) (takes_of rfl rfl rfl rfl) hr (by decide) (by rfl) (a_cons (x_var (pv 0)) (a_cons (x_var (pv 1)) (a_cons x_int a_nil))) (lenA_cons (lenA_cons (lenA_cons lenA_nil)))))
  (ss_cons (s_if (t_cmp (o_eq hu) (x_var (pv 6)) x_int)
  (ss_one (s_set (i := 7) sc__law_ring.nd (by rfl) (.inl rfl) (x_tup (a_cons (x_var (pv 3)) (a_cons (x_var (pv 4)) (a_cons (x_var (pv 3)) (a_cons (x_var (pv 4)) a_nil)))) (lenA_cons (lenA_cons (lenA_cons (lenA_cons lenA_nil)))))))
  (ss_one (s_if (t_cmp (o_eq hu) (x_var (pv 6)) x_int)
  (ss_one (s_set (i := 7) sc__law_ring.nd (by rfl) (.inl rfl) (x_tup (a_cons (x_var (pv 3)) (a_cons (x_var (pv 3)) (a_cons (x_var (pv 4)) (a_cons (x_var (pv 4)) a_nil)))) (lenA_cons (lenA_cons (lenA_cons (lenA_cons lenA_nil)))))))
  (ss_one (s_if (t_cmp (o_eq hu) (x_var (pv 6)) x_int)
  (ss_one (s_set (i := 7) sc__law_ring.nd (by rfl) (.inl rfl) (x_tup (a_cons (x_var (pv 3)) (a_cons (x_var (pv 4)) (a_cons (x_var (pv 5)) (a_cons (x_callB (b_max hu (by rfl) hr.hd) (by rfl) C.n_max (by rfl) (a_cons x_int (a_cons (x_bin o_sub (x_bin o_add (x_var (pv 3)) (x_var (pv 4))) (x_var (pv 5))) a_nil))) a_nil)))) (lenA_cons (lenA_cons (lenA_cons (lenA_cons lenA_nil)))))))
  (ss_one (s_set (i := 7) sc__law_ring.nd (by rfl) (.inl rfl) (x_tup (a_cons (x_var (pv 3)) (a_cons (x_var (pv 4)) (a_cons (x_var (pv 5)) (a_cons (x_bin o_add x_int (x_def (ok__law_draw C) (takes_of rfl rfl rfl rfl) hr (by decide) (by rfl) (a_cons (x_var (pv 0)) (a_cons (x_var (pv 1)) (a_cons (x_var (pv 2)) a_nil))) (lenA_cons (lenA_cons (lenA_cons lenA_nil))))) a_nil)))) (lenA_cons (lenA_cons (lenA_cons (lenA_cons lenA_nil))))))))))))
  (ss_cons (s_set (i := 7) sc__law_ring.nd (by rfl) (.inl rfl) (x_callTy (b_tuple) (by rfl) C.n_tuple (by rfl) (a_cons (x_comp (own := [("_law_one", 11)]) (by rfl) sc__law_ring.nd (i_src (x_var (pv 7))) (blkOk_by (by kernel_rfl)) (fun _ _ _ _ _ => (g_nm (pg_name (i := 11) sc__law_ring.nd (by rfl) (.inl rfl)))) (fun _ _ _ _ _ => ts_nil) (fun _ _ _ _ _ => (x_callB (b_min hu (by rfl) hr.hd) (by rfl) C.n_min (by rfl) (a_cons x_int (a_cons (x_var (pv 11)) a_nil))))) a_nil)))
  (ss_cons (s_if (t_not (t_val (x_def (ok__law_closes C) (takes_of rfl rfl rfl rfl) hr (by decide) (by rfl) (a_cons (x_var (pv 7)) a_nil) (lenA_cons lenA_nil))))
  (ss_cons (s_set (i := 8) sc__law_ring.nd (by rfl) (.inr rfl) (x_ix (x_callB (b_sorted) (by rfl) C.n_sorted (by rfl) (a_cons (x_var (pv 7)) a_nil)) x_int))
  (ss_one (s_set (i := 7) sc__law_ring.nd (by rfl) (.inl rfl) (x_callTy (b_tuple) (by rfl) C.n_tuple (by rfl) (a_cons (x_comp (own := [("_law_one", 11)]) (by rfl) sc__law_ring.nd (i_src (x_var (pv 7))) (blkOk_by (by kernel_rfl)) (fun _ _ _ _ _ => (g_nm (pg_name (i := 11) sc__law_ring.nd (by rfl) (.inl rfl)))) (fun _ _ _ _ _ => ts_nil) (fun _ _ _ _ _ => (x_callB (b_min hu (by rfl) hr.hd) (by rfl) C.n_min (by rfl) (a_cons (x_var (pv 11)) (a_cons (x_var (pv 8)) a_nil))))) a_nil)))))
  ss_nil)
  (ss_cons (s_set (i := 9) sc__law_ring.nd (by rfl) (.inl rfl) (x_def (ok__law_draw C) (takes_of rfl rfl rfl rfl) hr (by decide) (by rfl) (a_cons (x_var (pv 0)) (a_cons (x_var (pv 1)) (a_cons x_int a_nil))) (lenA_cons (lenA_cons (lenA_cons lenA_nil)))))
  (ss_one (s_ret (x_bin o_add (x_sl (x_var (pv 7)) (o_some (x_var (pv 9))) o_none) (x_sl (x_var (pv 7)) o_none (o_some (x_var (pv 9)))))))))))))
theorem ok_length_of (C : Fx K mg) : Def P w K mg base "length_of" ["word"] 1 1 m_length_of := by
  refine C.d_length_of.def_ (N := ["word", "sign"]) (k := 0) (g := b_length_of) sc_length_of (fun _ _ _ _ _ _ us hl => match us, hl with | [_], _ => rfl) (fun f cdv A outer s H E hr => ?_)
  have hu := hu100 hr
  exact (ss_one (s_ret (x_if (t_bool (w_and (t_chain o_le o_le x_int (x_callB (b_len) (by rfl) C.n_len (by rfl) (a_cons (x_var (pv 0)) a_nil)) x_int) (w_and1 (t_val (x_callB (b_all (by rfl)) (by rfl) C.n_all (by rfl) (a_cons (x_comp (own := [("sign", 1)]) (by rfl) sc_length_of.nd (i_txt (x_var (pv 0))) (blkOk_by (by kernel_rfl)) (fun _ _ _ _ _ => (g_nm (pg_name (i := 1) sc_length_of.nd (by rfl) (.inl rfl)))) (fun _ _ _ _ _ => ts_nil) (fun _ _ _ _ _ => (x_cmp (o_in hu) (x_var (pv 1)) x_str))) a_nil)))))) (x_callTy (b_int) (by rfl) C.n_int (by rfl) (a_cons (x_var (pv 0)) a_nil)) x_int)))
theorem ok_ring_text (C : Fx K mg) : Def P w K mg base "ring_text" ["ring"] 1 1 m_ring_text := by
  refine C.d_ring_text.def_ (N := ["ring", "length"]) (k := 0) (g := b_ring_text) sc_ring_text (fun _ _ _ _ _ _ us hl => match us, hl with | [_], _ => rfl) (fun f cdv A outer s H E hr => ?_)
  have hu := hu100 hr
  exact (ss_one (s_ret (x_join x_str (x_comp (own := [("length", 1)]) (by rfl) sc_ring_text.nd (i_src (x_var (pv 0))) (blkOk_by (by kernel_rfl)) (fun _ _ _ _ _ => (g_nm (pg_name (i := 1) sc_ring_text.nd (by rfl) (.inl rfl)))) (fun _ _ _ _ _ => ts_nil) (fun _ _ _ _ _ => (x_callTy (b_str) (by rfl) C.n_str (by rfl) (a_cons (x_var (pv 1)) a_nil)))))))
theorem ok_parse_ring (C : Fx K mg) : Def P w K mg base "parse_ring" ["text"] 3 1 m_parse_ring := by
  refine C.d_parse_ring.def_ (N := ["text", "found", "word"]) (k := 2) (g := b_parse_ring) sc_parse_ring (fun _ _ _ _ _ _ us hl => match us, hl with | [_], _ => rfl) (fun f cdv A outer s H E hr => ?_)
  have hu := hu100 hr
  exact (ss_cons (s_if (t_not (t_val (x_callB (b_isi) (by rfl) C.n_isinstance (by rfl) (a_cons (x_var (pv 0)) (a_cons (x_ty (by rfl) C.n_str (by rfl)) a_nil)))))
  (ss_one (s_raiseF C.e_InvalidText (by rfl) (takes_of rfl rfl rfl rfl) (by rfl)))
  ss_nil)
  (ss_cons (s_set (i := 1) sc_parse_ring.nd (by rfl) (.inl rfl) (x_callTy (b_tuple) (by rfl) C.n_tuple (by rfl) (a_cons (x_comp (own := [("word", 2)]) (by rfl) sc_parse_ring.nd (i_src (x_split (x_var (pv 0)) x_str)) (blkOk_by (by kernel_rfl)) (fun _ _ _ _ _ => (g_nm (pg_name (i := 2) sc_parse_ring.nd (by rfl) (.inl rfl)))) (fun _ _ _ _ _ => ts_nil) (fun _ _ _ _ _ => (x_def (ok_length_of C) takes0 hr (by decide) (by rfl) (a_cons (x_var (pv 2)) a_nil) (lenA_cons lenA_nil)))) a_nil)))
  (ss_cons (s_if (t_bool (w_or (t_not (t_val (x_def (ok_is_ring C) (takes_of rfl rfl rfl rfl) hr (by decide) (by rfl) (a_cons (x_var (pv 1)) a_nil) (lenA_cons lenA_nil)))) (w_or1 (t_cmp (o_ne hu) (x_def (ok_ring_text C) (takes_of rfl rfl rfl rfl) hr (by decide) (by rfl) (a_cons (x_var (pv 1)) a_nil) (lenA_cons lenA_nil)) (x_var (pv 0))))))
  (ss_one (s_raiseF C.e_InvalidText (by rfl) (takes_of rfl rfl rfl rfl) (by rfl)))
  ss_nil)
  (ss_one (s_ret (x_var (pv 1)))))))
theorem ok_check_number (C : Fx K mg) : Def P w K mg base "check_number" ["value", "low", "high"] 2 3 m_check_number := by
  refine C.d_check_number.def_ (N := ["value", "low", "high"]) (k := 1) (g := b_check_number) sc_check_number (fun _ _ _ _ _ _ us hl => match us, hl with | [_, _, _], _ => rfl) (fun f cdv A outer s H E hr => ?_)
  have hu := hu100 hr
  exact (ss_one (s_if (t_not (t_val (x_def (ok_is_between C) (takes_of rfl rfl rfl rfl) hr (by decide) (by rfl) (a_cons (x_var (pv 0)) (a_cons (x_var (pv 1)) (a_cons (x_var (pv 2)) a_nil))) (lenA_cons (lenA_cons (lenA_cons lenA_nil))))))
  (ss_one (s_raiseF C.e_InvalidNumber (by rfl) (takes_of rfl rfl rfl rfl) (by rfl)))
  ss_nil))
theorem ok_with_length (C : Fx K mg) : Def P w K mg base "with_length" ["ring", "bar", "length"] 1 3 m_with_length := by
  refine C.d_with_length.def_ (N := ["ring", "bar", "length"]) (k := 0) (g := b_with_length) sc_with_length (fun _ _ _ _ _ _ us hl => match us, hl with | [_, _, _], _ => rfl) (fun f cdv A outer s H E hr => ?_)
  have hu := hu100 hr
  exact (ss_one (s_ret (x_bin o_add (x_bin o_add (x_sl (x_var (pv 0)) o_none (o_some (x_var (pv 1)))) (x_tup (a_cons (x_var (pv 2)) a_nil) (lenA_cons lenA_nil))) (x_sl (x_var (pv 0)) (o_some (x_bin o_add (x_var (pv 1)) x_int)) o_none))))
theorem ok_Bench_perform (C : Fx K mg) : DefM P w K mg base "Bench" "perform" ["self", "ring", "operation"] 1 3 m_Bench_perform := by
  refine C.d_Bench_perform.def_ (N := ["self", "ring", "operation"]) (k := 0) (g := b_Bench_perform) sc_Bench_perform (fun _ _ _ _ _ _ us hl => match us, hl with | [_, _, _], _ => rfl) (fun f cdv A outer s H E hr => ?_)
  have hu := hu100 hr
  exact (ss_cons (s_expr (x_mt PySem.F.slot_list_append PySem.F.type_list_append m_append (x_fld (x_var (pv 0)) C.c_Bench C.a_Bench_earlier) (a_cons (x_fld (x_var (pv 0)) C.c_Bench C.a_Bench_current) a_nil)))
  (ss_cons (s_fld (x_var (pv 0)) (x_var (pv 1)) C.c_Bench C.a_Bench_current)
  (ss_cons (s_expr (x_mt PySem.F.slot_list_append PySem.F.type_list_append m_append (x_fld (x_var (pv 0)) C.c_Bench C.a_Bench_done) (a_cons (x_var (pv 2)) a_nil)))
  (ss_one (s_fld (x_var (pv 0)) (x_cel a_nil lenA_nil) C.c_Bench C.a_Bench_undone)))))
theorem ok_kind_of (C : Fx K mg) : Def P w K mg base "kind_of" ["lengths"] 1 1 m_kind_of := by
  refine C.d_kind_of.def_ (N := ["lengths", "some", "gap"]) (k := 0) (g := b_kind_of) sc_kind_of (fun _ _ _ _ _ _ us hl => match us, hl with | [_], _ => rfl) (fun f cdv A outer s H E hr => ?_)
  have hu := hu100 hr
  exact (ss_cons (s_set (i := 1) sc_kind_of.nd (by rfl) (.inl rfl) (x_callB (b_sorted) (by rfl) C.n_sorted (by rfl) (a_cons (x_var (pv 0)) a_nil)))
  (ss_cons (s_set (i := 2) sc_kind_of.nd (by rfl) (.inl rfl) (x_bin o_sub (x_bin o_sub (x_bin o_add (x_ix (x_var (pv 1)) x_int) (x_ix (x_var (pv 1)) x_int)) (x_ix (x_var (pv 1)) x_int)) (x_ix (x_var (pv 1)) x_int)))
  (ss_cons (s_if (t_cmp (o_eq hu) (x_var (pv 2)) x_int)
  (ss_one (s_ret x_str))
  ss_nil)
  (ss_one (s_ret (x_if (t_cmp (o_lt hu) (x_var (pv 2)) x_int) x_str x_str))))))
theorem ok_Bench_change (C : Fx K mg) : DefM P w K mg base "Bench" "change" ["self", "bar", "length"] 3 3 m_Bench_change := by
  refine C.d_Bench_change.def_ (N := ["self", "bar", "length", "ring"]) (k := 2) (g := b_Bench_change) sc_Bench_change (fun _ _ _ _ _ _ us hl => match us, hl with | [_, _, _], _ => rfl) (fun f cdv A outer s H E hr => ?_)
  have hu := hu100 hr
  exact (ss_cons (s_expr (x_def (ok_check_number C) (takes_of rfl rfl rfl rfl) hr (by decide) (by rfl) (a_cons (x_var (pv 1)) (a_cons x_int (a_cons x_int a_nil))) (lenA_cons (lenA_cons (lenA_cons lenA_nil)))))
  (ss_cons (s_if (t_not (t_val (x_def (ok_is_between C) (takes_of rfl rfl rfl rfl) hr (by decide) (by rfl) (a_cons (x_var (pv 2)) (a_cons x_int (a_cons x_int a_nil))) (lenA_cons (lenA_cons (lenA_cons lenA_nil))))))
  (ss_one (s_raiseF C.e_InvalidLength (by rfl) (takes_of rfl rfl rfl rfl) (by rfl)))
  ss_nil)
  (ss_cons (s_set (i := 3) sc_Bench_change.nd (by rfl) (.inl rfl) (x_def (ok_with_length C) (takes_of rfl rfl rfl rfl) hr (by decide) (by rfl) (a_cons (x_fld (x_var (pv 0)) C.c_Bench C.a_Bench_current) (a_cons (x_var (pv 1)) (a_cons (x_var (pv 2)) a_nil))) (lenA_cons (lenA_cons (lenA_cons lenA_nil)))))
  (ss_cons (s_if (t_not (t_val (x_def (ok_does_close C) (takes_of rfl rfl rfl rfl) hr (by decide) (by rfl) (a_cons (x_var (pv 3)) a_nil) (lenA_cons lenA_nil))))
  (ss_one (s_raiseF C.e_NoRing (by rfl) (takes_of rfl rfl rfl rfl) (by rfl)))
  ss_nil)
  (ss_cons (s_expr (x_meth (takes_of rfl rfl rfl rfl) (ok_Bench_perform C) hr (by decide) C.c_Bench C.h_Bench_perform (x_var (pv 0)) (a_cons (x_var (pv 3)) (a_cons (x_tup (a_cons x_str (a_cons (x_var (pv 1)) (a_cons (x_var (pv 2)) a_nil))) (lenA_cons (lenA_cons (lenA_cons lenA_nil)))) a_nil)) (lenA_cons (lenA_cons lenA_nil))))
  (ss_one (s_ret (x_def (ok_kind_of C) (takes_of rfl rfl rfl rfl) hr (by decide) (by rfl) (a_cons (x_var (pv 3)) a_nil) (lenA_cons lenA_nil)))))))))
theorem ok_Bench_exchange (C : Fx K mg) : DefM P w K mg base "Bench" "exchange" ["self", "bar"] 3 2 m_Bench_exchange := by
  refine C.d_Bench_exchange.def_ (N := ["self", "bar", "other", "ring"]) (k := 2) (g := b_Bench_exchange) sc_Bench_exchange (fun _ _ _ _ _ _ us hl => match us, hl with | [_, _], _ => rfl) (fun f cdv A outer s H E hr => ?_)
  have hu := hu100 hr
  exact (ss_cons (s_expr (x_def (ok_check_number C) (takes_of rfl rfl rfl rfl) hr (by decide) (by rfl) (a_cons (x_var (pv 1)) (a_cons x_int (a_cons x_int a_nil))) (lenA_cons (lenA_cons (lenA_cons lenA_nil)))))
  (ss_cons (s_set (i := 2) sc_Bench_exchange.nd (by rfl) (.inl rfl) (x_bin o_mod (x_bin o_add (x_var (pv 1)) x_int) x_int))
  (ss_cons (s_set (i := 3) sc_Bench_exchange.nd (by rfl) (.inl rfl) (x_def (ok_with_length C) (takes_of rfl rfl rfl rfl) hr (by decide) (by rfl) (a_cons (x_def (ok_with_length C) (takes_of rfl rfl rfl rfl) hr (by decide) (by rfl) (a_cons (x_fld (x_var (pv 0)) C.c_Bench C.a_Bench_current) (a_cons (x_var (pv 1)) (a_cons (x_ix (x_fld (x_var (pv 0)) C.c_Bench C.a_Bench_current) (x_var (pv 2))) a_nil))) (lenA_cons (lenA_cons (lenA_cons lenA_nil)))) (a_cons (x_var (pv 2)) (a_cons (x_ix (x_fld (x_var (pv 0)) C.c_Bench C.a_Bench_current) (x_var (pv 1))) a_nil))) (lenA_cons (lenA_cons (lenA_cons lenA_nil)))))
  (ss_cons (s_expr (x_meth (takes_of rfl rfl rfl rfl) (ok_Bench_perform C) hr (by decide) C.c_Bench C.h_Bench_perform (x_var (pv 0)) (a_cons (x_var (pv 3)) (a_cons (x_tup (a_cons x_str (a_cons (x_var (pv 1)) a_nil)) (lenA_cons (lenA_cons lenA_nil))) a_nil)) (lenA_cons (lenA_cons lenA_nil))))
  (ss_one (s_ret (x_var (pv 3))))))))
theorem ok_Bench_undo (C : Fx K mg) : DefM P w K mg base "Bench" "undo" ["self"] 1 1 m_Bench_undo := by
  refine C.d_Bench_undo.def_ (N := ["self", "operation"]) (k := 0) (g := b_Bench_undo) sc_Bench_undo (fun _ _ _ _ _ _ us hl => match us, hl with | [_], _ => rfl) (fun f cdv A outer s H E hr => ?_)
  have hu := hu100 hr
  exact (ss_cons (s_if (t_cmp (o_eq hu) (x_fld (x_var (pv 0)) C.c_Bench C.a_Bench_done) (x_lst a_nil lenA_nil))
  (ss_one (s_raiseF C.e_NothingToUndo (by rfl) (takes_of rfl rfl rfl rfl) (by rfl)))
  ss_nil)
  (ss_cons (s_set (i := 1) sc_Bench_undo.nd (by rfl) (.inl rfl) (x_mt0 PySem.F.slot_list_pop PySem.F.type_list_pop m_pop (x_fld (x_var (pv 0)) C.c_Bench C.a_Bench_done)))
  (ss_cons (s_expr (x_mt PySem.F.slot_list_append PySem.F.type_list_append m_append (x_fld (x_var (pv 0)) C.c_Bench C.a_Bench_undone) (a_cons (x_tup (a_cons (x_var (pv 1)) (a_cons (x_fld (x_var (pv 0)) C.c_Bench C.a_Bench_current) a_nil)) (lenA_cons (lenA_cons lenA_nil))) a_nil)))
  (ss_cons (s_fld (x_var (pv 0)) (x_mt0 PySem.F.slot_list_pop PySem.F.type_list_pop m_pop (x_fld (x_var (pv 0)) C.c_Bench C.a_Bench_earlier)) C.c_Bench C.a_Bench_current)
  (ss_one (s_ret (x_ix (x_var (pv 1)) x_int)))))))
theorem ok_load (C : Fx K mg) : Def P w K mg base "load" ["text"] 6 1 m_load := by
  refine C.d_load.def_ (N := ["text", "first", "rows", "found", "undone", "line", "name", "numbers", "step"]) (k := 5) (g := b_load) sc_load (fun _ _ _ _ _ _ us hl => match us, hl with | [_], _ => rfl) (fun f cdv A outer s H E hr => ?_)
  have hu := hu100 hr
  exact (ss_cons (s_if (t_bool (w_or (t_not (t_val (x_callB (b_isi) (by rfl) C.n_isinstance (by rfl) (a_cons (x_var (pv 0)) (a_cons (x_ty (by rfl) C.n_str (by rfl)) a_nil))))) (w_or1 (t_cmp (o_ne hu) (x_sl (x_var (pv 0)) (o_some (x_neg x_int)) o_none) x_str))))
  (ss_one (s_raiseF C.e_InvalidText (by rfl) (takes_of rfl rfl rfl rfl) (by rfl)))
  ss_nil)
  (ss_cons (s_star (i := 1) (j := 2) (by rfl) sc_load.nd (by rfl) (by rfl) rfl rfl (x_split (x_sl (x_var (pv 0)) o_none (o_some (x_neg x_int))) x_str))
  (ss_cons (s_par (i := 3) (j := 4) (by rfl) sc_load.nd (by rfl) (by rfl) (by decide) rfl rfl (a_cons (x_make (takes_of rfl rfl rfl rfl) (ok_Bench___init__ C) hr (by decide) C.c_Bench C.k_Bench (by rfl) (a_cons (x_def (ok_parse_ring C) (takes_of rfl rfl rfl rfl) hr (by decide) (by rfl) (a_cons (x_var (pv 1)) a_nil) (lenA_cons lenA_nil)) a_nil) (lenA_cons lenA_nil)) (a_cons x_int a_nil)) (by kernel_rfl))
  (ss_cons (s_for (passes_of rfl) (by rfl) (i_src (x_var (pv 2))) (g_nm (pg_name (i := 5) sc_load.nd (by rfl) (.inl rfl)))
  (ss_tok (s1_aug sc_load.nd (by rfl) (.inl rfl) (x1_callTy (b_int) (by rfl) C.n_int (by rfl) (x1_cmp (o_eq hu) (x_sl (x_var (pv 5)) o_none (o_some x_int)) x1_str)) ip_addX)
  (sst_cons (s_starT (i := 6) (j := 7) (by rfl) sc_load.nd (by rfl) (by rfl) rfl rfl (x_splitT (x_repl (x_var (pv 5))) x_str))
  (ss_one (s_if (t_cmp (o_eq hu) (x_var (pv 6)) x_str)
  (ss_one (s_expr (x_meth (takes_of rfl rfl rfl rfl) (ok_Bench_change C) hr (by decide) C.c_Bench C.h_Bench_change (x_var (pv 3)) (a_cons (x_callTy (b_int) (by rfl) C.n_int (by rfl) (a_cons (x_ix (x_var (pv 7)) x_int) a_nil)) (a_cons (x_callTy (b_int) (by rfl) C.n_int (by rfl) (a_cons (x_ix (x_var (pv 7)) x_int) a_nil)) a_nil)) (lenA_cons (lenA_cons lenA_nil)))))
  (ss_one (s_expr (x_meth (takes_of rfl rfl rfl rfl) (ok_Bench_exchange C) hr (by decide) C.c_Bench C.h_Bench_exchange (x_var (pv 3)) (a_cons (x_callTy (b_int) (by rfl) C.n_int (by rfl) (a_cons (x_ix (x_var (pv 7)) x_int) a_nil)) a_nil) (lenA_cons lenA_nil)))))))))
  (ss_cons (s_for (passes_of rfl) (by rfl) (i_range1 (by rfl) C.n_range (a_cons (x_var (pv 4)) a_nil)) (g_nm (pg_name (i := 8) sc_load.nd (by rfl) (.inl rfl)))
  (ss_one (s_expr (x_meth0 (takes_of rfl rfl rfl rfl) (ok_Bench_undo C) hr (by decide) C.c_Bench C.h_Bench_undo (x_var (pv 3))))))
  (ss_one (s_ret (x_var (pv 3)))))))))
theorem ok_Bench_redo (C : Fx K mg) : DefM P w K mg base "Bench" "redo" ["self"] 1 1 m_Bench_redo := by
  refine C.d_Bench_redo.def_ (N := ["self", "operation", "ring"]) (k := 0) (g := b_Bench_redo) sc_Bench_redo (fun _ _ _ _ _ _ us hl => match us, hl with | [_], _ => rfl) (fun f cdv A outer s H E hr => ?_)
  have hu := hu100 hr
  exact (ss_cons (s_if (t_cmp (o_eq hu) (x_fld (x_var (pv 0)) C.c_Bench C.a_Bench_undone) (x_lst a_nil lenA_nil))
  (ss_one (s_raiseF C.e_NothingToUndo (by rfl) (takes_of rfl rfl rfl rfl) (by rfl)))
  ss_nil)
  (ss_cons (s_asg (x_mt0 PySem.F.slot_list_pop PySem.F.type_list_pop m_pop (x_fld (x_var (pv 0)) C.c_Bench C.a_Bench_undone)) (g_tp (by rfl) (pgs_cons (pg_name (i := 1) sc_Bench_redo.nd (by rfl) (.inl rfl)) (pgs_cons (pg_name (i := 2) sc_Bench_redo.nd (by rfl) (.inl rfl)) pgs_nil))))
  (ss_cons (s_expr (x_mt PySem.F.slot_list_append PySem.F.type_list_append m_append (x_fld (x_var (pv 0)) C.c_Bench C.a_Bench_earlier) (a_cons (x_fld (x_var (pv 0)) C.c_Bench C.a_Bench_current) a_nil)))
  (ss_cons (s_fld (x_var (pv 0)) (x_var (pv 2)) C.c_Bench C.a_Bench_current)
  (ss_cons (s_expr (x_mt PySem.F.slot_list_append PySem.F.type_list_append m_append (x_fld (x_var (pv 0)) C.c_Bench C.a_Bench_done) (a_cons (x_var (pv 1)) a_nil)))
  (ss_one (s_ret (x_ix (x_var (pv 1)) x_int))))))))
theorem ok__law_call (C : Fx K mg) : Def P w K mg base "_law_call" ["_law_way", "_law_arguments"] 7 2 m__law_call := by
  refine C.d__law_call.def_ (N := ["_law_way", "_law_arguments", "_law_bench", "_law_one", "_law_two"]) (k := 6) (g := b__law_call) sc__law_call (fun _ _ _ _ _ _ us hl => match us, hl with | [_, _], _ => rfl) (fun f cdv A outer s H E hr => ?_)
  have hu := hu100 hr
  exact (ss_cons (s_asg (x_var (pv 1)) (g_tp (by rfl) (pgs_cons (pg_name (i := 2) sc__law_call.nd (by rfl) (.inl rfl)) (pgs_cons (pg_name (i := 3) sc__law_call.nd (by rfl) (.inl rfl)) (pgs_cons (pg_name (i := 4) sc__law_call.nd (by rfl) (.inl rfl)) pgs_nil)))))
  (ss_cons (s_if (t_cmp (o_eq hu) (x_var (pv 0)) x_int)
  (ss_one (s_ret (x_def (ok_load C) (takes_of rfl rfl rfl rfl) hr (by decide) (by rfl) (a_cons (x_var (pv 3)) a_nil) (lenA_cons lenA_nil))))
  ss_nil)
  (ss_cons (s_if (t_cmp o_gt (x_var (pv 0)) x_int)
  (ss_one (s_ret (x_if (t_cmp (o_eq hu) (x_var (pv 0)) x_int) (x_meth (takes_of rfl rfl rfl rfl) (ok_Bench_change C) hr (by decide) C.c_Bench C.h_Bench_change (x_var (pv 2)) (a_cons (x_var (pv 3)) (a_cons (x_var (pv 4)) a_nil)) (lenA_cons (lenA_cons lenA_nil))) (x_meth (takes_of rfl rfl rfl rfl) (ok_Bench_exchange C) hr (by decide) C.c_Bench C.h_Bench_exchange (x_var (pv 2)) (a_cons (x_var (pv 3)) a_nil) (lenA_cons lenA_nil)))))
  ss_nil)
  (ss_one (s_ret (x_if (t_cmp (o_eq hu) (x_var (pv 0)) x_int) (x_meth0 (takes_of rfl rfl rfl rfl) (ok_Bench_undo C) hr (by decide) C.c_Bench C.h_Bench_undo (x_var (pv 2))) (x_meth0 (takes_of rfl rfl rfl rfl) (ok_Bench_redo C) hr (by decide) C.c_Bench C.h_Bench_redo (x_var (pv 2)))))))))
theorem ok__law_name (C : Fx K mg) : Def P w K mg base "_law_name" ["_law_caught"] 1 1 m__law_name := by
  refine C.d__law_name.def_ (N := ["_law_caught", "_law_found"]) (k := 0) (g := b__law_name) sc__law_name (fun _ _ _ _ _ _ us hl => match us, hl with | [_], _ => rfl) (fun f cdv A outer s H E hr => ?_)
  have hu := hu100 hr
  exact (ss_cons (s_if (t_not (t_val (x_callB (b_isX C.isi) (by rfl) C.n_isinstance (by rfl) (a_cons (x_var (pv 0)) (a_cons (x_ty (by rfl) C.n_ValueError (by rfl)) a_nil)))))
  (ss_one (s_ret (x_neg x_int)))
  ss_nil)
  (ss_cons (s_set (i := 1) sc__law_name.nd (by rfl) (.inl rfl) (x_lst (a_cons (x_callB (b_isX C.isi) (by rfl) C.n_isinstance (by rfl) (a_cons (x_var (pv 0)) (a_cons (x_gl (v := V.ref _) (by rfl) C.e_InvalidRing.gl rfl) a_nil))) (a_cons (x_callB (b_isX C.isi) (by rfl) C.n_isinstance (by rfl) (a_cons (x_var (pv 0)) (a_cons (x_gl (v := V.ref _) (by rfl) C.e_InvalidNumber.gl rfl) a_nil))) a_nil)) (lenA_cons (lenA_cons lenA_nil))))
  (ss_cons (s_set (i := 1) sc__law_name.nd (by rfl) (.inl rfl) (x_bin o_add (x_var (pv 1)) (x_lst (a_cons (x_callB (b_isX C.isi) (by rfl) C.n_isinstance (by rfl) (a_cons (x_var (pv 0)) (a_cons (x_gl (v := V.ref _) (by rfl) C.e_InvalidKind.gl rfl) a_nil))) (a_cons (x_callB (b_isX C.isi) (by rfl) C.n_isinstance (by rfl) (a_cons (x_var (pv 0)) (a_cons (x_gl (v := V.ref _) (by rfl) C.e_InvalidLength.gl rfl) a_nil))) a_nil)) (lenA_cons (lenA_cons lenA_nil)))))
  (ss_cons (s_set (i := 1) sc__law_name.nd (by rfl) (.inl rfl) (x_bin o_add (x_var (pv 1)) (x_lst (a_cons (x_callB (b_isX C.isi) (by rfl) C.n_isinstance (by rfl) (a_cons (x_var (pv 0)) (a_cons (x_gl (v := V.ref _) (by rfl) C.e_InvalidPerimeter.gl rfl) a_nil))) (a_cons (x_callB (b_isX C.isi) (by rfl) C.n_isinstance (by rfl) (a_cons (x_var (pv 0)) (a_cons (x_gl (v := V.ref _) (by rfl) C.e_InvalidText.gl rfl) a_nil))) a_nil)) (lenA_cons (lenA_cons lenA_nil)))))
  (ss_cons (s_set (i := 1) sc__law_name.nd (by rfl) (.inl rfl) (x_bin o_add (x_var (pv 1)) (x_lst (a_cons (x_callB (b_isX C.isi) (by rfl) C.n_isinstance (by rfl) (a_cons (x_var (pv 0)) (a_cons (x_gl (v := V.ref _) (by rfl) C.e_NoPosition.gl rfl) a_nil))) (a_cons (x_callB (b_isX C.isi) (by rfl) C.n_isinstance (by rfl) (a_cons (x_var (pv 0)) (a_cons (x_gl (v := V.ref _) (by rfl) C.e_ZeroDiagonal.gl rfl) a_nil))) a_nil)) (lenA_cons (lenA_cons lenA_nil)))))
  (ss_cons (s_set (i := 1) sc__law_name.nd (by rfl) (.inl rfl) (x_bin o_add (x_var (pv 1)) (x_lst (a_cons (x_callB (b_isX C.isi) (by rfl) C.n_isinstance (by rfl) (a_cons (x_var (pv 0)) (a_cons (x_gl (v := V.ref _) (by rfl) C.e_NoRing.gl rfl) a_nil))) (a_cons (x_callB (b_isX C.isi) (by rfl) C.n_isinstance (by rfl) (a_cons (x_var (pv 0)) (a_cons (x_gl (v := V.ref _) (by rfl) C.e_TooLong.gl rfl) a_nil))) a_nil)) (lenA_cons (lenA_cons lenA_nil)))))
  (ss_cons (s_set (i := 1) sc__law_name.nd (by rfl) (.inl rfl) (x_bin o_add (x_var (pv 1)) (x_lst (a_cons (x_callB (b_isX C.isi) (by rfl) C.n_isinstance (by rfl) (a_cons (x_var (pv 0)) (a_cons (x_gl (v := V.ref _) (by rfl) C.e_NothingToUndo.gl rfl) a_nil))) a_nil) (lenA_cons lenA_nil))))
  (ss_one (s_ret (x_if (t_cmp (o_eq hu) (x_mt PySem.F.slot_list_count PySem.F.type_list_count (m_cnt hu) (x_var (pv 1)) (a_cons x_bl a_nil)) x_int) (x_mt PySem.F.slot_list_index PySem.F.type_list_index (m_idx hu) (x_var (pv 1)) (a_cons x_bl a_nil)) (x_neg x_int)))))))))))
theorem ok__law_outcome (C : Fx K mg) : Def P w K mg base "_law_outcome" ["_law_way", "_law_arguments"] 8 2 m__law_outcome := by
  refine C.d__law_outcome.def_ (N := ["_law_way", "_law_arguments", "_law_caught", "_law_result", "error"]) (k := 7) (g := b__law_outcome) sc__law_outcome (fun _ _ _ _ _ _ us hl => match us, hl with | [_, _], _ => rfl) (fun f cdv A outer s H E hr => ?_)
  have hu := hu100 hr
  exact (ss_cons (s_set (i := 2) sc__law_outcome.nd (by rfl) (.inl rfl) x_non)
  (ss_cons (s_set (i := 3) sc__law_outcome.nd (by rfl) (.inl rfl) x_non)
  (ss_cons (s_try (n := "error") (i := 4) rfl rfl rfl sc__law_outcome.nd (by rfl) (by rfl) ⟨by rfl, by decide, .inl C.e_BarError.gl⟩ (takes_of rfl rfl rfl rfl) C.exm (fun _ _ _ tk => (ss_one (s_set (i := 3) sc__law_outcome.nd (by rfl) (.inl rfl) (x_def (ok__law_call C) tk hr (by decide) (by rfl) (a_cons (x_var (pv 0)) (a_cons (x_var (pv 1)) a_nil)) (lenA_cons (lenA_cons lenA_nil))))))
  (fun _ _ => (ss_one (s_set (i := 2) sc__law_outcome.nd (by rfl) (.inl rfl) (x_var (pv 4))))))
  (ss_cons (s_if (t_cmp o_is (x_var (pv 2)) x_non)
  (ss_one (s_ret (x_tup (a_cons x_str (a_cons (x_var (pv 3)) a_nil)) (lenA_cons (lenA_cons lenA_nil)))))
  ss_nil)
  (ss_one (s_ret (x_tup (a_cons x_str (a_cons (x_def (ok__law_name C) (takes_of rfl rfl rfl rfl) hr (by decide) (by rfl) (a_cons (x_var (pv 2)) a_nil) (lenA_cons lenA_nil)) a_nil)) (lenA_cons (lenA_cons lenA_nil)))))))))
theorem ok_Bench_ring (C : Fx K mg) : DefM P w K mg base "Bench" "ring" ["self"] 1 1 m_Bench_ring := by
  refine C.d_Bench_ring.def_ (N := ["self"]) (k := 0) (g := b_Bench_ring) sc_Bench_ring (fun _ _ _ _ _ _ us hl => match us, hl with | [_], _ => rfl) (fun f cdv A outer s H E hr => ?_)
  have hu := hu100 hr
  exact (ss_one (s_ret (x_fld (x_var (pv 0)) C.c_Bench C.a_Bench_current)))
theorem ok_operation_text (C : Fx K mg) : Def P w K mg base "operation_text" ["operation"] 1 1 m_operation_text := by
  refine C.d_operation_text.def_ (N := ["operation", "part"]) (k := 0) (g := b_operation_text) sc_operation_text (fun _ _ _ _ _ _ us hl => match us, hl with | [_], _ => rfl) (fun f cdv A outer s H E hr => ?_)
  have hu := hu100 hr
  exact (ss_one (s_ret (x_join x_str (x_comp (own := [("part", 1)]) (by rfl) sc_operation_text.nd (i_src (x_var (pv 0))) (blkOk_by (by kernel_rfl)) (fun _ _ _ _ _ => (g_nm (pg_name (i := 1) sc_operation_text.nd (by rfl) (.inl rfl)))) (fun _ _ _ _ _ => ts_nil) (fun _ _ _ _ _ => (x_callTy (b_str) (by rfl) C.n_str (by rfl) (a_cons (x_var (pv 1)) a_nil)))))))
theorem ok_save (C : Fx K mg) : Def P w K mg base "save" ["bench"] 2 1 m_save := by
  refine C.d_save.def_ (N := ["bench", "rows", "operation", "ring"]) (k := 1) (g := b_save) sc_save (fun _ _ _ _ _ _ us hl => match us, hl with | [_], _ => rfl) (fun f cdv A outer s H E hr => ?_)
  have hu := hu100 hr
  exact (ss_cons (s_setLcC (i := 1) (by rfl) sc_save.nd (by rfl) (by rfl) (sw_true rfl rfl rfl (by decide +kernel)) (own := [("operation", 2)]) (i_src (x_fld (x_var (pv 0)) C.c_Bench C.a_Bench_done)) (blkOk_by (by kernel_rfl)) (fun _ _ _ _ _ => (g_nm (pg_name (i := 2) sc_save.nd (by rfl) (.inl rfl)))) (fun _ _ _ _ _ => ts_nil) (fun _ _ _ _ _ => (x_def (ok_operation_text C) takes0 hr (by decide) (by rfl) (a_cons (x_var (pv 2)) a_nil) (lenA_cons lenA_nil))))
  (ss_cons (s_expr (x_mt PySem.F.slot_list_extend PySem.F.type_list_extend m_extend (x_var (pv 1)) (a_cons (x_compC (own := [("operation", 2), ("ring", 3)]) (by rfl) sc_save.nd (i_src (x_rev (x_fld (x_var (pv 0)) C.c_Bench C.a_Bench_undone))) (blkOk_by (by kernel_rfl)) (fun _ _ _ _ _ => (g_tp (by rfl) (pgs_cons (pg_name (i := 2) sc_save.nd (by rfl) (.inl rfl)) (pgs_cons (pg_name (i := 3) sc_save.nd (by rfl) (.inl rfl)) pgs_nil)))) (fun _ _ _ _ _ => ts_nil) (fun _ _ _ _ _ => (x_bin o_add x_str (x_def (ok_operation_text C) takes0 hr (by decide) (by rfl) (a_cons (x_var (pv 2)) a_nil) (lenA_cons lenA_nil))))) a_nil)))
  (ss_one (s_ret (x_bin o_add (x_join x_str (x_bin o_add (x_lst (a_cons (x_def (ok_ring_text C) (takes_of rfl rfl rfl rfl) hr (by decide) (by rfl) (a_cons (x_fld (x_var (pv 0)) C.c_Bench C.a_Bench_begun) a_nil) (lenA_cons lenA_nil)) a_nil) (lenA_cons lenA_nil)) (x_var (pv 1)))) x_str)))))
theorem ok_Bench___eq__ (C : Fx K mg) : DefM P w K mg base "Bench" "__eq__" ["self", "other"] 1 2 m_Bench___eq__ := by
  refine C.d_Bench___eq__.def_ (N := ["self", "other"]) (k := 0) (g := b_Bench___eq__) sc_Bench___eq__ (fun _ _ _ _ _ _ us hl => match us, hl with | [_, _], _ => rfl) (fun f cdv A outer s H E hr => ?_)
  have hu := hu100 hr
  exact (ss_one (s_ret (x_and (x_callB (b_isO C.c_Bench C.o_Bench.2) (by rfl) C.n_isinstance (by rfl) (a_cons (x_var (pv 1)) (a_cons (x_gl (v := V.ref _) (by rfl) C.c_Bench.gl rfl) a_nil))) (x_and (x_cmp (o_eq hu) (x_fld (x_var (pv 0)) C.c_Bench C.a_Bench_begun) (x_fld (x_var (pv 1)) C.c_Bench C.a_Bench_begun)) (x_one (x_cmp (o_eq hu) (x_fld (x_var (pv 0)) C.c_Bench C.a_Bench_done) (x_fld (x_var (pv 1)) C.c_Bench C.a_Bench_done)))))))
theorem ok_Bench___str__ (C : Fx K mg) : DefM P w K mg base "Bench" "__str__" ["self"] 2 1 m_Bench___str__ := by
  refine C.d_Bench___str__.def_ (N := ["self"]) (k := 1) (g := b_Bench___str__) sc_Bench___str__ (fun _ _ _ _ _ _ us hl => match us, hl with | [_], _ => rfl) (fun f cdv A outer s H E hr => ?_)
  have hu := hu100 hr
  exact (ss_one (s_ret (x_joined (.cons (x_fmt (x_def (ok_kind_of C) (takes_of rfl rfl rfl rfl) hr (by decide) (by rfl) (a_cons (x_fld (x_var (pv 0)) C.c_Bench C.a_Bench_current) a_nil) (lenA_cons lenA_nil))) (.cons x_str (.cons (x_fmt (x_callB (b_sum (by rfl)) (by rfl) C.n_sum (by rfl) (a_cons (x_fld (x_var (pv 0)) C.c_Bench C.a_Bench_current) a_nil))) .nil))))))
theorem ok__law_raises (C : Fx K mg) : Def P w K mg base "_law_raises" ["_law_name_here"] 1 1 m__law_raises := by
  refine C.d__law_raises.def_ (N := ["_law_name_here", "_law_names"]) (k := 0) (g := b__law_raises) sc__law_raises (fun _ _ _ _ _ _ us hl => match us, hl with | [_], _ => rfl) (fun f cdv A outer s H E hr => ?_)
  have hu := hu100 hr
  exact (ss_cons (s_set (i := 1) sc__law_raises.nd (by rfl) (.inl rfl) (x_lst (a_cons x_str (a_cons x_str (a_cons x_str (a_cons x_str (a_cons x_str (a_cons x_str (a_cons x_str a_nil))))))) (lenA_cons (lenA_cons (lenA_cons (lenA_cons (lenA_cons (lenA_cons (lenA_cons lenA_nil)))))))))
  (ss_cons (s_set (i := 1) sc__law_raises.nd (by rfl) (.inl rfl) (x_bin o_add (x_var (pv 1)) (x_lst (a_cons x_str (a_cons x_str (a_cons x_str (a_cons x_str a_nil)))) (lenA_cons (lenA_cons (lenA_cons (lenA_cons lenA_nil)))))))
  (ss_one (s_ret (x_tup (a_cons x_str (a_cons (x_mt PySem.F.slot_list_index PySem.F.type_list_index (m_idx hu) (x_var (pv 1)) (a_cons (x_var (pv 0)) a_nil)) a_nil)) (lenA_cons (lenA_cons lenA_nil)))))))
theorem ok_law (C : Fx K mg) : Def P w K mg base "law" ["_law_script"] 9 1 m_law := by
  refine C.d_law.def_ (N := ["_law_script", "_law_town_here", "_law_bench", "_law_k", "_law_way", "_law_bar", "_law_now", "_law_text", "_law_other", "_law_cut", "_law_bads", "_law_bad"]) (k := 8) (g := b_law) sc_law (fun _ _ _ _ _ _ us hl => match us, hl with | [_], _ => rfl) (fun f cdv A outer s H E hr => ?_)
  have hu := hu100 hr
  exact (ss_cons (s_set (i := 1) sc_law.nd (by rfl) (.inl rfl) (x_def (ok__law_town C) (takes_of rfl rfl rfl rfl) hr (by decide) (by rfl) (a_cons (x_var (pv 0)) a_nil) (lenA_cons lenA_nil)))
  (ss_cons (s_set (i := 2) sc_law.nd (by rfl) (.inl rfl) (x_make (takes_of rfl rfl rfl rfl) (ok_Bench___init__ C) hr (by decide) C.c_Bench C.k_Bench (by rfl) (a_cons (x_def (ok__law_ring C) (takes_of rfl rfl rfl rfl) hr (by decide) (by rfl) (a_cons (x_var (pv 0)) (a_cons (x_var (pv 1)) (a_cons x_int a_nil))) (lenA_cons (lenA_cons (lenA_cons lenA_nil)))) a_nil) (lenA_cons lenA_nil)))
  (ss_cons (s_for (passes_of rfl) (by rfl) (i_range1 (by rfl) C.n_range (a_cons (x_def (ok__law_draw C) (takes_of rfl rfl rfl rfl) hr (by decide) (by rfl) (a_cons (x_var (pv 0)) (a_cons (x_var (pv 1)) (a_cons x_int a_nil))) (lenA_cons (lenA_cons (lenA_cons lenA_nil)))) a_nil)) (g_nm (pg_name (i := 3) sc_law.nd (by rfl) (.inl rfl)))
  (ss_cons (s_par (i := 4) (j := 5) (by rfl) sc_law.nd (by rfl) (by rfl) (by decide) rfl rfl (a_cons (x_bin o_add x_int (x_def (ok__law_draw C) (takes_of rfl rfl rfl rfl) hr (by decide) (by rfl) (a_cons (x_var (pv 0)) (a_cons (x_var (pv 1)) (a_cons x_int a_nil))) (lenA_cons (lenA_cons (lenA_cons lenA_nil))))) (a_cons (x_def (ok__law_draw C) (takes_of rfl rfl rfl rfl) hr (by decide) (by rfl) (a_cons (x_var (pv 0)) (a_cons (x_var (pv 1)) (a_cons x_int a_nil))) (lenA_cons (lenA_cons (lenA_cons lenA_nil)))) a_nil)) (by kernel_rfl))
  (ss_one (s_expr (x_def (ok__law_outcome C) (takes_of rfl rfl rfl rfl) hr (by decide) (by rfl) (a_cons (x_var (pv 4)) (a_cons (x_tup (a_cons (x_var (pv 2)) (a_cons (x_var (pv 5)) (a_cons (x_bin o_add x_int (x_def (ok__law_draw C) (takes_of rfl rfl rfl rfl) hr (by decide) (by rfl) (a_cons (x_var (pv 0)) (a_cons (x_var (pv 1)) (a_cons x_int a_nil))) (lenA_cons (lenA_cons (lenA_cons lenA_nil))))) a_nil))) (lenA_cons (lenA_cons (lenA_cons lenA_nil)))) a_nil)) (lenA_cons (lenA_cons lenA_nil)))))))
  (ss_cons (s_for (passes_of rfl) (by rfl) (i_range1 (by rfl) C.n_range (a_cons (x_def (ok__law_draw C) (takes_of rfl rfl rfl rfl) hr (by decide) (by rfl) (a_cons (x_var (pv 0)) (a_cons (x_var (pv 1)) (a_cons x_int a_nil))) (lenA_cons (lenA_cons (lenA_cons lenA_nil)))) a_nil)) (g_nm (pg_name (i := 3) sc_law.nd (by rfl) (.inl rfl)))
  (ss_one (s_expr (x_def (ok__law_outcome C) (takes_of rfl rfl rfl rfl) hr (by decide) (by rfl) (a_cons x_int (a_cons (x_tup (a_cons (x_var (pv 2)) (a_cons x_int (a_cons x_int a_nil))) (lenA_cons (lenA_cons (lenA_cons lenA_nil)))) a_nil)) (lenA_cons (lenA_cons lenA_nil))))))
  (ss_cons (s_set (i := 6) sc_law.nd (by rfl) (.inl rfl) (x_meth0 (takes_of rfl rfl rfl rfl) (ok_Bench_ring C) hr (by decide) C.c_Bench C.h_Bench_ring (x_var (pv 2))))
  (ss_cons (s_set (i := 7) sc_law.nd (by rfl) (.inl rfl) (x_def (ok_save C) (takes_of rfl rfl rfl rfl) hr (by decide) (by rfl) (a_cons (x_var (pv 2)) a_nil) (lenA_cons lenA_nil)))
  (ss_cons (s_if (t_bool (w_or (t_not (t_val (x_callB (b_isi) (by rfl) C.n_isinstance (by rfl) (a_cons (x_var (pv 7)) (a_cons (x_ty (by rfl) C.n_str (by rfl)) a_nil))))) (w_or1 (t_cmp (o_ne hu) (x_meth0 (takes_of rfl rfl rfl rfl) (ok_Bench_ring C) hr (by decide) C.c_Bench C.h_Bench_ring (x_var (pv 2))) (x_var (pv 6))))))
  (ss_one (s_ret x_bl))
  ss_nil)
  (ss_cons (s_set (i := 8) sc_law.nd (by rfl) (.inl rfl) (x_def (ok_load C) (takes_of rfl rfl rfl rfl) hr (by decide) (by rfl) (a_cons (x_var (pv 7)) a_nil) (lenA_cons lenA_nil)))
  (ss_cons (s_if (t_bool (w_or (t_neO (ok_Bench___eq__ C) hr (by decide) C.c_Bench C.o_Bench.2 C.h_Bench___eq__ C.o_Bench.1 (x_var (pv 8)) (x_var (pv 2))) (w_or (t_cmp (o_ne hu) (x_meth0 (takes_of rfl rfl rfl rfl) (ok_Bench_ring C) hr (by decide) C.c_Bench C.h_Bench_ring (x_var (pv 8))) (x_var (pv 6))) (w_or1 (t_cmp (o_ne hu) (x_strO (ok_Bench___str__ C) hr (by decide) C.c_Bench C.h_Bench___str__ (by rfl) C.n_str (x_var (pv 8))) (x_strO (ok_Bench___str__ C) hr (by decide) C.c_Bench C.h_Bench___str__ (by rfl) C.n_str (x_var (pv 2))))))))
  (ss_one (s_ret x_bl))
  ss_nil)
  (ss_cons (s_for (passes_of rfl) (by rfl) (i_src (x_bin o_add (x_bin o_add (x_bin o_mul (x_lst (a_cons x_int a_nil) (lenA_cons lenA_nil)) x_int) (x_bin o_mul (x_lst (a_cons x_int a_nil) (lenA_cons lenA_nil)) x_int)) (x_bin o_mul (x_lst (a_cons x_int a_nil) (lenA_cons lenA_nil)) x_int))) (g_nm (pg_name (i := 4) sc_law.nd (by rfl) (.inl rfl)))
  (ss_one (s_if (t_bool (w_or (t_cmp (o_ne hu) (x_def (ok__law_outcome C) (takes_of rfl rfl rfl rfl) hr (by decide) (by rfl) (a_cons (x_var (pv 4)) (a_cons (x_tup (a_cons (x_var (pv 2)) (a_cons x_int (a_cons x_int a_nil))) (lenA_cons (lenA_cons (lenA_cons lenA_nil)))) a_nil)) (lenA_cons (lenA_cons lenA_nil))) (x_def (ok__law_outcome C) (takes_of rfl rfl rfl rfl) hr (by decide) (by rfl) (a_cons (x_var (pv 4)) (a_cons (x_tup (a_cons (x_var (pv 8)) (a_cons x_int (a_cons x_int a_nil))) (lenA_cons (lenA_cons (lenA_cons lenA_nil)))) a_nil)) (lenA_cons (lenA_cons lenA_nil)))) (w_or1 (t_cmp (o_ne hu) (x_meth0 (takes_of rfl rfl rfl rfl) (ok_Bench_ring C) hr (by decide) C.c_Bench C.h_Bench_ring (x_var (pv 2))) (x_meth0 (takes_of rfl rfl rfl rfl) (ok_Bench_ring C) hr (by decide) C.c_Bench C.h_Bench_ring (x_var (pv 8)))))))
  (ss_one (s_ret x_bl))
  ss_nil)))
  (ss_cons (s_for (passes_of rfl) (by rfl) (i_range1 (by rfl) C.n_range (a_cons x_int a_nil)) (g_nm (pg_name (i := 3) sc_law.nd (by rfl) (.inl rfl)))
  (ss_cons (s_set (i := 9) sc_law.nd (by rfl) (.inl rfl) (x_bin o_add x_int (x_def (ok__law_draw C) (takes_of rfl rfl rfl rfl) hr (by decide) (by rfl) (a_cons (x_var (pv 0)) (a_cons (x_var (pv 1)) (a_cons (x_callB (b_len) (by rfl) C.n_len (by rfl) (a_cons (x_var (pv 7)) a_nil)) a_nil))) (lenA_cons (lenA_cons (lenA_cons lenA_nil))))))
  (ss_one (s_if (t_cmp (o_ne hu) (x_def (ok__law_outcome C) (takes_of rfl rfl rfl rfl) hr (by decide) (by rfl) (a_cons x_int (a_cons (x_tup (a_cons x_non (a_cons (x_sl (x_var (pv 7)) o_none (o_some (x_bin o_sub (x_callB (b_len) (by rfl) C.n_len (by rfl) (a_cons (x_var (pv 7)) a_nil)) (x_var (pv 9))))) (a_cons x_non a_nil))) (lenA_cons (lenA_cons (lenA_cons lenA_nil)))) a_nil)) (lenA_cons (lenA_cons lenA_nil))) (x_def (ok__law_raises C) (takes_of rfl rfl rfl rfl) hr (by decide) (by rfl) (a_cons x_str a_nil) (lenA_cons lenA_nil)))
  (ss_one (s_ret x_bl))
  ss_nil))))
  (ss_cons (s_set (i := 10) sc_law.nd (by rfl) (.inl rfl) (x_lst (a_cons x_non (a_cons x_int (a_cons x_bl (a_cons (x_lst (a_cons (x_var (pv 7)) a_nil) (lenA_cons lenA_nil)) (a_cons (x_tup (a_cons (x_var (pv 7)) a_nil) (lenA_cons lenA_nil)) a_nil))))) (lenA_cons (lenA_cons (lenA_cons (lenA_cons (lenA_cons lenA_nil)))))))
  (ss_one (s_ret (x_cmp (o_eq hu) (x_comp (own := [("_law_bad", 11)]) (by rfl) sc_law.nd (i_src (x_var (pv 10))) (blkOk_by (by kernel_rfl)) (fun _ _ _ _ _ => (g_nm (pg_name (i := 11) sc_law.nd (by rfl) (.inl rfl)))) (fun _ _ _ _ _ => ts_one (t_cmp (o_ne hu) (x_def (ok__law_outcome C) takes0 hr (by decide) (by rfl) (a_cons x_int (a_cons (x_tup (a_cons x_non (a_cons (x_var (pv 11)) (a_cons x_non a_nil))) (lenA_cons (lenA_cons (lenA_cons lenA_nil)))) a_nil)) (lenA_cons (lenA_cons lenA_nil))) (x_def (ok__law_raises C) takes0 hr (by decide) (by rfl) (a_cons x_str a_nil) (lenA_cons lenA_nil)))) (fun _ _ _ _ _ => (x_var (pv 11)))) (x_lst a_nil lenA_nil))))))))))))))))
end
end Fb

/-! what the program's defs do -/
namespace Fb
open PySem
def okR (a b c d : Int) : Prop := (1 ≤ a ∧ a ≤ 50) ∧ (1 ≤ b ∧ b ≤ 50) ∧ (1 ≤ c ∧ c ≤ 50) ∧ (1 ≤ d ∧ d ≤ 50) ∧ a < b + c + d ∧ b < a + c + d ∧ c < a + b + d ∧ d < a + b + c
instance (a b c d : Int) : Decidable (okR a b c d) := by unfold okR; infer_instance
def rot (k : Nat) (l : List Int) : List Int := l.drop k ++ l.take k
@[simp] theorem e_eqL0 {l : List Int} {st : Sto} : gEq (.lst (l.map D.int)) (.lst []) st = some (.bl (decide (l = []))) := gEq_d l ([] : List Int) st
@[simp] theorem e_eqL00 {st : Sto} : gEq (.lst []) (.lst []) st = some (.bl true) := gEq_d ([] : List Int) [] st
@[simp] theorem e_neL00 {st : Sto} : gNe (.lst []) (.lst []) st = some (.bl false) := gNe_d ([] : List Int) [] st
def Tw (t : Int) (r : List Int) : Cell := .lst (.int t :: r.map D.int)
theorem atI_at {l : List Int} {p : Nat} (h : p < l.length) : L2.atI (l.map D.int) (p : Int) = some (.int l[p]) := L2.atI_nat (by rw [List.getElem?_map, List.getElem?_eq_getElem h]; rfl)
theorem atI_at1 {x : D} {l : List Int} {p : Nat} (h : p < l.length) : L2.atI (x :: l.map D.int) (1 + (p : Int)) = some (.int l[p]) := by
  have e : (1 : Int) + (p : Int) = ((p + 1 : Nat) : Int) := by omega
  rw [e]
  exact L2.atI_nat (by rw [List.getElem?_cons_succ, List.getElem?_map, List.getElem?_eq_getElem h]; rfl)
theorem ixN_at {n p : Nat} (h : p < n) : L2.ixN n (p : Int) = some p := by
  unfold L2.ixN
  rw [if_pos (by omega), if_pos (by omega), Int.toNat_natCast]
theorem ixN_at1 {n p : Nat} (h : p < n) : L2.ixN (n + 1) (1 + (p : Int)) = some (p + 1) := by
  have e : (1 : Int) + (p : Int) = ((p + 1 : Nat) : Int) := by omega
  rw [e, ixN_at (by omega)]
theorem ixN_0 {n : Nat} : L2.ixN (n + 1) 0 = some 0 := ixN_at (p := 0) (by omega)
theorem mod_small {a m : Int} (h : 0 < m) : 0 ≤ a % m ∧ a % m < m := ⟨Int.emod_nonneg a (by omega), Int.emod_lt_of_pos a h⟩
/-- four that keep their sort -/
theorem sort4 (a b c d : Int) : ∃ w x y z, isort [a, b, c, d] = [w, x, y, z] ∧ w ≤ x ∧ x ≤ y ∧ y ≤ z ∧ a + b + c + d = w + x + y + z ∧
    (w = a ∨ w = b ∨ w = c ∨ w = d) ∧ (y = a ∨ y = b ∨ y = c ∨ y = d) ∧ (z = a ∨ z = b ∨ z = c ∨ z = d) ∧
    ((y ≤ a ∧ y ≤ b) ∨ (y ≤ a ∧ y ≤ c) ∨ (y ≤ a ∧ y ≤ d) ∨ (y ≤ b ∧ y ≤ c) ∨ (y ≤ b ∧ y ≤ d) ∨ (y ≤ c ∧ y ≤ d)) := by
  repeat' ((try simp only [isort, ins]); split)
  all_goals refine ⟨_, _, _, _, rfl, ?_⟩
  all_goals omega
theorem town_ok (ns : List Int) (st : Sto) (h : ns.length ≤ 63) : m__law_town [.lst (ns.map D.int)] st = .ok (.ref st.length) (st ++ [Tw 0 ns]) := by
  have h1 : 1 + ns.length ≤ 100000 := by omega
  simp [m__law_town, b__law_town, h1, Tw]
theorem draw_z (ns : List Int) (t : Int) (r : List Int) (st : Sto) (m : Int) (h0 : 0 ≤ t) (hb : t < 1000000000) (hl : r.length = ns.length) (hn : ns.length ≤ 63) (hm : 0 < m) (hM : m < 1000000000) :
    ∃ z r', r'.length = ns.length ∧ m__law_draw [.lst (ns.map D.int), .ref 0, .int m] (Tw t r :: st) = .ok (.int (z % m)) (Tw (t + 1) r' :: st) := by
  have hm2 : m < 18446744073709551616 := by omega
  have ht : (t + 1).natAbs < 18446744073709551616 := by omega
  by_cases hs : ns = []
  · subst hs
    refine ⟨(t + 1) * (t + 1) * 7 / 3, r, hl, ?_⟩
    simp [m__law_draw, b__law_draw, b__law_draw_1, b__law_draw_2, b__law_draw_3, b__law_draw_4, b__law_draw_5, b__law_draw_6, b__law_draw_7, Tw, ixN_0, ht, hm]
  · have hp : 0 < ns.length := List.length_pos_iff.mpr hs
    obtain ⟨p, ep⟩ : ∃ p : Nat, (t + 1) % (ns.length : Int) = (p : Int) := ⟨((t + 1) % (ns.length : Int)).toNat, by have := (mod_small (a := t + 1) (show (0 : Int) < ns.length by omega)).1; omega⟩
    have hp2 : p < ns.length := by have := (mod_small (a := t + 1) (show (0 : Int) < ns.length by omega)).2; omega
    have hp3 : p < r.length := by omega
    by_cases hc : (1000000000000000000 : Int) ≤ ns[p] ∧ 0 < r[p]
    · refine ⟨r[p], r.set p (r[p] / m), by simpa using hl, ?_⟩
      simp [m__law_draw, b__law_draw, b__law_draw_1, b__law_draw_2, b__law_draw_3, b__law_draw_4, b__law_draw_5, b__law_draw_6, b__law_draw_7, Tw, ixN_0, hm, hm2, hs, hp, ep, atI_at hp2, atI_at1 hp3, ixN_at1 hp3, hc.1, hc.2]
    · obtain ⟨u, eu⟩ : ∃ u, u = (ns[p] + 104729 * (t + 1)) % 4294967291 := ⟨_, rfl⟩
      have hu : u.natAbs < 18446744073709551616 := by
        have := mod_small (a := ns[p] + 104729 * (t + 1)) (show (0 : Int) < 4294967291 by omega)
        omega
      obtain ⟨v, ev⟩ : ∃ v, v = u ^ 5 % 4294967279 := ⟨_, rfl⟩
      refine ⟨(v / 64 * 69621 + v) % 4294967231 / 8, r, hl, ?_⟩
      have hc' : ¬ ((1000000000000000000 : Int) ≤ ns[p] ∧ 0 < r[p]) := hc
      by_cases hc1 : (1000000000000000000 : Int) ≤ ns[p]
      · have hc2 : ¬ 0 < r[p] := fun z => hc ⟨hc1, z⟩
        simp [m__law_draw, b__law_draw, b__law_draw_1, b__law_draw_2, b__law_draw_3, b__law_draw_4, b__law_draw_5, b__law_draw_6, b__law_draw_7, Tw, ixN_0, hm, hm2, hs, hp, ep, atI_at hp2, atI_at1 hp3, ixN_at1 hp3, hc1, hc2, ← eu, hu, ← ev]
      · simp [m__law_draw, b__law_draw, b__law_draw_1, b__law_draw_2, b__law_draw_3, b__law_draw_4, b__law_draw_5, b__law_draw_6, b__law_draw_7, Tw, ixN_0, hm, hm2, hs, hp, ep, atI_at hp2, atI_at1 hp3, ixN_at1 hp3, hc1, ← eu, hu, ← ev]
theorem draw_ok (ns : List Int) (t : Int) (r : List Int) (st : Sto) (m : Int) (h0 : 0 ≤ t) (hb : t < 1000000000) (hl : r.length = ns.length) (hn : ns.length ≤ 63) (hm : 0 < m) (hM : m < 1000000000) :
    ∃ x r', 0 ≤ x ∧ x < m ∧ r'.length = ns.length ∧ m__law_draw [.lst (ns.map D.int), .ref 0, .int m] (Tw t r :: st) = .ok (.int x) (Tw (t + 1) r' :: st) := by
  obtain ⟨z, r', h1, h2⟩ := draw_z ns t r st m h0 hb hl hn hm hM
  exact ⟨_, r', (mod_small hm).1, (mod_small hm).2, h1, h2⟩
theorem is_between_ok (v lo hi : Int) (st : Sto) : m_is_between [.int v, .int lo, .int hi] st = .ok (.bl (decide (lo ≤ v ∧ v ≤ hi))) st := by
  simp [m_is_between, b_is_between]
  by_cases h : lo ≤ v <;> simp [h]
theorem does_close_ok (a b c d : Int) (st : Sto) : m_does_close [T [a, b, c, d]] st = .ok (.bl (decide (a < b + c + d ∧ b < a + c + d ∧ c < a + b + d ∧ d < a + b + c))) st := by
  have h : gMax [T [a, b, c, d]] st = some (.int ([b, c, d].foldl max a)) := gMax_I rfl
  simp [m_does_close, b_does_close, h]
  rw [Bool.eq_iff_iff]
  simp only [decide_eq_true_eq, Bool.and_eq_true]
  omega
theorem is_ring_ok (a b c d : Int) (st : Sto) : m_is_ring [T [a, b, c, d]] st = .ok (.bl (decide (okR a b c d))) st := by
  have h1 := does_close_ok a b c d st
  simp [m_is_ring, b_is_ring, b_is_ring_1, is_between_ok]
  split
  · rename_i hc
    have : ¬ okR a b c d := by unfold okR; omega
    simp [this]
  · rename_i hc
    have : okR a b c d ↔ (a < b + c + d ∧ b < a + c + d ∧ c < a + b + d ∧ d < a + b + c) := by unfold okR; omega
    simp [h1, this]
theorem check_ring_ok {a b c d : Int} (h : okR a b c d) (st : Sto) : m_check_ring [T [a, b, c, d]] st = .ok .non st := by
  simp [m_check_ring, b_check_ring, is_ring_ok, h]
theorem check_number_ok {v lo hi : Int} (h : lo ≤ v ∧ v ≤ hi) (st : Sto) : m_check_number [.int v, .int lo, .int hi] st = .ok .non st := by
  simp [m_check_number, b_check_number, is_between_ok, h.1, h.2]
def kindR (l : List Int) : Str := match isort l with
  | [w, x, y, z] => if w + z - x - y = 0 then "flat" else if w + z - x - y < 0 then "free" else "bound"
  | _ => "none"
theorem kind_perm {l m : List Int} (h : l.Perm m) : kindR l = kindR m := by
  unfold kindR
  rw [isort_congr h]
theorem kind_of_ok (a b c d : Int) (st : Sto) : m_kind_of [T [a, b, c, d]] st = .ok (.str (kindR [a, b, c, d])) st := by
  obtain ⟨w, x, y, z, e, _⟩ := sort4 a b c d
  have hs : gSorted [T [a, b, c, d]] st = some (.lst [.int w, .int x, .int y, .int z]) := by
    simp [e]
  unfold kindR
  rw [e]
  by_cases h1 : w + z - x - y = 0
  · simp [m_kind_of, b_kind_of, b_kind_of_1, b_kind_of_2, b_kind_of_3, hs, -e_sorted, h1]
  · by_cases h2 : w + z - x - y < 0 <;> simp [m_kind_of, b_kind_of, b_kind_of_1, b_kind_of_2, b_kind_of_3, hs, -e_sorted, h1, h2]
theorem closes_ok (a b c d : Int) (st : Sto) : m__law_closes [T [a, b, c, d]] st = .ok (.bl (decide (a < b + c + d ∧ b < a + c + d ∧ c < a + b + d ∧ d < a + b + c))) st := by
  have h : fComp (fSrc (fVar 0)) (.nm 1) (fTest (fBin gGe (fVar 1) (fBin gSub (fCb gSum (fCons (fVar 0) fNil)) (fVar 1)))) (fVar 1) [1] [some (T [a, b, c, d]), none] st = .ok (.lst (([a, b, c, d].filter fun x => decide ((a + b + c + d) - x ≤ x)).map D.int)) st := by
    rw [comp_fix (ds := [a, b, c, d].map D.int) (st1 := st) (by simp)]
    rw [compF_filter D.int (fun x => decide ((a + b + c + d) - x ≤ x)) D.int]
    · simp
    · simp
    · intro x hx
      refine ⟨_, rfl, ?_, fun _ => ?_⟩
      · simp
        omega
      · simp
  simp [m__law_closes, b__law_closes, h, -e_comp]
  rw [Bool.eq_iff_iff]
  simp only [decide_eq_true_eq, Bool.and_eq_true]
  omega
/-- a ring cut at its third bar closes -/
theorem mid_ok {a b c d : Int} (ha : 1 ≤ a ∧ a ≤ 50) (hb : 1 ≤ b ∧ b ≤ 50) (hc : 1 ≤ c ∧ c ≤ 50) (hd : 1 ≤ d ∧ d ≤ 50) : ∃ w x y z, isort [a, b, c, d] = [w, x, y, z] ∧ okR (if y < a then y else a) (if y < b then y else b) (if y < c then y else c) (if y < d then y else d) := by
  obtain ⟨w, x, y, z, e, h1, h2, h3, h4, h5, h6, h7, h8⟩ := sort4 a b c d
  refine ⟨w, x, y, z, e, ?_⟩
  unfold okR
  omega
abbrev lowE (ns : List Int) (m : Int) (x3 x4 x5 x6 x7 x8 : Option D) : Env := [some (.lst (ns.map D.int)), some (.ref 0), some (.int m), x3, x4, x5, x6, x7, x8, none, none, none]
theorem ring5_ok (M : Int) (hM : M ≤ 50) (ns : List Int) (t : Int) (r : List Int) (st : Sto) (m : Int) (x3 x4 x5 x6 x8 : Option D) (a b c d : Int) (h0 : 0 ≤ t) (hb : t < 1000000000) (hl : r.length = ns.length) (hn : ns.length ≤ 63) (ho : okR a b c d) :
    ∃ e f g k r', okR e f g k ∧ r'.length = ns.length ∧ (b__law_ring_5 (lowE ns m x3 x4 x5 x6 (some (T [a, b, c, d])) x8) (Tw t r :: st)).body = .ok (T [e, f, g, k]) (Tw (t + 1) r' :: st) := by
  obtain ⟨x, r', h1, h2, h3, h4⟩ := draw_ok ns t r st 4 h0 hb hl hn (by omega) (by omega)
  obtain ⟨p, rfl⟩ : ∃ p : Nat, x = (p : Int) := ⟨x.toNat, by omega⟩
  have hp : p = 0 ∨ p = 1 ∨ p = 2 ∨ p = 3 := by omega
  rcases hp with rfl | rfl | rfl | rfl
  · exact ⟨a, b, c, d, r', ho, h3, by simp [b__law_ring_5, b__law_ring_6, h4, t_add]⟩
  · exact ⟨b, c, d, a, r', by unfold okR at ho ⊢; omega, h3, by simp [b__law_ring_5, b__law_ring_6, h4, t_add]⟩
  · exact ⟨c, d, a, b, r', by unfold okR at ho ⊢; omega, h3, by simp [b__law_ring_5, b__law_ring_6, h4, t_add]⟩
  · exact ⟨d, a, b, c, r', by unfold okR at ho ⊢; omega, h3, by simp [b__law_ring_5, b__law_ring_6, h4, t_add]⟩
theorem ring3_ok (ns : List Int) (t : Int) (r : List Int) (st : Sto) (m : Int) (x3 x4 x5 x6 : Option D) (a b c d : Int) (h0 : 0 ≤ t) (hb : t < 1000000000) (hl : r.length = ns.length) (hn : ns.length ≤ 63) (ha : 1 ≤ a ∧ 1 ≤ b ∧ 1 ≤ c ∧ 1 ≤ d) :
    ∃ e f g k r', okR e f g k ∧ r'.length = ns.length ∧ (b__law_ring_3 (lowE ns m x3 x4 x5 x6 (some (T [a, b, c, d])) none) (Tw t r :: st)).body = .ok (T [e, f, g, k]) (Tw (t + 1) r' :: st) := by
  obtain ⟨a', ea⟩ : ∃ a', a' = if a < 50 then a else 50 := ⟨_, rfl⟩
  obtain ⟨b', eb⟩ : ∃ a', a' = if b < 50 then b else 50 := ⟨_, rfl⟩
  obtain ⟨c', ec⟩ : ∃ a', a' = if c < 50 then c else 50 := ⟨_, rfl⟩
  obtain ⟨d', ed⟩ : ∃ a', a' = if d < 50 then d else 50 := ⟨_, rfl⟩
  have hc := closes_ok a' b' c' d' (Tw t r :: st)
  obtain ⟨w, x, y, z, e1, e2⟩ := mid_ok (a := a') (b := b') (c := c') (d := d') (by omega) (by omega) (by omega) (by omega)
  by_cases hk : a' < b' + c' + d' ∧ b' < a' + c' + d' ∧ c' < a' + b' + d' ∧ d' < a' + b' + c'
  · obtain ⟨e, f, g, k, r', h1, h2, h3⟩ := ring5_ok 0 (by omega) ns t r st m x3 x4 x5 x6 none a' b' c' d' h0 hb hl hn (by unfold okR; omega)
    refine ⟨e, f, g, k, r', h1, h2, ?_⟩
    try simp at h3
    simp [b__law_ring_3, b__law_ring_4, ← ea, ← eb, ← ec, ← ed, hc, hk, h3]
  · obtain ⟨e, f, g, k, r', h1, h2, h3⟩ := ring5_ok 0 (by omega) ns t r st m x3 x4 x5 x6 (some (.int y)) _ _ _ _ h0 hb hl hn e2
    refine ⟨e, f, g, k, r', h1, h2, ?_⟩
    simp [b__law_ring_3, b__law_ring_4, ← ea, ← eb, ← ec, ← ed, hc, hk, e1, h3]
theorem ring_ok (ns : List Int) (t : Int) (r : List Int) (st : Sto) (m : Int) (h0 : 0 ≤ t) (hb : t < 999999990) (hl : r.length = ns.length) (hn : ns.length ≤ 63) (hm : 0 < m) (hM : m < 1000000) :
    ∃ e f g k r' t', okR e f g k ∧ t ≤ t' ∧ t' ≤ t + 6 ∧ r'.length = ns.length ∧ m__law_ring [.lst (ns.map D.int), .ref 0, .int m] (Tw t r :: st) = .ok (T [e, f, g, k]) (Tw t' r' :: st) := by
  obtain ⟨a, r1, a1, a2, a3, a4⟩ := draw_ok ns t r st m (by omega) (by omega) hl hn hm (by omega)
  obtain ⟨b, r2, b1, b2, b3, b4⟩ := draw_ok ns (t + 1) r1 st m (by omega) (by omega) a3 hn hm (by omega)
  obtain ⟨c, r3, c1, c2, c3, c4⟩ := draw_ok ns (t + 1 + 1) r2 st m (by omega) (by omega) b3 hn hm (by omega)
  obtain ⟨w, r4, w1, w2, w3, w4⟩ := draw_ok ns (t + 1 + 1 + 1) r3 st 6 (by omega) (by omega) c3 hn (by omega) (by omega)
  have fin : ∀ (x y z v : Int) (t4 : Int) (r4 : List Int), (1 ≤ x ∧ 1 ≤ y ∧ 1 ≤ z ∧ 1 ≤ v) → 0 ≤ t4 → t4 < 1000000000 → r4.length = ns.length → ∃ e f g k r', okR e f g k ∧ r'.length = ns.length ∧
      (b__law_ring_3 (lowE ns m (some (.int (1 + a))) (some (.int (1 + b))) (some (.int (1 + c))) (some (.int w)) (some (T [x, y, z, v])) none) (Tw t4 r4 :: st)).body = .ok (T [e, f, g, k]) (Tw (t4 + 1) r' :: st) :=
    fun x y z v t4 r4 h h0 h1 h2 => ring3_ok ns t4 r4 st m _ _ _ _ x y z v h0 h1 h2 hn h
  by_cases k0 : w = 0
  · subst k0
    obtain ⟨e, f, g, k, r', h1, h2, h3⟩ := fin (1 + a) (1 + b) (1 + a) (1 + b) (t + 1 + 1 + 1 + 1) r4 (by omega) (by omega) (by omega) w3
    exact ⟨e, f, g, k, r', t + 1 + 1 + 1 + 1 + 1, h1, by omega, by omega, h2, by simp [m__law_ring, b__law_ring, b__law_ring_1, b__law_ring_2, a4, b4, c4, w4, h3]⟩
  · by_cases k1 : w = 1
    · subst k1
      obtain ⟨e, f, g, k, r', h1, h2, h3⟩ := fin (1 + a) (1 + a) (1 + b) (1 + b) (t + 1 + 1 + 1 + 1) r4 (by omega) (by omega) (by omega) w3
      exact ⟨e, f, g, k, r', t + 1 + 1 + 1 + 1 + 1, h1, by omega, by omega, h2, by simp [m__law_ring, b__law_ring, b__law_ring_1, b__law_ring_2, a4, b4, c4, w4, h3]⟩
    · by_cases k2 : w = 2
      · subst k2
        obtain ⟨v, ev⟩ : ∃ v, v = if 1 < 1 + a + (1 + b) - (1 + c) then 1 + a + (1 + b) - (1 + c) else 1 := ⟨_, rfl⟩
        obtain ⟨e, f, g, k, r', h1, h2, h3⟩ := fin (1 + a) (1 + b) (1 + c) v (t + 1 + 1 + 1 + 1) r4 (by omega) (by omega) (by omega) w3
        exact ⟨e, f, g, k, r', t + 1 + 1 + 1 + 1 + 1, h1, by omega, by omega, h2, by simp [m__law_ring, b__law_ring, b__law_ring_1, b__law_ring_2, a4, b4, c4, w4, h3, ← ev]⟩
      · obtain ⟨d, r5, d1, d2, d3, d4⟩ := draw_ok ns (t + 1 + 1 + 1 + 1) r4 st m (by omega) (by omega) w3 hn hm (by omega)
        obtain ⟨e, f, g, k, r', h1, h2, h3⟩ := fin (1 + a) (1 + b) (1 + c) (1 + d) (t + 1 + 1 + 1 + 1 + 1) r5 (by omega) (by omega) (by omega) d3
        exact ⟨e, f, g, k, r', t + 1 + 1 + 1 + 1 + 1 + 1, h1, by omega, by omega, h2, by simp [m__law_ring, b__law_ring, b__law_ring_1, b__law_ring_2, a4, b4, c4, w4, k0, k1, k2, d4, h3]⟩
end Fb

/-! openings and positions -/
namespace Fb
open PySem
def ab (x : Int) : Int := if x < 0 then -x else x
def mx (i j : Int) : Int := if j > i then j else i
def mn (i j : Int) : Int := if j < i then j else i
def gcdI (a b : Int) : Int := (Int.gcd a b : Int)
def fr (t b : Int) : List Int := [t / gcdI t b, b / gcdI t b]
theorem gcdI_mod (a b : Int) : gcdI b (a % b) = gcdI a b := by
  unfold gcdI
  rw [Int.emod_def, Int.gcd_sub_mul_left_right, Int.gcd_comm]
theorem gcdI_pos (a : Int) {b : Int} (h : 0 < b) : 0 < gcdI a b := by
  unfold gcdI
  have := Int.gcd_pos_of_ne_zero_right a (b := b) (by omega)
  omega
theorem gcdI_le (a : Int) {b : Int} (h : 0 < b) : gcdI a b ≤ b := Int.le_of_dvd h (Int.gcd_dvd_right a b)
theorem gcdI_abs (a b : Int) : gcdI b (ab a) = gcdI a b := by
  unfold gcdI ab
  split
  · rw [Int.gcd_neg, Int.gcd_comm]
  · rw [Int.gcd_comm]
@[simp] theorem e_neg1 {i : Int} : (D.int i = D.int i) = True := by simp
theorem e_TT (a b c d : List Int) (st : Sto) : gEq (.tup [T a, T b]) (.tup [T c, T d]) st = some (.bl (decide (a = c ∧ b = d))) := by
  have h := gEq_d ((PySem.W.Tup.mk a, PySem.W.Tup.mk b) : PySem.W.Tup Int × PySem.W.Tup Int) (PySem.W.Tup.mk c, PySem.W.Tup.mk d) st
  refine h.trans ?_
  congr 2
  exact decide_eq_decide.mpr (by simp)
theorem n_TT (a b c d : List Int) (st : Sto) : gNe (.tup [T a, T b]) (.tup [T c, T d]) st = some (.bl (!decide (a = c ∧ b = d))) := by
  have h := gNe_d ((PySem.W.Tup.mk a, PySem.W.Tup.mk b) : PySem.W.Tup Int × PySem.W.Tup Int) (PySem.W.Tup.mk c, PySem.W.Tup.mk d) st
  refine h.trans ?_
  congr 2
  congr 1
  exact decide_eq_decide.mpr (by simp)
theorem sm {x : Int} (h : -18446744073709551616 < x ∧ x < 18446744073709551616) : x.natAbs < 18446744073709551616 := by omega
theorem sq_le {x m : Int} (h : 0 ≤ x) (k : x ≤ m) : 0 ≤ x * x ∧ x * x ≤ m * m := ⟨Int.mul_nonneg h h, Int.mul_le_mul k k h (by omega)⟩
theorem pr_le {x y m n : Int} (h : 0 ≤ x) (k : x ≤ m) (h' : 0 ≤ y) (k' : y ≤ n) : 0 ≤ x * y ∧ x * y ≤ m * n := ⟨Int.mul_nonneg h h', Int.mul_le_mul k k' h' (by omega)⟩
def bLo (a b c d : Int) : Int := mx (ab (a - b)) (ab (c - d))
def bHi (a b c d : Int) : Int := mn (a + b) (c + d)
theorem bLo_b {a b c d : Int} (h : okR a b c d) : 0 ≤ bLo a b c d ∧ bLo a b c d < 50 := by unfold okR at h; unfold bLo mx ab; omega
theorem bHi_b {a b c d : Int} (h : okR a b c d) : 0 < bHi a b c d ∧ bHi a b c d ≤ 100 := by unfold okR at h; unfold bHi mn; omega
theorem b_lt {a b c d : Int} (h : okR a b c d) : bLo a b c d < bHi a b c d := by unfold okR at h; unfold bLo bHi mx mn ab; omega
def cosF (x y q : Int) : List Int := fr (x * x + y * y - q) (2 * x * y)
theorem okR_rot {a b c d : Int} (h : okR a b c d) : okR b c d a := by unfold okR at h ⊢; omega
theorem okR_mir {a b c d : Int} (h : okR a b c d) : okR d c b a := by unfold okR at h ⊢; omega
theorem bLo_2 (a b c d : Int) : bLo c d a b = bLo a b c d := by unfold bLo mx ab; omega
theorem bHi_2 (a b c d : Int) : bHi c d a b = bHi a b c d := by unfold bHi mn; omega
/-- the two cosines of joint 0 -/
def cosD (a b c d : Int) : D := .tup [T (cosF a b (bLo a b c d * bLo a b c d)), T (cosF a b (bHi a b c d * bHi a b c d))]
/-- joint 0 turns round -/
def gr (a b c d : Int) : Bool := decide (ab (c - d) ≤ ab (a - b) ∧ a + b ≤ c + d)
def posB (a b c d q : Int) : Bool := decide (bLo a b c d * bLo a b c d ≤ q ∧ q ≤ bHi a b c d * bHi a b c d)
def opD (a b c d q : Int) : D := .tup [T (cosF a b q), T (cosF c d q)]
def flat1 (l : List Int) : Bool := match l with
  | [p, q] => decide (ab p = q)
  | _ => false
def cntI (a b c d q : Int) : Int := if flat1 (cosF a b q) || flat1 (cosF c d q) then 1 else 2
def os1 (a b q : Int) : Int := a * a - b * b + q
def osL (a b q : Int) : Int := 4 * q * a * a - os1 a b q * os1 a b q
def osW (a b c d q : Int) : Int := (os1 a b q - os1 d c q) * (os1 a b q - os1 d c q) + osL a b q + osL d c q
def osD (a b c d q : Int) : D := .tup [T (fr (2 * osW a b c d q) (4 * q)), T (fr (osW a b c d q * osW a b c d q - 4 * osL a b q * osL d c q) (16 * q * q))]
theorem os_b {a b q : Int} (ha : 1 ≤ a ∧ a ≤ 50) (hb : 1 ≤ b ∧ b ≤ 50) (hq : 0 < q ∧ q ≤ 10000) : -12500 ≤ os1 a b q ∧ os1 a b q ≤ 12500 ∧ -160000000 ≤ osL a b q ∧ osL a b q ≤ 160000000 := by
  have h1 := sq_le (x := a) (m := 50) (by omega) ha.2
  have h2 := sq_le (x := b) (m := 50) (by omega) hb.2
  have h3 : -12500 ≤ os1 a b q ∧ os1 a b q ≤ 12500 := by unfold os1; omega
  have h4 : 0 ≤ os1 a b q * os1 a b q ∧ os1 a b q * os1 a b q ≤ 156250000 := by
    rcases Int.le_total 0 (os1 a b q) with z | z
    · exact sq_le z h3.2
    · have := sq_le (x := -os1 a b q) (m := 12500) (by omega) (by omega)
      rw [Int.neg_mul_neg] at this
      exact this
  have h5 := pr_le (x := 4 * q) (y := a) (m := 40000) (n := 50) (by omega) (by omega) (by omega) ha.2
  have h6 := pr_le (x := 4 * q * a) (y := a) (m := 2000000) (n := 50) h5.1 (by omega) (by omega) ha.2
  unfold osL
  omega
end Fb

/-! changes of lengths -/
namespace Fb
open PySem
@[simp] theorem t_f4 {l : List Int} {st : Sto} : gSl (T l) (some 4) none st = some (T (l.drop 4)) := t_from 4
def R50 : List Int := (List.range 50).map fun i : Nat => (1 : Int) + i
@[simp] theorem rangeD50 : rangeD 1 50 = R50.map D.int := by
  unfold rangeD R50
  rw [List.map_map]
  rfl
theorem fil_r (lo hi : Int) (h : 1 ≤ lo) : ∀ n : Nat, (((List.range n).map fun i : Nat => (1 : Int) + i).filter fun v => decide (lo ≤ v ∧ v ≤ hi)) = (List.range (mn n hi - lo + 1).toNat).map fun i : Nat => lo + i
  | 0 => by
    have e : (mn ((0 : Nat) : Int) hi - lo + 1).toNat = 0 := by unfold mn; omega
    rw [e]
    rfl
  | n + 1 => by
    rw [List.range_succ, List.map_append, List.filter_append, fil_r lo hi h n]
    by_cases hc : lo ≤ 1 + (n : Int) ∧ 1 + (n : Int) ≤ hi
    · have e : (mn ((n + 1 : Nat) : Int) hi - lo + 1).toNat = (mn (n : Int) hi - lo + 1).toNat + 1 := by unfold mn; omega
      have e2 : lo + ((mn (n : Int) hi - lo + 1).toNat : Int) = 1 + (n : Int) := by unfold mn; omega
      rw [e, List.range_succ, List.map_append]
      congr 1
      simp [hc]
      unfold mn at e2 ⊢
      omega
    · have e : (mn ((n + 1 : Nat) : Int) hi - lo + 1).toNat = (mn (n : Int) hi - lo + 1).toNat := by unfold mn; omega
      rw [e]
      simp [hc]
theorem fil_R50 {lo hi : Int} (h : 1 ≤ lo) (h2 : hi ≤ 50) : (R50.filter fun v => decide (lo ≤ v ∧ v ≤ hi)) = (List.range (hi - lo + 1).toNat).map fun i : Nat => lo + i := by
  have := fil_r lo hi h 50
  unfold R50
  rw [this]
  congr 2
  unfold mn
  omega
def cLo (b c d : Int) : Int := mx 1 (mx (b - c - d + 1) (mx (c - b - d + 1) (d - b - c + 1)))
def cHi (b c d : Int) : Int := mn 50 (b + c + d - 1)
theorem okR_iff {b c d : Int} (hb : 1 ≤ b ∧ b ≤ 50) (hc : 1 ≤ c ∧ c ≤ 50) (hd : 1 ≤ d ∧ d ≤ 50) (v : Int) : okR v b c d ↔ cLo b c d ≤ v ∧ v ≤ cHi b c d := by
  unfold okR cLo cHi mx mn
  omega
theorem ends_at {lo hi : Int} (h : lo ≤ hi) : L2.atI (((List.range (hi - lo + 1).toNat).map fun i : Nat => lo + (i : Int)).map D.int) 0 = some (.int lo) ∧ L2.atI (((List.range (hi - lo + 1).toNat).map fun i : Nat => lo + (i : Int)).map D.int) (-1) = some (.int hi) := by
  obtain ⟨n, hn⟩ : ∃ n, (hi - lo + 1).toNat = n + 1 := ⟨(hi - lo).toNat, by omega⟩
  rw [hn]
  constructor
  · refine L2.atI_nat (j := 0) ?_
    simp
  · unfold L2.atI L2.ixN
    simp only [List.length_map, List.length_range]
    rw [if_neg (by omega), if_pos (by omega)]
    show (((List.range (n + 1)).map fun i : Nat => lo + (i : Int)).map D.int)[((-1 : Int) + ((n + 1 : Nat) : Int)).toNat]? = _
    have e : ((-1 : Int) + ((n + 1 : Nat) : Int)).toNat = n := by omega
    rw [e]
    simp
    omega
theorem with0 (a b c d v : Int) (st : Sto) : m_with_length [T [a, b, c, d], .int 0, .int v] st = .ok (T [v, b, c, d]) st := by simp [m_with_length, b_with_length, t_add]
theorem with1 (a b c d v : Int) (st : Sto) : m_with_length [T [a, b, c, d], .int 1, .int v] st = .ok (T [a, v, c, d]) st := by simp [m_with_length, b_with_length, t_add]
theorem with2 (a b c d v : Int) (st : Sto) : m_with_length [T [a, b, c, d], .int 2, .int v] st = .ok (T [a, b, v, d]) st := by simp [m_with_length, b_with_length, t_add]
theorem with3 (a b c d v : Int) (st : Sto) : m_with_length [T [a, b, c, d], .int 3, .int v] st = .ok (T [a, b, c, v]) st := by simp [m_with_length, b_with_length, t_add]
end Fb

/-! the law's own readings of joints -/
namespace Fb
open PySem
end Fb

/-! errors -/
namespace Fb
open PySem
@[simp] theorem e_try {bf sf : Fs} {exs : List Str} {i : Nat} {env : Env} {st : Sto} : sTry bf exs i sf env st = (match bf env st with
  | .exc x env1 st1 => handS exs i sf x env1 st1
  | r => r) := (rfl)
@[simp] theorem e_callV {tab : Str → Option Fn} {ff : Fe} {fa : Fa} {env : Env} {st : Sto} : fCallV tab ff fa env st = (ff env st).bind fun d st => match d with
  | .gl x => match tab x with
    | some m => (fa env st).bind m
    | none => .bad
  | _ => .bad := (rfl)
@[simp] theorem e_isX {exs : List Str} {x c : Str} {st : Sto} : gIsX exs [.exc x, .gl c] st = if x ∈ exs ∧ c ∈ exs then some (.bl (decide (x = c))) else none := (rfl)
@[simp] theorem e_isV {exs : List Str} {x : Str} {n : String} {st : Sto} : gIsX exs [.exc x, .ty n] st = if x ∈ exs ∧ n = "ValueError" then some (.bl true) else none := (rfl)
@[simp] theorem is_excn {x : Str} {st : Sto} : gIs (.exc x) .non st = some (.bl false) := (rfl)
@[simp] theorem is_nonn {st : Sto} : gIs .non .non st = some (.bl true) := (rfl)
def names11 : List Str := ["ring", "number", "kind", "length", "perimeter", "text", "none", "zero", "noring", "long", "undo"]
def rsd (i : Int) : D := .tup [.str "raised", .int i]
theorem raises_x (k : Str) (i : Int) (st : Sto) (h : gIdx (.lst (names11.map D.str)) [.str k] st = some (.int i, st)) : m__law_raises [.str k] st = .ok (rsd i) st := by
  simp only [names11, List.map_cons, List.map_nil] at h
  simp [m__law_raises, b__law_raises, b__law_raises_1, b__law_raises_2, h, -e_idx, rsd]
theorem lname_x (x : Str) (bs : List Bool) (i : Int) (st : Sto) (hx : x ∈ exsL) (hb : exsL.map (fun c => decide (x = c)) = bs) (h1 : gCnt (.lst (bs.map D.bl)) [.bl true] st = some (.int 1, st)) (h2 : gIdx (.lst (bs.map D.bl)) [.bl true] st = some (.int i, st)) : m__law_name [.exc x] st = .ok (.int i) st := by
  have m1 : ("InvalidRing" : Str) ∈ exsL := by decide
  have m2 : ("InvalidNumber" : Str) ∈ exsL := by decide
  have m3 : ("InvalidKind" : Str) ∈ exsL := by decide
  have m4 : ("InvalidLength" : Str) ∈ exsL := by decide
  have m5 : ("InvalidPerimeter" : Str) ∈ exsL := by decide
  have m6 : ("InvalidText" : Str) ∈ exsL := by decide
  have m7 : ("NoPosition" : Str) ∈ exsL := by decide
  have m8 : ("ZeroDiagonal" : Str) ∈ exsL := by decide
  have m9 : ("NoRing" : Str) ∈ exsL := by decide
  have m10 : ("TooLong" : Str) ∈ exsL := by decide
  have m11 : ("NothingToUndo" : Str) ∈ exsL := by decide
  rw [← hb] at h1 h2
  simp only [exsL, List.map_cons, List.map_nil] at h1 h2
  simp [m__law_name, b__law_name, b__law_name_1, b__law_name_2, b__law_name_3, b__law_name_4, b__law_name_5, b__law_name_6, b__law_name_7, hx, m1, m2, m3, m4, m5, m6, m7, m8, m9, m10, m11, h1, h2, -e_idx, -e_cnt]
theorem outcome_ok (w a d : D) (st st' : Sto) (h : m__law_call [w, a] st = .ok d st') : m__law_outcome [w, a] st = .ok (.tup [.str "returned", d]) st' := by
  simp [m__law_outcome, b__law_outcome, b__law_outcome_1, b__law_outcome_2, b__law_outcome_3, h]
theorem outcome_exc (w a : D) (x : Str) (i : Int) (st st' : Sto) (h : m__law_call [w, a] st = .exc x st') (hx : x ∈ exsL) (hn : m__law_name [.exc x] st' = .ok (.int i) st') : m__law_outcome [w, a] st = .ok (rsd i) st' := by
  simp [m__law_outcome, b__law_outcome, b__law_outcome_1, b__law_outcome_2, b__law_outcome_3, b__law_outcome_4, h, handS, hx, hn, rsd]
theorem rs_ring (st : Sto) : m__law_raises [.str "ring"] st = .ok (rsd 0) st := raises_x "ring" 0 st (by kernel_rfl)
theorem rs_number (st : Sto) : m__law_raises [.str "number"] st = .ok (rsd 1) st := raises_x "number" 1 st (by kernel_rfl)
theorem rs_kind (st : Sto) : m__law_raises [.str "kind"] st = .ok (rsd 2) st := raises_x "kind" 2 st (by kernel_rfl)
theorem rs_length (st : Sto) : m__law_raises [.str "length"] st = .ok (rsd 3) st := raises_x "length" 3 st (by kernel_rfl)
theorem rs_perimeter (st : Sto) : m__law_raises [.str "perimeter"] st = .ok (rsd 4) st := raises_x "perimeter" 4 st (by kernel_rfl)
theorem rs_text (st : Sto) : m__law_raises [.str "text"] st = .ok (rsd 5) st := raises_x "text" 5 st (by kernel_rfl)
theorem rs_none (st : Sto) : m__law_raises [.str "none"] st = .ok (rsd 6) st := raises_x "none" 6 st (by kernel_rfl)
theorem rs_zero (st : Sto) : m__law_raises [.str "zero"] st = .ok (rsd 7) st := raises_x "zero" 7 st (by kernel_rfl)
theorem rs_noring (st : Sto) : m__law_raises [.str "noring"] st = .ok (rsd 8) st := raises_x "noring" 8 st (by kernel_rfl)
theorem rs_long (st : Sto) : m__law_raises [.str "long"] st = .ok (rsd 9) st := raises_x "long" 9 st (by kernel_rfl)
theorem rs_undo (st : Sto) : m__law_raises [.str "undo"] st = .ok (rsd 10) st := raises_x "undo" 10 st (by kernel_rfl)
theorem oc_ring (w a : D) (st st' : Sto) (h : m__law_call [w, a] st = .exc "InvalidRing" st') : m__law_outcome [w, a] st = .ok (rsd 0) st' := outcome_exc w a "InvalidRing" 0 st st' h (by decide) (lname_x "InvalidRing" [true, false, false, false, false, false, false, false, false, false, false] 0 st' (by decide) (by decide) (by kernel_rfl) (by kernel_rfl))
theorem oc_number (w a : D) (st st' : Sto) (h : m__law_call [w, a] st = .exc "InvalidNumber" st') : m__law_outcome [w, a] st = .ok (rsd 1) st' := outcome_exc w a "InvalidNumber" 1 st st' h (by decide) (lname_x "InvalidNumber" [false, true, false, false, false, false, false, false, false, false, false] 1 st' (by decide) (by decide) (by kernel_rfl) (by kernel_rfl))
theorem oc_kind (w a : D) (st st' : Sto) (h : m__law_call [w, a] st = .exc "InvalidKind" st') : m__law_outcome [w, a] st = .ok (rsd 2) st' := outcome_exc w a "InvalidKind" 2 st st' h (by decide) (lname_x "InvalidKind" [false, false, true, false, false, false, false, false, false, false, false] 2 st' (by decide) (by decide) (by kernel_rfl) (by kernel_rfl))
theorem oc_length (w a : D) (st st' : Sto) (h : m__law_call [w, a] st = .exc "InvalidLength" st') : m__law_outcome [w, a] st = .ok (rsd 3) st' := outcome_exc w a "InvalidLength" 3 st st' h (by decide) (lname_x "InvalidLength" [false, false, false, true, false, false, false, false, false, false, false] 3 st' (by decide) (by decide) (by kernel_rfl) (by kernel_rfl))
theorem oc_perimeter (w a : D) (st st' : Sto) (h : m__law_call [w, a] st = .exc "InvalidPerimeter" st') : m__law_outcome [w, a] st = .ok (rsd 4) st' := outcome_exc w a "InvalidPerimeter" 4 st st' h (by decide) (lname_x "InvalidPerimeter" [false, false, false, false, true, false, false, false, false, false, false] 4 st' (by decide) (by decide) (by kernel_rfl) (by kernel_rfl))
theorem oc_text (w a : D) (st st' : Sto) (h : m__law_call [w, a] st = .exc "InvalidText" st') : m__law_outcome [w, a] st = .ok (rsd 5) st' := outcome_exc w a "InvalidText" 5 st st' h (by decide) (lname_x "InvalidText" [false, false, false, false, false, true, false, false, false, false, false] 5 st' (by decide) (by decide) (by kernel_rfl) (by kernel_rfl))
theorem oc_none (w a : D) (st st' : Sto) (h : m__law_call [w, a] st = .exc "NoPosition" st') : m__law_outcome [w, a] st = .ok (rsd 6) st' := outcome_exc w a "NoPosition" 6 st st' h (by decide) (lname_x "NoPosition" [false, false, false, false, false, false, true, false, false, false, false] 6 st' (by decide) (by decide) (by kernel_rfl) (by kernel_rfl))
theorem oc_zero (w a : D) (st st' : Sto) (h : m__law_call [w, a] st = .exc "ZeroDiagonal" st') : m__law_outcome [w, a] st = .ok (rsd 7) st' := outcome_exc w a "ZeroDiagonal" 7 st st' h (by decide) (lname_x "ZeroDiagonal" [false, false, false, false, false, false, false, true, false, false, false] 7 st' (by decide) (by decide) (by kernel_rfl) (by kernel_rfl))
theorem oc_noring (w a : D) (st st' : Sto) (h : m__law_call [w, a] st = .exc "NoRing" st') : m__law_outcome [w, a] st = .ok (rsd 8) st' := outcome_exc w a "NoRing" 8 st st' h (by decide) (lname_x "NoRing" [false, false, false, false, false, false, false, false, true, false, false] 8 st' (by decide) (by decide) (by kernel_rfl) (by kernel_rfl))
theorem oc_long (w a : D) (st st' : Sto) (h : m__law_call [w, a] st = .exc "TooLong" st') : m__law_outcome [w, a] st = .ok (rsd 9) st' := outcome_exc w a "TooLong" 9 st st' h (by decide) (lname_x "TooLong" [false, false, false, false, false, false, false, false, false, true, false] 9 st' (by decide) (by decide) (by kernel_rfl) (by kernel_rfl))
theorem oc_undo (w a : D) (st st' : Sto) (h : m__law_call [w, a] st = .exc "NothingToUndo" st') : m__law_outcome [w, a] st = .ok (rsd 10) st' := outcome_exc w a "NothingToUndo" 10 st st' h (by decide) (lname_x "NothingToUndo" [false, false, false, false, false, false, false, false, false, false, true] 10 st' (by decide) (by decide) (by kernel_rfl) (by kernel_rfl))
end Fb

/-! texts of rings -/
namespace Fb
open PySem
def txt (n : Int) : Str := Str.ofString (toString n)
def rtx (l : List Int) : Str := Txt.join "-" (l.map txt)
theorem txt_tl {n : Int} (h : 0 ≤ n) : TL.tl (txt n) = TL.numL n.toNat := by
  obtain ⟨k, rfl⟩ : ∃ k : Nat, n = (k : Int) := ⟨n.toNat, by omega⟩
  rw [Int.toNat_natCast]
  exact TL.tl_num k
theorem txt_len {n : Int} (h : 0 ≤ n ∧ n < 1000) : (txt n).length ≤ 3 := by
  rw [TL.len_tl, txt_tl h.1]
  exact TL.numL_len (by decide) (by omega)
theorem log_small {n : Int} (h : 0 ≤ n ∧ n < 1000) : n.natAbs.log2 < 1920 := by
  have : n.natAbs.log2 ≤ n.natAbs := Nat.log2_le_self _
  omega
theorem dash_tl : TL.tl ("-" : Str) = [45] := by decide
theorem dash_len : ("-" : Str).length = 1 := by decide
theorem txt_inj {m n : Int} (hm : 0 ≤ m) (hn : 0 ≤ n) (h : txt m = txt n) : m = n := by
  have e := congrArg TL.tl h
  rw [txt_tl hm, txt_tl hn] at e
  have := TL.numL_inj e
  omega
theorem strs_c {f : Fe} {env : Env} {st st1 : Sto} {l : List Int} {j : Nat} (hf : f env st = .ok (T l) st1) (hj : j < env.length) (hl : ∀ n ∈ l, 0 ≤ n ∧ n < 1000) (hn : l.length ≤ 1000) :
    fComp (fSrc f) (.nm j) fYes (fCb gStr (fCons (fVar j) fNil)) [j] env st = .ok (.lst ((l.map txt).map D.str)) st1 := by
  rw [comp_fix (ds := l.map D.int) (st1 := st1) (by simp [hf])]
  rw [compF_map D.int (fun n => D.str (txt n))]
  · simp only [e_lst1, List.nil_append, List.map_map]
    rfl
  · simp
    omega
  · intro n hx
    refine ⟨_, rfl, rfl, ?_⟩
    have lg := log_small (hl n hx)
    have g : ((wipeE env [j]).set j (some (.int n)))[j]? = some (some (.int n)) := List.getElem?_set_self (by rw [wipeE_len]; exact hj)
    simp [-e_wipe1, -e_wipe0, g, lg, txt]
theorem sum_le3 {l : List Int} (hl : ∀ n ∈ l, 0 ≤ n ∧ n < 1000) : ((l.map txt).map (·.length)).sum ≤ 3 * l.length := by
  induction l with
  | nil => simp
  | cons n l ih =>
    have h1 := txt_len (hl n List.mem_cons_self)
    have h2 := ih fun m hm => hl m (List.mem_cons_of_mem _ hm)
    simp only [List.map_cons, List.sum_cons, List.length_cons]
    omega
theorem join_c {f : Fe} {env : Env} {st st1 : Sto} {l : List Int} {j : Nat} (hf : f env st = .ok (T l) st1) (hj : j < env.length) (hl : ∀ n ∈ l, 0 ≤ n ∧ n < 1000) (hn : l.length ≤ 1000) :
    fM1 gJoin (fC (.str "-")) (fComp (fSrc f) (.nm j) fYes (fCb gStr (fCons (fVar j) fNil)) [j]) env st = .ok (.str (rtx l)) st1 := by
  have h := strs_c hf hj hl hn
  have s := sum_le3 hl
  have c : ((l.map txt).map (·.length)).sum + (l.map txt).length * ("-" : Str).length ≤ 1000000 := by
    rw [dash_len, List.length_map]
    omega
  have gj : gJoin "-" (.lst ((l.map txt).map D.str)) st1 = some (.str (rtx l)) := by
    rw [e_join, e_sql]
    show (toStrs ((l.map txt).map D.str)).bind _ = _
    rw [toStrs_map]
    exact if_pos c
  simp only [e_m1, e_c, e_bind1, h, gj]
theorem small_ok {a b c d : Int} (h : okR a b c d) : ∀ n ∈ [a, b, c, d], 0 ≤ n ∧ n < 1000 := by
  unfold okR at h
  intro n hn
  simp only [List.mem_cons, List.not_mem_nil, or_false] at hn
  omega
/-! words -/
def digB (c : Nat) : Bool := decide (48 ≤ c) && decide (c ≤ 57)
def lenOf (w : Str) : Int := if (1 ≤ w.length ∧ w.length ≤ 2) ∧ (TL.tl w).all digB = true then ((NumText.digitsVal (TL.tl w) : Nat) : Int) else 0
def wrds (x : Str) : List Str := Txt.split x "-"
def fnd (x : Str) : List Int := (wrds x).map lenOf
theorem in_sign {c : Nat} {z : Str} {st : Sto} : gIn (.str ⟨#[c]⟩) (.str z) st = some (.bl (decide (c ∈ z.cps.toList))) := (rfl)
theorem mem_dig (c : Nat) : decide (c ∈ ("0123456789" : Str).cps.toList) = digB c := by
  have e : ("0123456789" : Str).cps.toList = [48, 49, 50, 51, 52, 53, 54, 55, 56, 57] := by decide
  rw [e, Bool.eq_iff_iff]
  unfold digB
  simp
  omega
theorem lenOf_txt {n : Int} (h : 0 ≤ n ∧ n < 100) : lenOf (txt n) = n := by
  have e := txt_tl h.1
  have l1 : (txt n).length ≤ 2 := by
    rw [TL.len_tl, e]
    exact TL.numL_len (by decide) (by omega)
  have l2 : 1 ≤ (txt n).length := by
    rw [TL.len_tl, e]
    exact List.length_pos_iff.mpr (TL.numL_ne _)
  have l3 : (TL.tl (txt n)).all digB = true := by
    rw [e, List.all_eq_true]
    intro c hc
    have := TL.numL_digits _ c hc
    unfold digB
    simp
    omega
  unfold lenOf
  rw [if_pos ⟨⟨l2, l1⟩, l3⟩, e, TL.numL_val]
  omega
theorem wrds_rtx {l : List Int} (h : ∀ n ∈ l, 0 ≤ n) (hne : l ≠ []) : wrds (rtx l) = l.map txt := by
  refine TL.split_join (s := 45) (S := []) dash_tl (by kernel_rfl) (by simpa using hne) fun p hp => ?_
  obtain ⟨n, hn, rfl⟩ := List.mem_map.mp hp
  rw [txt_tl (h n hn)]
  exact TL.numL_free (by omega)
theorem rtx_wrds {x : Str} {l : List Int} (h : wrds x = l.map txt) : rtx l = x := by
  unfold rtx
  rw [← h, TL.join_eq]
  exact PySem.StrLaws.join_split x "-"
theorem joinL_len : ∀ (ps : List (List Nat)), ps ≠ [] → (TL.joinL [45] ps).length + 1 = (ps.map (·.length)).sum + ps.length
  | [], h => absurd rfl h
  | [p], _ => by simp [TL.joinL]
  | p :: q :: r, _ => by
    have := joinL_len (q :: r) (by simp)
    show (p ++ ([45] ++ TL.joinL [45] (q :: r))).length + 1 = _
    simp only [List.length_append, List.length_cons, List.length_nil, List.map_cons, List.sum_cons] at this ⊢
    omega
theorem wrds_ne (x : Str) : wrds x ≠ [] := by
  intro h
  have e := TL.split_spl x "-" (by rw [dash_tl]; simp) (TL.kind_ok (by kernel_rfl))
  unfold wrds at h
  rw [h, dash_tl] at e
  have : ∀ (l : List Nat) (acc : List Nat) (k : Nat), TL.spl [45] k acc l ≠ [] := by
    intro l
    induction l with
    | nil => intro acc k; rw [TL.spl_nil]; simp
    | cons c r ih =>
      intro acc k
      cases k with
      | zero =>
        show (if TL.pre [45] (c :: r) = true then acc :: TL.spl [45] _ [] r else TL.spl [45] 0 (acc ++ [c]) r) ≠ []
        split
        · simp
        · exact ih _ _
      | succ k => exact ih _ _
  exact this _ _ _ e.symm
theorem mem_sum {l : List Nat} {n : Nat} (h : n ∈ l) : n ≤ l.sum := by
  induction l with
  | nil => cases h
  | cons x l ih =>
    rw [List.sum_cons]
    rcases List.mem_cons.mp h with e | e
    · omega
    · have := ih e
      omega
theorem wrds_len (x : Str) : (wrds x).length ≤ x.length + 1 ∧ ∀ w ∈ wrds x, w.length ≤ x.length := by
  have e : Str.join "-" (wrds x) = x := PySem.StrLaws.join_split x "-"
  have e2 := congrArg (fun s => (TL.tl s).length) e
  simp only [TL.tl_join, dash_tl] at e2
  have e3 := joinL_len ((wrds x).map TL.tl) (by simpa using wrds_ne x)
  rw [List.length_map] at e3
  rw [← TL.len_tl] at e2
  have hpos : 0 < (wrds x).length := List.length_pos_iff.mpr (wrds_ne x)
  refine ⟨by omega, fun w hw => ?_⟩
  have hm : w.length ∈ ((wrds x).map TL.tl).map (·.length) := by
    rw [TL.len_tl]
    exact List.mem_map_of_mem (List.mem_map_of_mem hw)
  have := mem_sum hm
  omega
def okB (l : List Int) : Bool := match l with
  | [a, b, c, d] => decide (okR a b c d)
  | _ => false
theorem is_between_ints (l : List Int) (st : Sto) (x0 : Option D) : ∃ bs : List Bool, fComp (fSrc (fVar 0)) (.nm 1) fYes (fCall m_is_between (fCons (fVar 1) (fCons (fC (.int 1)) (fCons (fC (.int 50)) fNil)))) [1] [some (T l), x0] st = .ok (.lst (bs.map D.bl)) st ∨ 100000 < l.length := by
  by_cases hl : l.length ≤ 100000
  · refine ⟨l.map fun v => decide (1 ≤ v ∧ v ≤ 50), .inl ?_⟩
    rw [comp_fix (ds := l.map D.int) (st1 := st) (by simp)]
    rw [compF_map D.int (fun v => D.bl (decide (1 ≤ v ∧ v ≤ 50)))]
    · simp only [e_lst1, List.nil_append, List.map_map]
      rfl
    · simpa using hl
    · intro v _
      refine ⟨_, rfl, rfl, ?_⟩
      simp [is_between_ok]
  · exact ⟨[], .inr (by omega)⟩
theorem is_ring_l (l : List Int) (st : Sto) : m_is_ring [T l] st = .ok (.bl (okB l)) st := by
  by_cases hl : l.length = 4
  · match l, hl with
    | [a, b, c, d], _ => exact is_ring_ok a b c d st
  · have e : okB l = false := by
      unfold okB
      split
      · exact absurd rfl hl
      · rfl
    have h4 : ¬ ((l.length : Int) = 4) := by omega
    rw [e]
    simp [m_is_ring, b_is_ring, h4]
theorem okB_iff {l : List Int} : okB l = true ↔ ∃ a b c d, l = [a, b, c, d] ∧ okR a b c d := by
  unfold okB
  split
  · rename_i a b c d
    rw [decide_eq_true_eq]
    constructor
    · exact fun h => ⟨a, b, c, d, rfl, h⟩
    · rintro ⟨a', b', c', d', e, h⟩
      cases e
      exact h
  · rename_i hne
    constructor
    · intro h; cases h
    · rintro ⟨a, b, c, d, e, _⟩
      exact absurd e (hne a b c d)
theorem ring_text_ok {l : List Int} (hl : ∀ n ∈ l, 0 ≤ n ∧ n < 1000) (hn : l.length ≤ 1000) (st : Sto) : m_ring_text [T l] st = .ok (.str (rtx l)) st := by
  have h := join_c (f := fVar 0) (env := [some (T l), none]) (st := st) (st1 := st) (l := l) (j := 1) (by simp) (by simp) hl hn
  simp [m_ring_text, b_ring_text, h, -e_m1]
theorem signs_c (w : Str) (hw : w.length ≤ 1000) (st : Sto) : fComp (fSrcS (fVar 0)) (.nm 1) fYes (fBin gIn (fVar 1) (fC (.str "0123456789"))) [1] [some (.str w), none] st = .ok (.lst (((TL.tl w).map digB).map D.bl)) st := by
  rw [comp_fix (ds := (TL.tl w).map fun c => D.str ⟨#[c]⟩) (st1 := st) (by simp [signsD])]
  rw [compF_map (fun c => D.str ⟨#[c]⟩) (fun c => D.bl (digB c))]
  · simp only [e_lst1, List.nil_append, List.map_map]
    rfl
  · rw [TL.len_tl] at hw
    simp at hw ⊢
    omega
  · intro c _
    refine ⟨_, rfl, rfl, ?_⟩
    have := mem_dig c
    simp only [e_bin, e_var, e_c, e_bind1]
    simp [in_sign]
    simpa using this
theorem length_of_ok (w : Str) (hw : w.length ≤ 1000) (st : Sto) : m_length_of [.str w] st = .ok (.int (lenOf w)) st := by
  have c := signs_c w hw st
  have w1 : w.length ≤ 100000 := by omega
  have al : gAll [.lst (((TL.tl w).map digB).map D.bl)] st = some (.bl ((TL.tl w).all digB)) := by
    rw [e_all, toBools_map]
    simp [List.all_map]
  have gl : gLen [.str w] st = some (.int w.length) := by
    show (if w.length ≤ 100000 then some (D.int w.length) else none) = _
    rw [if_pos w1]
  unfold lenOf
  by_cases h1 : 1 ≤ w.length
  · by_cases h2 : w.length ≤ 2
    · by_cases h3 : (TL.tl w).all digB = true
      · rw [if_pos ⟨⟨h1, h2⟩, h3⟩]
        have i : PySem.intText? w = some ((NumText.digitsVal (TL.tl w) : Nat) : Int) := by
          have := SX.int_S (a := TL.tl w) h3 (fun z => by rw [TL.len_tl, z] at h1; simp at h1) (by rw [← TL.len_tl]; omega)
          rwa [SX.S_tl] at this
        have gi : gInt [.str w] st = some (.int ((NumText.digitsVal (TL.tl w) : Nat) : Int)) := by
          show (if w.length ≤ 640 then (PySem.intText? w).map D.int else none) = _
          rw [if_pos (by omega), i]
          rfl
        have i1 : (1 : Int) ≤ (w.length : Int) := by omega
        have i2 : (w.length : Int) ≤ 2 := by omega
        simp only [List.map_map] at c al
        simp [m_length_of, b_length_of, gl, i1, i2, c, al, h3, gi, -e_comp, -e_all]
      · rw [if_neg fun z => h3 z.2]
        have h3' : (TL.tl w).all digB = false := by simpa using h3
        have i1 : (1 : Int) ≤ (w.length : Int) := by omega
        have i2 : (w.length : Int) ≤ 2 := by omega
        rw [h3'] at al
        simp only [List.map_map] at c al
        simp [m_length_of, b_length_of, gl, i1, i2, c, al, -e_comp, -e_all]
    · rw [if_neg fun z => h2 z.1.2]
      have i1 : (1 : Int) ≤ (w.length : Int) := by omega
      have i2 : ¬ (w.length : Int) ≤ 2 := by omega
      simp [m_length_of, b_length_of, gl, i1, i2]
  · rw [if_neg fun z => h1 z.1.1]
    have i1 : ¬ (1 : Int) ≤ (w.length : Int) := by omega
    simp [m_length_of, b_length_of, gl, i1]
theorem found_c (x : Str) (hx : x.length ≤ 900) (st : Sto) : fComp (fSrc (fM1 gSplit (fVar 0) (fC (.str "-")))) (.nm 2) fYes (fCall m_length_of (fCons (fVar 2) fNil)) [2] [some (.str x), none, none] st = .ok (.lst ((fnd x).map D.int)) st := by
  obtain ⟨l1, l2⟩ := wrds_len x
  have hx2 : x.length ≤ 100000 := by omega
  have d1 : ¬ ("-" : Str).length = 0 := by decide
  rw [comp_fix (ds := (wrds x).map D.str) (st1 := st) (by simp [hx2, d1, wrds])]
  rw [compF_map D.str (fun w => D.int (lenOf w))]
  · simp only [e_lst1, List.nil_append, fnd, List.map_map]
    rfl
  · simp
    omega
  · intro w hw
    refine ⟨_, rfl, rfl, ?_⟩
    have := l2 w hw
    simp [length_of_ok w (by omega)]
theorem parse_good {x : Str} (hx : x.length ≤ 900) {a b c d : Int} (hf : fnd x = [a, b, c, d]) (ho : okR a b c d) (hr : rtx [a, b, c, d] = x) (st : Sto) : m_parse_ring [.str x] st = .ok (T [a, b, c, d]) st := by
  have h := found_c x hx st
  rw [hf] at h
  have r := ring_text_ok (small_ok ho) (by simp) st
  rw [hr] at r
  have i := is_ring_ok a b c d st
  rw [decide_eq_true ho] at i
  simp [m_parse_ring, b_parse_ring, b_parse_ring_1, b_parse_ring_2, b_parse_ring_3, h, -e_comp, r, i]
theorem parse_bad {x : Str} (hx : x.length ≤ 900) (hb : ¬ ∃ a b c d, fnd x = [a, b, c, d] ∧ okR a b c d ∧ rtx [a, b, c, d] = x) (st : Sto) : m_parse_ring [.str x] st = .exc "InvalidText" st := by
  have h := found_c x hx st
  have i := is_ring_l (fnd x) st
  have h' : gTuple [.lst ((fnd x).map D.int)] st = some (T (fnd x)) := (rfl)
  by_cases hk : okB (fnd x) = true
  · obtain ⟨a, b, c, d, e, ho⟩ := okB_iff.mp hk
    rw [hk] at i
    rw [e] at h h' i
    have hr : ¬ rtx [a, b, c, d] = x := fun z => hb ⟨a, b, c, d, e, ho, z⟩
    have r := ring_text_ok (small_ok ho) (by simp) st
    simp [m_parse_ring, b_parse_ring, b_parse_ring_1, b_parse_ring_2, h, -e_comp, r, i, hr]
  · have hk' : okB (fnd x) = false := by simpa using hk
    rw [hk'] at i
    simp only [T] at h' i
    simp [m_parse_ring, b_parse_ring, b_parse_ring_1, b_parse_ring_2, h, -e_comp, i, -fold1, -fold2, -fold3, -fold4]
theorem parse_no {d : D} {t : String} {st : Sto} (h : tyName st d = some t) (hk : L2.kitB t "str" = some false) : m_parse_ring [d] st = .exc "InvalidText" st := by
  simp [m_parse_ring, b_parse_ring, h, hk]
theorem fnd_rtx {a b c d : Int} (h : okR a b c d) : fnd (rtx [a, b, c, d]) = [a, b, c, d] := by
  have h' := h
  unfold okR at h'
  unfold fnd
  rw [wrds_rtx (fun n hn => (small_ok h n hn).1) (by simp)]
  simp only [List.map_cons, List.map_nil]
  rw [lenOf_txt (by omega), lenOf_txt (by omega), lenOf_txt (by omega), lenOf_txt (by omega)]
theorem rtx_len {a b c d : Int} (h : okR a b c d) : (rtx [a, b, c, d]).length ≤ 20 := by
  have s := sum_le3 (small_ok h)
  have e3 := joinL_len (([a, b, c, d].map txt).map TL.tl) (by simp)
  have e2 : (rtx [a, b, c, d]).length = (TL.joinL [45] (([a, b, c, d].map txt).map TL.tl)).length := by
    rw [TL.len_tl]
    unfold rtx
    rw [TL.join_eq, TL.tl_join, dash_tl]
  have e4 : (([a, b, c, d].map txt).map TL.tl).map (·.length) = ([a, b, c, d].map txt).map (·.length) := by
    rw [List.map_map]
    exact List.map_congr_left fun w _ => (TL.len_tl w).symm
  rw [e4] at e3
  simp only [List.length_map, List.length_cons, List.length_nil] at e3 s
  omega
theorem parse_rtx {a b c d : Int} (h : okR a b c d) (st : Sto) : m_parse_ring [.str (rtx [a, b, c, d])] st = .ok (T [a, b, c, d]) st :=
  parse_good (by have := rtx_len h; omega) (fnd_rtx h) h rfl st
end Fb

/-! benches -/
namespace Fb
open PySem
/-! operations and benches as plain data -/
inductive Op where
  | ch (b l : Int) | ex (b : Int)
deriving DecidableEq
def Op.d : Op → D
  | .ch b l => .tup [.str "change", .int b, .int l]
  | .ex b => .tup [.str "exchange", .int b]
def Op.nm : Op → Str
  | .ch _ _ => "change"
  | .ex _ => "exchange"
def Op.py : Op → PyData
  | .ch b l => .tuple [.str "change", .int b, .int l]
  | .ex b => .tuple [.str "exchange", .int b]
instance : Dd Op where
  toD := Op.py
  plain o := by cases o <;> rfl
  eqv o p := by
    have n1 : (("change" : Str) == "exchange") = false := by decide
    have n2 : (("exchange" : Str) == "change") = false := by decide
    cases o <;> cases p <;> simp only [Op.py, PyData.eqv, PyData.eqvAll, n1, n2] <;> rw [Bool.eq_iff_iff] <;> simp
  depth := 1
  depth_le o := by cases o <;> simp [Op.py, PyData.depth, PyData.depthAll]
  d := Op.d
  py o := by cases o <;> rfl
@[simp] theorem nm_ne1 : ((Str.ofString "exchange") = (Str.ofString "change")) = False := eq_false (by decide)
@[simp] theorem nm_ne2 : ((Str.ofString "change") = (Str.ofString "exchange")) = False := eq_false (by decide)
structure Bn where
  begun : List Int
  cur : List Int
  earlier : List (List Int)
  done : List Op
  undone : List (Op × List Int)
def uD (p : Op × List Int) : D := .tup [p.1.d, T p.2]
def flds (b c : D) (e d u : Nat) : List (Str × D) := [("begun", b), ("current", c), ("earlier", .ref e), ("done", .ref d), ("undone", .ref u)]
abbrev insB (b c : D) (e d u : Nat) : Cell := .ins "Bench" (flds b c e d u)
section
variable {b c x : D} {e d u n : Nat}
@[simp] theorem fl_b : (flds b c e d u).lookup ("begun" : Str) = some b := (by kernel_rfl)
@[simp] theorem fl_c : (flds b c e d u).lookup ("current" : Str) = some c := (by kernel_rfl)
@[simp] theorem fl_e : (flds b c e d u).lookup ("earlier" : Str) = some (.ref e) := (by kernel_rfl)
@[simp] theorem fl_d : (flds b c e d u).lookup ("done" : Str) = some (.ref d) := (by kernel_rfl)
@[simp] theorem fl_u : (flds b c e d u).lookup ("undone" : Str) = some (.ref u) := (by kernel_rfl)
@[simp] theorem fl_m1 : (flds b c e d u).lookup ("perform" : Str) = none := (by kernel_rfl)
@[simp] theorem fl_m2 : (flds b c e d u).lookup ("change" : Str) = none := (by kernel_rfl)
@[simp] theorem fl_m3 : (flds b c e d u).lookup ("exchange" : Str) = none := (by kernel_rfl)
@[simp] theorem fl_m4 : (flds b c e d u).lookup ("undo" : Str) = none := (by kernel_rfl)
@[simp] theorem fl_m5 : (flds b c e d u).lookup ("redo" : Str) = none := (by kernel_rfl)
@[simp] theorem fl_m6 : (flds b c e d u).lookup ("ring" : Str) = none := (by kernel_rfl)
@[simp] theorem fl_len : (flds b c e d u).length = 5 := (rfl)
@[simp] theorem fl_pc : putG "current" x (flds b c e d u) = flds b x e d u := (by kernel_rfl)
@[simp] theorem fl_pu : putG "undone" (.ref n) (flds b c e d u) = flds b c e d n := (by kernel_rfl)
@[simp] theorem fl_i1 : putG "begun" b [] = ([("begun", b)] : List (Str × D)) := (by kernel_rfl)
@[simp] theorem fl_i2 : putG "current" c ([("begun", b)] : List (Str × D)) = ([("begun", b), ("current", c)] : List (Str × D)) := (by kernel_rfl)
@[simp] theorem fl_i3 : putG "earlier" (.ref e) ([("begun", b), ("current", c)] : List (Str × D)) = ([("begun", b), ("current", c), ("earlier", .ref e)] : List (Str × D)) := (by kernel_rfl)
@[simp] theorem fl_i4 : putG "done" (.ref d) ([("begun", b), ("current", c), ("earlier", .ref e)] : List (Str × D)) = ([("begun", b), ("current", c), ("earlier", .ref e), ("done", .ref d)] : List (Str × D)) := (by kernel_rfl)
@[simp] theorem fl_i5 : putG "undone" (.ref u) ([("begun", b), ("current", c), ("earlier", .ref e), ("done", .ref d)] : List (Str × D)) = flds b c e d u := (by kernel_rfl)
end
structure BenchAt (S : Sto) (k e d u : Nat) (B : Bn) : Prop where
  qi : S[k]? = some (insB (T B.begun) (T B.cur) e d u)
  qe : S[e]? = some (.lst (B.earlier.map T))
  qd : S[d]? = some (.lst (B.done.map Op.d))
  qu : S[u]? = some (.lst (B.undone.map uD))
  n1 : e ≠ d
  n2 : e ≠ u
  n3 : d ≠ u
/-- but for the cells F, the store stands -/
structure Fr (S S' : Sto) (F : List Nat) : Prop where
  len : S.length ≤ S'.length
  get : ∀ j, j < S.length → j ∉ F → S'[j]? = S[j]?
theorem Fr.refl (S : Sto) (F : List Nat) : Fr S S F := ⟨Nat.le_refl _, fun _ _ _ => rfl⟩
theorem Fr.app (S L : Sto) (F : List Nat) : Fr S (S ++ L) F := ⟨by simp, fun j h _ => List.getElem?_append_left h⟩
theorem Fr.at {S S' : Sto} {F : List Nat} {j : Nat} {c : Cell} (f : Fr S S' F) (h : S[j]? = some c) (hj : j ∉ F) : S'[j]? = some c := by
  rw [f.get j (List.getElem?_eq_some_iff.mp h).1 hj, h]
theorem at_app0' {S : Sto} {L : Sto} : (S ++ L)[S.length]? = L[0]? := by
  rw [List.getElem?_append_right (Nat.le_refl _), Nat.sub_self]
theorem at_appj {S : Sto} {L : Sto} {j : Nat} : (S ++ L)[S.length + j]? = L[j]? := by
  rw [List.getElem?_append_right (by omega), Nat.add_sub_cancel_left]
theorem set_app0' {S : Sto} {L : Sto} {c : Cell} : (S ++ L).set S.length c = S ++ L.set 0 c := by
  rw [List.set_append_right _ _ (Nat.le_refl _), Nat.sub_self]
section
variable {S : Sto} {k e d u : Nat} {B : Bn}
theorem BenchAt.lt (h : BenchAt S k e d u B) : k < S.length ∧ e < S.length ∧ d < S.length ∧ u < S.length :=
  ⟨(List.getElem?_eq_some_iff.mp h.qi).1, (List.getElem?_eq_some_iff.mp h.qe).1, (List.getElem?_eq_some_iff.mp h.qd).1, (List.getElem?_eq_some_iff.mp h.qu).1⟩
theorem BenchAt.ne (h : BenchAt S k e d u B) : k ≠ e ∧ k ≠ d ∧ k ≠ u := by
  refine ⟨fun z => ?_, fun z => ?_, fun z => ?_⟩
  · have := h.qi; rw [z, h.qe] at this; cases this
  · have := h.qi; rw [z, h.qd] at this; cases this
  · have := h.qi; rw [z, h.qu] at this; cases this
theorem BenchAt.fr {S' : Sto} {F : List Nat} (h : BenchAt S k e d u B) (f : Fr S S' F) (hF : ∀ j ∈ [k, e, d, u], j ∉ F) : BenchAt S' k e d u B :=
  ⟨f.at h.qi (hF k (by simp)), f.at h.qe (hF e (by simp)), f.at h.qd (hF d (by simp)), f.at h.qu (hF u (by simp)), h.n1, h.n2, h.n3⟩
theorem BenchAt.ins (h : BenchAt S k e d u B) : insOf "Bench" (.ref k) S = some (k, flds (T B.begun) (T B.cur) e d u) := by
  rw [e_insOf, h.qi]
  exact if_pos rfl
theorem BenchAt.new (S : Sto) (r : List Int) : BenchAt (S ++ [insB (T r) (T r) (S.length + 1) (S.length + 2) (S.length + 3), .lst [], .lst [], .lst []]) S.length (S.length + 1) (S.length + 2) (S.length + 3) ⟨r, r, [], [], []⟩ :=
  ⟨at_app0', at_appj, at_appj, at_appj, by omega, by omega, by omega⟩
end
theorem Fr.trans {S S1 S2 : Sto} {F G : List Nat} (f : Fr S S1 F) (g : Fr S1 S2 G) (h : ∀ j, j < S.length → j ∉ F → j ∉ G) : Fr S S2 F := ⟨Nat.le_trans f.len g.len, fun j hj hF => by rw [g.get j (Nat.lt_of_lt_of_le hj f.len) (h j hj hF), f.get j hj hF]⟩
def Town (ns : List Int) (S : Sto) (t : Int) : Prop := ∃ r, S[0]? = some (Tw t r) ∧ r.length = ns.length
theorem Town.fr {ns : List Int} {S S' : Sto} {t : Int} {F : List Nat} (h : Town ns S t) (f : Fr S S' F) (h0 : 0 ∉ F) : Town ns S' t := by
  obtain ⟨r, h1, h2⟩ := h
  exact ⟨r, f.at h1 h0, h2⟩
theorem draw_at {ns : List Int} (hn : ns.length ≤ 63) {S : Sto} {t : Int} (h : Town ns S t) (h0 : 0 ≤ t) (hb : t < 1000000000) {m : Int} (hm : 0 < m) (hM : m < 1000000000) :
    ∃ x S', 0 ≤ x ∧ x < m ∧ m__law_draw [.lst (ns.map D.int), .ref 0, .int m] S = .ok (.int x) S' ∧ Town ns S' (t + 1) ∧ Fr S S' [0] := by
  obtain ⟨r, h1, h2⟩ := h
  cases S with
  | nil => simp at h1
  | cons c st =>
    simp at h1
    subst h1
    obtain ⟨x, r', a1, a2, a3, a4⟩ := draw_ok ns t r st m h0 hb h2 hn hm hM
    refine ⟨x, _, a1, a2, a4, ⟨r', rfl, a3⟩, by simp, fun j hj hF => ?_⟩
    cases j with
    | zero => simp at hF
    | succ j => rfl
theorem init_ok {R : D} (hr : ∀ st, m_check_ring [R] st = .ok .non st) (S : Sto) : m_Bench___init__ [.ref S.length, R] (S ++ [.ins "Bench" []]) = .ok .non (S ++ [insB R R (S.length + 1) (S.length + 2) (S.length + 3), .lst [], .lst [], .lst []]) := by
  simp [m_Bench___init__, b_Bench___init__, b_Bench___init___1, b_Bench___init___2, b_Bench___init___3, b_Bench___init___4, b_Bench___init___5, hr, at_app0', set_app0']
theorem init_bad {R : D} (hr : ∀ st, m_check_ring [R] st = .exc "InvalidRing" st) (S : Sto) (k : Nat) : m_Bench___init__ [.ref k, R] S = .exc "InvalidRing" S := by
  simp [m_Bench___init__, b_Bench___init__, hr]
theorem perform_ok {S : Sto} {k e d u : Nat} {B : Bn} (h : BenchAt S k e d u B) (l : List Int) (o : Op) (hE : B.earlier.length < 1000) (hD : B.done.length < 1000) :
    ∃ S', m_Bench_perform [.ref k, T l, o.d] S = .ok .non S' ∧ BenchAt S' k e d S.length ⟨B.begun, l, B.earlier ++ [B.cur], B.done ++ [o], []⟩ ∧ Fr S S' [k, e, d, u] := by
  obtain ⟨l1, l2, l3, l4⟩ := h.lt
  obtain ⟨m1, m2, m3⟩ := h.ne
  have n1 := h.n1
  have n2 := h.n2
  have n3 := h.n3
  have q1 := h.qi
  have q2 := h.qe
  have q3 := h.qd
  have hE' : B.earlier.length < 100000 := by omega
  have hD' : B.done.length < 100000 := by omega
  obtain ⟨S1, e1⟩ : ∃ S1, S1 = S.set e (.lst ((B.earlier ++ [B.cur]).map T)) := ⟨_, rfl⟩
  obtain ⟨S2, e2⟩ : ∃ S2, S2 = S1.set k (insB (T B.begun) (T l) e d u) := ⟨_, rfl⟩
  obtain ⟨S3, e3⟩ : ∃ S3, S3 = S2.set d (.lst ((B.done ++ [o]).map Op.d)) := ⟨_, rfl⟩
  obtain ⟨S4, e4⟩ : ∃ S4, S4 = (S3 ++ [Cell.lst []]).set k (insB (T B.begun) (T l) e d S3.length) := ⟨_, rfl⟩
  have g1 : S1[k]? = some (insB (T B.begun) (T B.cur) e d u) := by rw [e1, List.getElem?_set_ne (Ne.symm m1), q1]
  have g2 : S2[k]? = some (insB (T B.begun) (T l) e d u) := by rw [e2, List.getElem?_set_self (by rw [e1]; simpa using l1)]
  have g3 : S2[d]? = some (.lst (B.done.map Op.d)) := by rw [e2, List.getElem?_set_ne m2, e1, List.getElem?_set_ne n1, q3]
  have g4 : S3[k]? = some (insB (T B.begun) (T l) e d u) := by rw [e3, List.getElem?_set_ne (Ne.symm m2), g2]
  have len3 : S3.length = S.length := by rw [e3, e2, e1]; simp
  have g5 : (S3 ++ [Cell.lst []])[k]? = some (insB (T B.begun) (T l) e d u) := by rw [List.getElem?_append_left (by omega), g4]
  simp only [List.map_append, List.map_cons, List.map_nil] at e1 e3
  refine ⟨S4, ?_, ?_, ?_⟩
  · simp [m_Bench_perform, b_Bench_perform, b_Bench_perform_1, b_Bench_perform_2, b_Bench_perform_3, q1, q2, hE', hD', ← e1, g1, ← e2, g2, g3, ← e3, g5, ← e4]
  · rw [← List.map_singleton, ← List.map_append] at e1 e3
    refine ⟨?_, ?_, ?_, ?_, n1, ?_, ?_⟩
    · rw [e4, List.getElem?_set_self (by simp; omega), len3]
    · rw [e4, List.getElem?_set_ne m1, List.getElem?_append_left (by omega), e3, List.getElem?_set_ne (Ne.symm n1), e2, List.getElem?_set_ne m1, e1, List.getElem?_set_self l2]
    · rw [e4, List.getElem?_set_ne m2, List.getElem?_append_left (by omega), e3, List.getElem?_set_self (by rw [e2, e1]; simpa using l3)]
    · rw [e4, List.getElem?_set_ne (by omega), ← len3, at_app0']
      rfl
    · omega
    · omega
  · refine ⟨by rw [e4]; simp; omega, fun j hj hF => ?_⟩
    simp only [List.mem_cons, List.not_mem_nil, or_false, not_or] at hF
    rw [e4, List.getElem?_set_ne (Ne.symm hF.1), List.getElem?_append_left (by omega), e3, List.getElem?_set_ne (Ne.symm hF.2.2.1), e2, List.getElem?_set_ne (Ne.symm hF.1), e1, List.getElem?_set_ne (Ne.symm hF.2.1)]
/-! rings as lists -/
def clB (l : List Int) : Bool := match l with
  | [a, b, c, d] => decide (a < b + c + d ∧ b < a + c + d ∧ c < a + b + d ∧ d < a + b + c)
  | _ => false
def okL (l : List Int) : Prop := ∃ a b c d, l = [a, b, c, d] ∧ okR a b c d
theorem four {l : List Int} (h : l.length = 4) : ∃ a b c d, l = [a, b, c, d] := by
  match l, h with
  | [a, b, c, d], _ => exact ⟨a, b, c, d, rfl⟩
theorem okL.len {l : List Int} (h : okL l) : l.length = 4 := by
  obtain ⟨a, b, c, d, rfl, _⟩ := h
  rfl
theorem close_l {l : List Int} (hl : l.length = 4) (st : Sto) : m_does_close [T l] st = .ok (.bl (clB l)) st := by
  obtain ⟨a, b, c, d, rfl⟩ := four hl
  exact does_close_ok a b c d st
theorem kindof_l {l : List Int} (hl : l.length = 4) (st : Sto) : m_kind_of [T l] st = .ok (.str (kindR l)) st := by
  obtain ⟨a, b, c, d, rfl⟩ := four hl
  exact kind_of_ok a b c d st
theorem with_l {l : List Int} (hl : l.length = 4) {p : Int} (hp : 0 ≤ p ∧ p ≤ 3) (v : Int) (st : Sto) : m_with_length [T l, .int p, .int v] st = .ok (T (l.set p.toNat v)) st := by
  obtain ⟨a, b, c, d, rfl⟩ := four hl
  have h4 : p = 0 ∨ p = 1 ∨ p = 2 ∨ p = 3 := by omega
  rcases h4 with rfl | rfl | rfl | rfl
  · exact with0 a b c d v st
  · exact with1 a b c d v st
  · exact with2 a b c d v st
  · exact with3 a b c d v st
theorem ckring_l {l : List Int} (h : okL l) (st : Sto) : m_check_ring [T l] st = .ok .non st := by
  obtain ⟨a, b, c, d, rfl, o⟩ := h
  exact check_ring_ok o st
theorem lclose_l {l : List Int} (hl : l.length = 4) (st : Sto) : m__law_closes [T l] st = .ok (.bl (clB l)) st := by
  obtain ⟨a, b, c, d, rfl⟩ := four hl
  exact closes_ok a b c d st
theorem change_ok {S : Sto} {k e d u : Nat} {B : Bn} (h : BenchAt S k e d u B) {p v : Int} (hp : 0 ≤ p ∧ p ≤ 3) (hv : 1 ≤ v ∧ v ≤ 50) (hl : B.cur.length = 4)
    (hc : clB (B.cur.set p.toNat v) = true) (hE : B.earlier.length < 1000) (hD : B.done.length < 1000) :
    ∃ S', m_Bench_change [.ref k, .int p, .int v] S = .ok (.str (kindR (B.cur.set p.toNat v))) S' ∧ BenchAt S' k e d S.length ⟨B.begun, B.cur.set p.toNat v, B.earlier ++ [B.cur], B.done ++ [.ch p v], []⟩ ∧ Fr S S' [k, e, d, u] := by
  obtain ⟨S', a1, a2, a3⟩ := perform_ok h (B.cur.set p.toNat v) (.ch p v) hE hD
  refine ⟨S', ?_, a2, a3⟩
  have q1 := h.qi
  have l2 : (B.cur.set p.toNat v).length = 4 := by rw [List.length_set, hl]
  have c1 : ∀ st, m_does_close [T (B.cur.set p.toNat v)] st = .ok (.bl true) st := fun st => by rw [close_l l2, hc]
  have c2 : ∀ st, m_is_between [.int v, .int 1, .int 50] st = .ok (.bl true) st := fun st => by rw [is_between_ok, decide_eq_true hv]
  have a1' : m_Bench_perform [.ref k, T (B.cur.set p.toNat v), .tup [.str "change", .int p, .int v]] S = .ok .non S' := a1
  simp [m_Bench_change, b_Bench_change, b_Bench_change_1, b_Bench_change_2, b_Bench_change_3, b_Bench_change_4, b_Bench_change_5, check_number_ok hp, c2, q1, with_l hl hp, c1, a1', kindof_l l2]
theorem change_noring {S : Sto} {k e d u : Nat} {B : Bn} (h : BenchAt S k e d u B) {p v : Int} (hp : 0 ≤ p ∧ p ≤ 3) (hv : 1 ≤ v ∧ v ≤ 50) (hl : B.cur.length = 4)
    (hc : clB (B.cur.set p.toNat v) = false) : m_Bench_change [.ref k, .int p, .int v] S = .exc "NoRing" S := by
  have q1 := h.qi
  have l2 : (B.cur.set p.toNat v).length = 4 := by rw [List.length_set, hl]
  have c1 : ∀ st, m_does_close [T (B.cur.set p.toNat v)] st = .ok (.bl false) st := fun st => by rw [close_l l2, hc]
  have c2 : ∀ st, m_is_between [.int v, .int 1, .int 50] st = .ok (.bl true) st := fun st => by rw [is_between_ok, decide_eq_true hv]
  simp [m_Bench_change, b_Bench_change, b_Bench_change_1, b_Bench_change_2, b_Bench_change_3, check_number_ok hp, c2, q1, with_l hl hp, c1]
theorem change_bad1 {S : Sto} {R n v : D} {x : Str} (hn : ∀ st, m_check_number [n, .int 0, .int 3] st = .exc x st) : m_Bench_change [R, n, v] S = .exc x S := by
  simp [m_Bench_change, b_Bench_change, hn]
theorem change_bad2 {S : Sto} {R v : D} {p : Int} (hp : 0 ≤ p ∧ p ≤ 3) (hn : ∀ st, m_is_between [v, .int 1, .int 50] st = .ok (.bl false) st) : m_Bench_change [R, .int p, v] S = .exc "InvalidLength" S := by
  simp [m_Bench_change, b_Bench_change, b_Bench_change_1, check_number_ok hp, hn]
def swp (p : Int) (l : List Int) : List Int := match l with
  | [a, b, c, d] => if p = 0 then [b, a, c, d] else if p = 1 then [a, c, b, d] else if p = 2 then [a, b, d, c] else [d, b, c, a]
  | _ => l
theorem exchange_ok {S : Sto} {k e d u : Nat} {B : Bn} (h : BenchAt S k e d u B) {p : Int} (hp : 0 ≤ p ∧ p ≤ 3) (hl : B.cur.length = 4) (hE : B.earlier.length < 1000) (hD : B.done.length < 1000) :
    ∃ S', m_Bench_exchange [.ref k, .int p] S = .ok (T (swp p B.cur)) S' ∧ BenchAt S' k e d S.length ⟨B.begun, swp p B.cur, B.earlier ++ [B.cur], B.done ++ [.ex p], []⟩ ∧ Fr S S' [k, e, d, u] := by
  obtain ⟨S', a1, a2, a3⟩ := perform_ok h (swp p B.cur) (.ex p) hE hD
  refine ⟨S', ?_, a2, a3⟩
  have q1 := h.qi
  have a1' : m_Bench_perform [.ref k, T (swp p B.cur), .tup [.str "exchange", .int p]] S = .ok .non S' := a1
  obtain ⟨x, y, z, w, ec⟩ : ∃ x y z w, B.cur = [x, y, z, w] := by
    match hh : B.cur, hl with
    | [x, y, z, w], _ => exact ⟨x, y, z, w, rfl⟩
  rw [ec] at q1 a1' ⊢
  have h4 : p = 0 ∨ p = 1 ∨ p = 2 ∨ p = 3 := by omega
  rcases h4 with rfl | rfl | rfl | rfl
  all_goals
    simp [swp] at a1'
    simp [m_Bench_exchange, b_Bench_exchange, b_Bench_exchange_1, b_Bench_exchange_2, b_Bench_exchange_3, b_Bench_exchange_4, check_number_ok, q1, with0, with1, with2, with3, swp, a1']
theorem exchange_bad {S : Sto} {R n : D} {x : Str} (hn : ∀ st, m_check_number [n, .int 0, .int 3] st = .exc x st) : m_Bench_exchange [R, n] S = .exc x S := by
  simp [m_Bench_exchange, b_Bench_exchange, hn]
theorem ring_ok' {S : Sto} {k e d u : Nat} {B : Bn} (h : BenchAt S k e d u B) : m_Bench_ring [.ref k] S = .ok (T B.cur) S := by
  have q1 := h.qi
  simp [m_Bench_ring, b_Bench_ring, q1]
theorem eq_ops0 {st : Sto} {l : List Op} : gEq (.lst (l.map Op.d)) (.lst []) st = some (.bl (decide (l = []))) := gEq_d l ([] : List Op) st
theorem eq_ops {st : Sto} {l m : List Op} : gEq (.lst (l.map Op.d)) (.lst (m.map Op.d)) st = some (.bl (decide (l = m))) := gEq_d l m st
theorem eq_uns0 {st : Sto} {l : List (Op × List Int)} : gEq (.lst (l.map uD)) (.lst []) st = some (.bl (decide (l = []))) := by
  have h := gEq_d (l.map fun p => (p.1, PySem.W.Tup.mk p.2)) ([] : List (Op × PySem.W.Tup Int)) st
  have e1 : l.map uD = (l.map fun p => (p.1, PySem.W.Tup.mk p.2)).map Dd.d := by
    rw [List.map_map]
    rfl
  rw [e1]
  refine h.trans ?_
  congr 2
  exact decide_eq_decide.mpr (by simp)
theorem gEq_at' {st : Sto} {k : Nat} {ds : List D} {d : D} (h : st[k]? = some (.lst ds)) : gEq (.ref k) d st = gEq (.lst ds) d st := by
  unfold gEq
  have : pyOf st (.ref k) = pyOf st (.lst ds) := by
    unfold pyOf drf
    simp only [h]
  rw [this]
theorem undo_none {S : Sto} {k e d u : Nat} {B : Bn} (h : BenchAt S k e d u B) (hd : B.done = []) : m_Bench_undo [.ref k] S = .exc "NothingToUndo" S := by
  have q1 := h.qi
  have q3 : gEq (.ref d) (.lst []) S = some (.bl true) := by rw [gEq_at' h.qd, eq_ops0, hd]; rfl
  simp [m_Bench_undo, b_Bench_undo, q1, q3]
theorem undo_ok {S : Sto} {k e d u : Nat} {B : Bn} (h : BenchAt S k e d u B) {o : Op} {ds : List Op} {l : List Int} {ls : List (List Int)} (hd : B.done = ds ++ [o]) (he : B.earlier = ls ++ [l]) (hU : B.undone.length < 1000) :
    ∃ S', m_Bench_undo [.ref k] S = .ok (.str o.nm) S' ∧ BenchAt S' k e d u ⟨B.begun, l, ls, ds, B.undone ++ [(o, B.cur)]⟩ ∧ Fr S S' [k, e, d, u] := by
  obtain ⟨l1, l2, l3, l4⟩ := h.lt
  obtain ⟨m1, m2, m3⟩ := h.ne
  have n1 := h.n1
  have n2 := h.n2
  have n3 := h.n3
  have q1 := h.qi
  have q2 := h.qe
  have q3 := h.qd
  have q4 := h.qu
  rw [hd] at q3
  rw [he] at q2
  have hU' : B.undone.length < 100000 := by omega
  have ne : gEq (.ref d) (.lst []) S = some (.bl false) := by rw [gEq_at' h.qd, eq_ops0, hd]; simp
  obtain ⟨S1, e1⟩ : ∃ S1, S1 = S.set d (.lst (ds.map Op.d)) := ⟨_, rfl⟩
  obtain ⟨S2, e2⟩ : ∃ S2, S2 = S1.set u (.lst ((B.undone ++ [(o, B.cur)]).map uD)) := ⟨_, rfl⟩
  obtain ⟨S3, e3⟩ : ∃ S3, S3 = S2.set e (.lst (ls.map T)) := ⟨_, rfl⟩
  obtain ⟨S4, e4⟩ : ∃ S4, S4 = S3.set k (insB (T B.begun) (T l) e d u) := ⟨_, rfl⟩
  have g1 : S1[k]? = some (insB (T B.begun) (T B.cur) e d u) := by rw [e1, List.getElem?_set_ne (Ne.symm m2), q1]
  have g2 : S1[u]? = some (.lst (B.undone.map uD)) := by rw [e1, List.getElem?_set_ne n3, q4]
  have g3 : S2[k]? = some (insB (T B.begun) (T B.cur) e d u) := by rw [e2, List.getElem?_set_ne (Ne.symm m3), g1]
  have g4 : S2[e]? = some (.lst ((ls ++ [l]).map T)) := by rw [e2, List.getElem?_set_ne (Ne.symm n2), e1, List.getElem?_set_ne (Ne.symm n1), q2]
  have g5 : S3[k]? = some (insB (T B.begun) (T B.cur) e d u) := by rw [e3, List.getElem?_set_ne (Ne.symm m1), g3]
  refine ⟨S4, ?_, ?_, ?_⟩
  · simp only [List.map_append, List.map_cons, List.map_nil] at e2 q3 g4
    simp only [uD] at e2
    have at0 : ∀ st, gIx o.d (.int 0) st = some (.str o.nm) := fun st => by cases o <;> simp [Op.d, Op.nm]
    simp [m_Bench_undo, b_Bench_undo, b_Bench_undo_1, b_Bench_undo_2, b_Bench_undo_3, b_Bench_undo_4, q1, ne, q3, ← e1, g1, g2, hU', ← e2, g3, g4, ← e3, g5, ← e4, at0, -e_ix]
  · refine ⟨?_, ?_, ?_, ?_, n1, n2, n3⟩
    · rw [e4, List.getElem?_set_self (by rw [e3, e2, e1]; simpa using l1)]
    · rw [e4, List.getElem?_set_ne m1, e3, List.getElem?_set_self (by rw [e2, e1]; simpa using l2)]
    · rw [e4, List.getElem?_set_ne m2, e3, List.getElem?_set_ne n1, e2, List.getElem?_set_ne (Ne.symm n3), e1, List.getElem?_set_self l3]
    · rw [e4, List.getElem?_set_ne m3, e3, List.getElem?_set_ne n2, e2, List.getElem?_set_self (by rw [e1]; simpa using l4)]
  · refine ⟨by rw [e4, e3, e2, e1]; simp, fun j hj hF => ?_⟩
    simp only [List.mem_cons, List.not_mem_nil, or_false, not_or] at hF
    rw [e4, List.getElem?_set_ne (Ne.symm hF.1), e3, List.getElem?_set_ne (Ne.symm hF.2.1), e2, List.getElem?_set_ne (Ne.symm hF.2.2.2), e1, List.getElem?_set_ne (Ne.symm hF.2.2.1)]
theorem redo_none {S : Sto} {k e d u : Nat} {B : Bn} (h : BenchAt S k e d u B) (hd : B.undone = []) : m_Bench_redo [.ref k] S = .exc "NothingToUndo" S := by
  have q1 := h.qi
  have q3 : gEq (.ref u) (.lst []) S = some (.bl true) := by rw [gEq_at' h.qu, eq_uns0, hd]; rfl
  simp [m_Bench_redo, b_Bench_redo, q1, q3]
theorem redo_ok {S : Sto} {k e d u : Nat} {B : Bn} (h : BenchAt S k e d u B) {o : Op} {l : List Int} {us : List (Op × List Int)} (hu : B.undone = us ++ [(o, l)]) (hE : B.earlier.length < 1000) (hD : B.done.length < 1000) :
    ∃ S', m_Bench_redo [.ref k] S = .ok (.str o.nm) S' ∧ BenchAt S' k e d u ⟨B.begun, l, B.earlier ++ [B.cur], B.done ++ [o], us⟩ ∧ Fr S S' [k, e, d, u] := by
  obtain ⟨l1, l2, l3, l4⟩ := h.lt
  obtain ⟨m1, m2, m3⟩ := h.ne
  have n1 := h.n1
  have n2 := h.n2
  have n3 := h.n3
  have q1 := h.qi
  have q2 := h.qe
  have q3 := h.qd
  have q4 := h.qu
  rw [hu] at q4
  have hE' : B.earlier.length < 100000 := by omega
  have hD' : B.done.length < 100000 := by omega
  have ne : gEq (.ref u) (.lst []) S = some (.bl false) := by rw [gEq_at' h.qu, eq_uns0, hu]; simp
  obtain ⟨S1, e1⟩ : ∃ S1, S1 = S.set u (.lst (us.map uD)) := ⟨_, rfl⟩
  obtain ⟨S2, e2⟩ : ∃ S2, S2 = S1.set e (.lst ((B.earlier ++ [B.cur]).map T)) := ⟨_, rfl⟩
  obtain ⟨S3, e3⟩ : ∃ S3, S3 = S2.set k (insB (T B.begun) (T l) e d u) := ⟨_, rfl⟩
  obtain ⟨S4, e4⟩ : ∃ S4, S4 = S3.set d (.lst ((B.done ++ [o]).map Op.d)) := ⟨_, rfl⟩
  have g1 : S1[k]? = some (insB (T B.begun) (T B.cur) e d u) := by rw [e1, List.getElem?_set_ne (Ne.symm m3), q1]
  have g2 : S1[e]? = some (.lst (B.earlier.map T)) := by rw [e1, List.getElem?_set_ne (Ne.symm n2), q2]
  have g3 : S2[k]? = some (insB (T B.begun) (T B.cur) e d u) := by rw [e2, List.getElem?_set_ne (Ne.symm m1), g1]
  have g4 : S3[k]? = some (insB (T B.begun) (T l) e d u) := by rw [e3, List.getElem?_set_self (by rw [e2, e1]; simpa using l1)]
  have g5 : S3[d]? = some (.lst (B.done.map Op.d)) := by rw [e3, List.getElem?_set_ne m2, e2, List.getElem?_set_ne n1, e1, List.getElem?_set_ne (Ne.symm n3), q3]
  refine ⟨S4, ?_, ?_, ?_⟩
  · simp only [List.map_append, List.map_cons, List.map_nil] at e2 e4 q4
    have at0 : ∀ st, gIx o.d (.int 0) st = some (.str o.nm) := fun st => by cases o <;> simp [Op.d, Op.nm]
    have uo : uD (o, l) = .tup [o.d, T l] := rfl
    rw [uo] at q4
    simp [m_Bench_redo, b_Bench_redo, b_Bench_redo_1, b_Bench_redo_2, b_Bench_redo_3, b_Bench_redo_4, b_Bench_redo_5, q1, ne, q4, ← e1, g1, g2, hE', hD', ← e2, g3, ← e3, g4, g5, ← e4, at0, -e_ix]
  · refine ⟨?_, ?_, ?_, ?_, n1, n2, n3⟩
    · rw [e4, List.getElem?_set_ne (Ne.symm m2), g4]
    · rw [e4, List.getElem?_set_ne (Ne.symm n1), e3, List.getElem?_set_ne m1, e2, List.getElem?_set_self (by rw [e1]; simpa using l2)]
    · rw [e4, List.getElem?_set_self (by rw [e3, e2, e1]; simpa using l3)]
    · rw [e4, List.getElem?_set_ne n3, e3, List.getElem?_set_ne m3, e2, List.getElem?_set_ne n2, e1, List.getElem?_set_self l4]
  · refine ⟨by rw [e4, e3, e2, e1]; simp, fun j hj hF => ?_⟩
    simp only [List.mem_cons, List.not_mem_nil, or_false, not_or] at hF
    rw [e4, List.getElem?_set_ne (Ne.symm hF.2.2.1), e3, List.getElem?_set_ne (Ne.symm hF.1), e2, List.getElem?_set_ne (Ne.symm hF.2.1), e1, List.getElem?_set_ne (Ne.symm hF.2.2.2)]
theorem beq_ok {S : Sto} {k e d u k' e' d' u' : Nat} {B C : Bn} (h : BenchAt S k e d u B) (h' : BenchAt S k' e' d' u' C) : m_Bench___eq__ [.ref k, .ref k'] S = .ok (.bl (decide (B.begun = C.begun ∧ B.done = C.done))) S := by
  have q1 := h.qi
  have q2 := h'.qi
  have q3 : gEq (.ref d) (.ref d') S = some (.bl (decide (B.done = C.done))) := by
    rw [gEq_at' h.qd]
    have : gEq (.lst (B.done.map Op.d)) (.ref d') S = gEq (.lst (B.done.map Op.d)) (.lst (C.done.map Op.d)) S := by
      unfold gEq
      have : pyOf S (.ref d') = pyOf S (.lst (C.done.map Op.d)) := by
        unfold pyOf drf
        simp only [h'.qd]
      rw [this]
    rw [this, eq_ops]
  by_cases hb : B.begun = C.begun <;> by_cases hd : B.done = C.done <;> simp [m_Bench___eq__, b_Bench___eq__, q1, q2, q3, hb, hd]
theorem kindR_le (l : List Int) : (kindR l).length ≤ 5 := by
  unfold kindR
  split
  · split
    · decide
    · split <;> decide
  · decide
theorem str_len (a b : Str) : (a ++ b).length = a.length + b.length := by
  rw [TL.len_tl, TL.tl_append, List.length_append, ← TL.len_tl, ← TL.len_tl]
theorem num_len {n : Nat} (h : n < 1000) : (Str.ofString (toString ((n : Nat) : Int))).length ≤ 3 := by
  rw [TL.len_tl, TL.tl_num]
  exact TL.numL_len (by decide) h
def strB (l : List Int) : Str := Str.empty ++ kindR l ++ " ring of perimeter " ++ Str.ofString (toString l.sum)
theorem sum_le {l : List Int} (h : okL l) : ∃ n : Nat, l.sum = (n : Int) ∧ n < 1000 := by
  obtain ⟨a, b, c, d, rfl, o⟩ := h
  unfold okR at o
  refine ⟨([a, b, c, d].sum).toNat, ?_, ?_⟩
  · simp
    omega
  · simp
    omega
theorem js_str {f g : Fe} {env : Env} {st : Sto} {l : List Int} (hl : okL l) (hf : f env st = .ok (.str (kindR l)) st) (hg : g env st = .ok (.int l.sum) st) : fJs [fFmt f, fC (.str " ring of perimeter "), fFmt g] Str.empty env st = .ok (.str (strB l)) st := by
  obtain ⟨n, e, hn⟩ := sum_le hl
  have k := kindR_le l
  have k1 : (kindR l).length ≤ 100000 := by omega
  have h0 : (Str.empty : Str).length = 0 := by decide
  have h1 : (" ring of perimeter " : Str).length = 19 := by decide
  have h2 := num_len hn
  rw [← e] at h2
  have k2 : (Str.empty ++ kindR l).length ≤ 100000 := by rw [str_len, h0]; omega
  have k3 : (Str.empty ++ kindR l ++ " ring of perimeter ").length ≤ 100000 := by rw [str_len, str_len, h0, h1]; omega
  have k4 : (Str.empty ++ kindR l ++ " ring of perimeter " ++ Str.ofString (toString l.sum)).length ≤ 100000 := by rw [str_len, str_len, str_len, h0, h1]; omega
  have k5 : l.sum.natAbs.log2 < 1920 := by
    rw [e, Int.natAbs_natCast]
    have : n.log2 ≤ n := Nat.log2_le_self n
    omega
  simp only [e_js1, e_js0, e_fmt, e_c, hf, hg, e_bind1, e_fmtS, e_fmtI, k1, if_true, k2, k3, k4, k5, strB]
theorem bstr_ok {S : Sto} {k e d u : Nat} {B : Bn} (h : BenchAt S k e d u B) (hc : okL B.cur) : m_Bench___str__ [.ref k] S = .ok (.str (strB B.cur)) S := by
  have q1 := h.qi
  have hs := fun (f g : Fe) (env : Env) => js_str (f := f) (g := g) (env := env) (st := S) hc
  have kf := kindof_l hc.len S
  have sm : gSum [T B.cur] S = some (.int B.cur.sum) := t_sum
  have key := hs (fCall m_kind_of (fCons (fFld "Bench" "current" (fVar 0)) fNil)) (fCb gSum (fCons (fFld "Bench" "current" (fVar 0)) fNil)) [some (.ref k)] (by simp [q1, kf]) (by simp [q1, sm, -e_sum])
  simp [m_Bench___str__, b_Bench___str__, key, -e_js1]
def ap : Op → List Int → List Int
  | .ch b l, s => s.set b.toNat l
  | .ex b, s => swp b s
def okOp : Op → Prop
  | .ch b l => (0 ≤ b ∧ b ≤ 3) ∧ 1 ≤ l ∧ l ≤ 50
  | .ex b => 0 ≤ b ∧ b ≤ 3
theorem swp_okL {l : List Int} (h : okL l) {p : Int} (hp : 0 ≤ p ∧ p ≤ 3) : okL (swp p l) := by
  obtain ⟨a, b, c, d, rfl, o⟩ := h
  have h4 : p = 0 ∨ p = 1 ∨ p = 2 ∨ p = 3 := by omega
  unfold okR at o
  rcases h4 with rfl | rfl | rfl | rfl
  · exact ⟨b, a, c, d, rfl, by unfold okR; omega⟩
  · exact ⟨a, c, b, d, rfl, by unfold okR; omega⟩
  · exact ⟨a, b, d, c, rfl, by unfold okR; omega⟩
  · exact ⟨d, b, c, a, rfl, by unfold okR; omega⟩
theorem okL.cl {l : List Int} (h : okL l) : clB l = true := by
  obtain ⟨a, b, c, d, rfl, o⟩ := h
  unfold okR at o
  unfold clB
  exact decide_eq_true (by omega)
theorem okL_ap {o : Op} {l : List Int} (h : okL l) (ho : okOp o) (hc : clB (ap o l) = true) : okL (ap o l) := by
  cases o with
  | ex b => exact swp_okL h ho
  | ch p v =>
    obtain ⟨a, b, c, d, rfl, o⟩ := h
    obtain ⟨hp, hv⟩ := ho
    have h4 : p = 0 ∨ p = 1 ∨ p = 2 ∨ p = 3 := by omega
    unfold okR at o
    rcases h4 with rfl | rfl | rfl | rfl
    · have hc' := of_decide_eq_true (show decide (v < b + c + d ∧ b < v + c + d ∧ c < v + b + d ∧ d < v + b + c) = true from hc)
      exact ⟨v, b, c, d, rfl, by unfold okR; omega⟩
    · have hc' := of_decide_eq_true (show decide (a < v + c + d ∧ v < a + c + d ∧ c < a + v + d ∧ d < a + v + c) = true from hc)
      exact ⟨a, v, c, d, rfl, by unfold okR; omega⟩
    · have hc' := of_decide_eq_true (show decide (a < b + v + d ∧ b < a + v + d ∧ v < a + b + d ∧ d < a + b + v) = true from hc)
      exact ⟨a, b, v, d, rfl, by unfold okR; omega⟩
    · have hc' := of_decide_eq_true (show decide (a < b + c + v ∧ b < a + c + v ∧ c < a + b + v ∧ v < a + b + c) = true from hc)
      exact ⟨a, b, c, v, rfl, by unfold okR; omega⟩
def outO (o : Op) (l : List Int) : D := match o with
  | .ch _ _ => .str (kindR l)
  | .ex _ => T l
end Fb

namespace Fb
open PySem
@[simp] theorem e_slS {z : Str} {lo hi : Option Int} {st : Sto} : gSl (.str z) lo hi st = if z.length ≤ 100000 then some (.str (L2.cutS z lo hi)) else none := (rfl)
@[simp] theorem e_addS {a b : Str} {st : Sto} : gAdd (.str a) (.str b) st = if a.length + b.length ≤ 100000 then some (.str (a ++ b)) else none := (rfl)
@[simp] theorem e_lenS {z : Str} {st : Sto} : gLen [.str z] st = if z.length ≤ 100000 then some (.int z.length) else none := (rfl)
/-! texts of operations -/
theorem sp_tl : TL.tl (" " : Str) = [32] := by decide
theorem bar_tl : TL.tl ("|" : Str) = [124] := by decide
theorem qm_tl : TL.tl ("?" : Str) = [63] := by decide
theorem dot_tl : TL.tl ("." : Str) = [46] := by decide
theorem e_tl : TL.tl ("" : Str) = [] := by decide
def parts : Op → List Str
  | .ch b l => ["change", txt b, txt l]
  | .ex b => ["exchange", txt b]
def otx (o : Op) : Str := Txt.join " " (parts o)
theorem joinL_all {P : Nat → Prop} {S : List Nat} (hS : ∀ c ∈ S, P c) : ∀ {ps : List (List Nat)}, (∀ p ∈ ps, ∀ c ∈ p, P c) → ∀ c ∈ TL.joinL S ps, P c
  | [], _, c, h => by simp [TL.joinL] at h
  | [p], hp, c, h => hp p (by simp) c (by simpa [TL.joinL] using h)
  | p :: q :: r, hp, c, h => by
    have h' : c ∈ p ++ (S ++ TL.joinL S (q :: r)) := h
    rw [List.mem_append, List.mem_append] at h'
    rcases h' with h' | h' | h'
    · exact hp p (by simp) c h'
    · exact hS c h'
    · exact joinL_all hS (fun p hp' => hp p (List.mem_cons_of_mem _ hp')) c h'
theorem joinL_le {S : List Nat} : ∀ (ps : List (List Nat)), (TL.joinL S ps).length ≤ (ps.map (·.length)).sum + ps.length * S.length
  | [] => by simp [TL.joinL]
  | [p] => by simp [TL.joinL]
  | p :: q :: r => by
    have := joinL_le (S := S) (q :: r)
    show (p ++ (S ++ TL.joinL S (q :: r))).length ≤ _
    simp only [List.length_append, List.map_cons, List.sum_cons, List.length_cons, Nat.add_mul] at this ⊢
    omega
def Fine (l : List Nat) : Prop := ∀ c ∈ l, c ≠ 124 ∧ c ≠ 63 ∧ c ≠ 46
theorem txt_fine {n : Int} (h : 0 ≤ n) : Fine (TL.tl (txt n)) ∧ 32 ∉ TL.tl (txt n) := by
  rw [txt_tl h]
  refine ⟨fun c hc => ?_, TL.numL_free (by omega)⟩
  have := TL.numL_digits _ c hc
  omega
theorem parts_fine {o : Op} (h : okOp o) : ∀ p ∈ parts o, Fine (TL.tl p) ∧ 32 ∉ TL.tl p ∧ p.length ≤ 8 := by
  have h1 : Fine (TL.tl ("change" : Str)) ∧ 32 ∉ TL.tl ("change" : Str) ∧ ("change" : Str).length ≤ 8 := by unfold Fine; decide
  have h2 : Fine (TL.tl ("exchange" : Str)) ∧ 32 ∉ TL.tl ("exchange" : Str) ∧ ("exchange" : Str).length ≤ 8 := by unfold Fine; decide
  have h3 : ∀ n : Int, 0 ≤ n ∧ n < 1000 → Fine (TL.tl (txt n)) ∧ 32 ∉ TL.tl (txt n) ∧ (txt n).length ≤ 8 := fun n hn => ⟨(txt_fine hn.1).1, (txt_fine hn.1).2, Nat.le_trans (txt_len hn) (by decide)⟩
  cases o with
  | ch b l =>
    obtain ⟨hb, hl⟩ := h
    intro p hp
    simp only [parts, List.mem_cons, List.not_mem_nil, or_false] at hp
    rcases hp with rfl | rfl | rfl
    · exact h1
    · exact h3 b (by omega)
    · exact h3 l (by omega)
  | ex b =>
    have hb : 0 ≤ b ∧ b ≤ 3 := h
    intro p hp
    simp only [parts, List.mem_cons, List.not_mem_nil, or_false] at hp
    rcases hp with rfl | rfl
    · exact h2
    · exact h3 b (by omega)
theorem parts_len (o : Op) : (parts o).length ≤ 3 ∧ parts o ≠ [] := by cases o <;> simp [parts]
theorem otx_tl (o : Op) : TL.tl (otx o) = TL.joinL [32] ((parts o).map TL.tl) := by
  unfold otx
  rw [TL.join_eq, TL.tl_join, sp_tl]
theorem otx_fine {o : Op} (h : okOp o) : Fine (TL.tl (otx o)) := by
  rw [otx_tl]
  refine joinL_all (P := fun c => c ≠ 124 ∧ c ≠ 63 ∧ c ≠ 46) (by decide) fun p hp => ?_
  obtain ⟨q, hq, rfl⟩ := List.mem_map.mp hp
  exact (parts_fine h q hq).1
theorem sum_bound {l : List Nat} {k : Nat} (h : ∀ n ∈ l, n ≤ k) : l.sum ≤ k * l.length := by
  induction l with
  | nil => simp
  | cons n l ih =>
    have h1 := h n List.mem_cons_self
    have h2 := ih fun m hm => h m (List.mem_cons_of_mem _ hm)
    simp only [List.sum_cons, List.length_cons, Nat.mul_add, Nat.mul_one]
    omega
theorem otx_len {o : Op} (h : okOp o) : (otx o).length ≤ 30 := by
  rw [TL.len_tl, otx_tl]
  have h1 := joinL_le (S := [32]) ((parts o).map TL.tl)
  have h2 : (((parts o).map TL.tl).map (·.length)).sum ≤ 8 * (((parts o).map TL.tl).map (·.length)).length := sum_bound fun n hn => by
    obtain ⟨q, hq, rfl⟩ := List.mem_map.mp hn
    obtain ⟨p, hp, rfl⟩ := List.mem_map.mp hq
    rw [← TL.len_tl]
    exact (parts_fine h p hp).2.2
  have h3 := (parts_len o).1
  simp only [List.length_map, List.length_cons, List.length_nil] at h1 h2
  omega
theorem otx_split {o : Op} (h : okOp o) : Txt.split (otx o) " " = parts o :=
  TL.split_join (s := 32) (S := []) sp_tl (by kernel_rfl) (parts_len o).2 fun p hp => (parts_fine h p hp).2.1
/-! rows -/
def rowS (p : Bool × Op) : Str := if p.1 = true then ("?" : Str) ++ otx p.2 else otx p.2
theorem cut1_tl (z : Str) : TL.tl (L2.cutS z none (some 1)) = (TL.tl z).take 1 := by
  have e : HT.sIx z.length z.length (some 1) = min 1 z.length := HT.sIx_nat _ _ 1
  unfold L2.cutS
  rw [HT.sIx_none, e, TL.tl_mk]
  show ((TL.tl z).drop 0).take (min 1 z.length - 0) = _
  rw [List.drop_zero, Nat.sub_zero, TL.len_tl]
  rcases h : TL.tl z with _ | ⟨c, r⟩
  · simp
  · simp
theorem row_cut {p : Bool × Op} (h : okOp p.2) : decide (L2.cutS (rowS p) none (some 1) = "?") = p.1 := by
  rw [Bool.eq_iff_iff, decide_eq_true_eq]
  constructor
  · intro e
    have e2 := congrArg TL.tl e
    rw [cut1_tl, qm_tl] at e2
    cases hp : p.1 with
    | true => rfl
    | false =>
      exfalso
      unfold rowS at e2
      rw [hp, if_neg Bool.false_ne_true] at e2
      have : 63 ∈ TL.tl (otx p.2) := List.mem_of_mem_take (by rw [e2]; simp)
      exact (otx_fine h 63 this).2.1 rfl
  · intro e
    apply TL.ext_tl
    rw [cut1_tl, qm_tl]
    unfold rowS
    rw [if_pos e, TL.tl_append, qm_tl]
    rfl
theorem row_repl {p : Bool × Op} (h : okOp p.2) : Txt.replace (rowS p) "?" "" = otx p.2 := by
  have f : 63 ∉ TL.tl (otx p.2) := fun hm => (otx_fine h 63 hm).2.1 rfl
  have e0 : ("?" : Str) = ⟨#[63]⟩ := by decide
  have e1 : Txt.replace (rowS p) "?" "" = Str.join "" (Txt.split (rowS p) "?") := by
    rw [e0]
    exact PySem.StrLaws.replace_one _ _ 63
  rw [e1]
  cases hp : p.1 with
  | true =>
    have e2 : rowS p = Txt.join "?" ["", otx p.2] := by
      apply TL.ext_tl
      rw [TL.join_eq, TL.tl_join]
      unfold rowS
      rw [if_pos hp, TL.tl_append, qm_tl]
      simp only [List.map_cons, List.map_nil, e_tl, TL.joinL]
      rfl
    rw [e2, TL.split_join (s := 63) (S := []) qm_tl (by kernel_rfl) (by simp) (fun q hq => by
      simp only [List.mem_cons, List.not_mem_nil, or_false] at hq
      rcases hq with rfl | rfl
      · rw [e_tl]; simp
      · exact f)]
    apply TL.ext_tl
    rw [TL.tl_join, e_tl]
    simp only [List.map_cons, List.map_nil, e_tl, TL.joinL]
    rfl
  | false =>
    have e2 : rowS p = Txt.join "?" [otx p.2] := by
      apply TL.ext_tl
      rw [TL.join_eq, TL.tl_join]
      unfold rowS
      rw [if_neg (by rw [hp]; exact Bool.false_ne_true)]
      simp only [List.map_cons, List.map_nil, TL.joinL]
    rw [e2, TL.split_join (s := 63) (S := []) qm_tl (by kernel_rfl) (by simp) (fun q hq => by
      simp only [List.mem_cons, List.not_mem_nil, or_false] at hq
      subst hq
      exact f)]
    apply TL.ext_tl
    rw [TL.tl_join]
    simp only [List.map_cons, List.map_nil, TL.joinL]
theorem row_len {p : Bool × Op} (h : okOp p.2) : (rowS p).length ≤ 31 := by
  have := otx_len h
  have q : ("?" : Str).length = 1 := by decide
  unfold rowS
  split
  · rw [str_len, q]; omega
  · omega
theorem row_free {p : Bool × Op} (h : okOp p.2) : ∀ c ∈ TL.tl (rowS p), c ≠ 124 ∧ c ≠ 46 := by
  have f := otx_fine h
  intro c hc
  unfold rowS at hc
  split at hc
  · rw [TL.tl_append, qm_tl, List.mem_append] at hc
    rcases hc with hc | hc
    · rw [List.mem_singleton.mp hc]; decide
    · exact ⟨(f c hc).1, (f c hc).2.2⟩
  · exact ⟨(f c hc).1, (f c hc).2.2⟩
theorem rtx_free {l : List Int} (h : ∀ n ∈ l, 0 ≤ n) : ∀ c ∈ TL.tl (rtx l), c ≠ 124 ∧ c ≠ 46 := by
  unfold rtx
  rw [TL.join_eq, TL.tl_join, dash_tl]
  refine joinL_all (P := fun c => c ≠ 124 ∧ c ≠ 46) (by decide) fun p hp c hc => ?_
  obtain ⟨q, hq, rfl⟩ := List.mem_map.mp hp
  obtain ⟨n, hn, rfl⟩ := List.mem_map.mp hq
  exact ⟨((txt_fine (h n hn)).1 c hc).1, ((txt_fine (h n hn)).1 c hc).2.2⟩
/-! a saved bench -/
def rowsT (R0 : List Int) (ps : List (Bool × Op)) : List Str := rtx R0 :: ps.map rowS
def bodyT (R0 : List Int) (ps : List (Bool × Op)) : Str := Txt.join "|" (rowsT R0 ps)
def saveT (R0 : List Int) (ps : List (Bool × Op)) : Str := bodyT R0 ps ++ "."
theorem okL.small {l : List Int} (h : okL l) : ∀ n ∈ l, 0 ≤ n ∧ n < 1000 := by
  obtain ⟨a, b, c, d, rfl, o⟩ := h
  exact small_ok o
theorem rtxL_len {l : List Int} (h : okL l) : (rtx l).length ≤ 20 := by
  obtain ⟨a, b, c, d, rfl, o⟩ := h
  exact rtx_len o
section
variable {R0 : List Int} {ps : List (Bool × Op)}
theorem rowsT_all (hR : okL R0) (h : ∀ p ∈ ps, okOp p.2) : ∀ x ∈ rowsT R0 ps, (∀ c ∈ TL.tl x, c ≠ 124 ∧ c ≠ 46) ∧ x.length ≤ 31 := by
  intro x hx
  rcases List.mem_cons.mp hx with rfl | hx
  · exact ⟨rtx_free fun n hn => (hR.small n hn).1, Nat.le_trans (rtxL_len hR) (by decide)⟩
  · obtain ⟨p, hp, rfl⟩ := List.mem_map.mp hx
    exact ⟨row_free (h p hp), row_len (h p hp)⟩
theorem rowsT_sum (hR : okL R0) (h : ∀ p ∈ ps, okOp p.2) : ((rowsT R0 ps).map (·.length)).sum ≤ 31 * (ps.length + 1) := by
  have := sum_bound (l := (rowsT R0 ps).map (·.length)) (k := 31) fun n hn => by
    obtain ⟨x, hx, rfl⟩ := List.mem_map.mp hn
    exact (rowsT_all hR h x hx).2
  simpa [rowsT] using this
theorem body_split (hR : okL R0) (h : ∀ p ∈ ps, okOp p.2) : Txt.split (bodyT R0 ps) "|" = rowsT R0 ps :=
  TL.split_join (s := 124) (S := []) bar_tl (by kernel_rfl) (by simp [rowsT]) fun x hx hm => ((rowsT_all hR h x hx).1 124 hm).1 rfl
theorem body_tl : TL.tl (bodyT R0 ps) = TL.joinL [124] ((rowsT R0 ps).map TL.tl) := by
  unfold bodyT
  rw [TL.join_eq, TL.tl_join, bar_tl]
theorem body_free (hR : okL R0) (h : ∀ p ∈ ps, okOp p.2) : 46 ∉ TL.tl (bodyT R0 ps) := by
  intro hm
  rw [body_tl] at hm
  refine joinL_all (P := fun c => c ≠ 46) (by decide) (fun p hp c hc => ?_) 46 hm rfl
  obtain ⟨x, hx, rfl⟩ := List.mem_map.mp hp
  exact ((rowsT_all hR h x hx).1 c hc).2
theorem body_len (hR : okL R0) (h : ∀ p ∈ ps, okOp p.2) : (bodyT R0 ps).length ≤ 32 * (ps.length + 1) := by
  rw [TL.len_tl, body_tl]
  have h1 := joinL_le (S := [124]) ((rowsT R0 ps).map TL.tl)
  have h2 := rowsT_sum hR h
  have e : ((rowsT R0 ps).map TL.tl).map (·.length) = (rowsT R0 ps).map (·.length) := by
    rw [List.map_map]
    exact List.map_congr_left fun w _ => (TL.len_tl w).symm
  rw [e] at h1
  simp only [List.length_map, rowsT, List.length_cons, List.length_nil] at h1 h2 ⊢
  omega
end
theorem dot_len : ("." : Str).length = 1 := by decide
theorem cut_dot (x : Str) : L2.cutS (x ++ ".") (some (-1)) none = "." := by
  have l : (x ++ ".").length = x.length + 1 := by rw [str_len, dot_len]
  have e : HT.sIx (x ++ ".").length 0 (some (-1)) = x.length := by
    unfold HT.sIx
    dsimp only
    rw [if_pos (by decide), l]
    omega
  apply TL.ext_tl
  unfold L2.cutS
  rw [HT.sIx_none, e, l, TL.tl_mk, dot_tl]
  show ((TL.tl (x ++ ".")).drop x.length).take (x.length + 1 - x.length) = _
  rw [TL.tl_append, TL.len_tl, List.drop_left, dot_tl]
  simp
theorem cut_body (x : Str) : L2.cutS (x ++ ".") none (some (-1)) = x := by
  have l : (x ++ ".").length = x.length + 1 := by rw [str_len, dot_len]
  have e : HT.sIx (x ++ ".").length (x ++ ".").length (some (-1)) = x.length := by
    unfold HT.sIx
    dsimp only
    rw [if_pos (by decide), l]
    omega
  apply TL.ext_tl
  unfold L2.cutS
  rw [HT.sIx_none, e, TL.tl_mk]
  show ((TL.tl (x ++ ".")).drop 0).take (x.length - 0) = _
  rw [List.drop_zero, Nat.sub_zero, TL.tl_append, TL.len_tl, List.take_left]
theorem cut_short (x : Str) (hx : 46 ∉ TL.tl x) {k : Int} (hk : 0 ≤ k ∧ k ≤ x.length) : 46 ∉ TL.tl (L2.cutS (x ++ ".") none (some k)) := by
  obtain ⟨n, rfl⟩ : ∃ n : Nat, k = (n : Int) := ⟨k.toNat, by omega⟩
  have hn : n ≤ x.length := by omega
  unfold L2.cutS
  rw [HT.sIx_none, HT.sIx_nat, TL.tl_mk]
  show 46 ∉ ((TL.tl (x ++ ".")).drop 0).take (min n _ - 0)
  rw [List.drop_zero, Nat.sub_zero, str_len, Nat.min_eq_left (by omega), TL.tl_append, List.take_append_of_le_length (by rw [← TL.len_tl]; omega)]
  exact fun hm => hx (List.mem_of_mem_take hm)
theorem cut_shortL (x : Str) {k : Int} (hk : 0 ≤ k ∧ k ≤ x.length) : (L2.cutS (x ++ ".") none (some k)).length ≤ x.length + 1 := by
  obtain ⟨n, rfl⟩ : ∃ n : Nat, k = (n : Int) := ⟨k.toNat, by omega⟩
  rw [TL.len_tl]
  unfold L2.cutS
  rw [TL.tl_mk]
  refine Nat.le_trans (List.length_take_le' _ _) (Nat.le_trans (by rw [List.length_drop]; exact Nat.sub_le _ _) ?_)
  show (TL.tl (x ++ ".")).length ≤ _
  rw [← TL.len_tl, str_len, dot_len]
  omega
end Fb

namespace Fb
open PySem
/-! paths -/
def Path : List Int → List (Op × List Int) → Prop
  | _, [] => True
  | s, p :: r => okOp p.1 ∧ p.2 = ap p.1 s ∧ okL p.2 ∧ Path p.2 r
def lastS (s : List Int) : List (Op × List Int) → List Int
  | [] => s
  | p :: r => lastS p.2 r
theorem path_app : ∀ {p q : List (Op × List Int)} {s : List Int}, Path s (p ++ q) ↔ Path s p ∧ Path (lastS s p) q
  | [], q, s => by simp [Path, lastS]
  | x :: p, q, s => by
    show (okOp x.1 ∧ x.2 = ap x.1 s ∧ okL x.2 ∧ Path x.2 (p ++ q)) ↔ (okOp x.1 ∧ x.2 = ap x.1 s ∧ okL x.2 ∧ Path x.2 p) ∧ Path (lastS x.2 p) q
    rw [path_app]
    constructor
    · rintro ⟨a, b, c, d, e⟩
      exact ⟨⟨a, b, c, d⟩, e⟩
    · rintro ⟨⟨a, b, c, d⟩, e⟩
      exact ⟨a, b, c, d, e⟩
theorem last_app {p q : List (Op × List Int)} {s : List Int} : lastS s (p ++ q) = lastS (lastS s p) q := by
  induction p generalizing s with
  | nil => rfl
  | cons x p ih => exact ih
theorem last_ok {p : List (Op × List Int)} {s : List Int} (hs : okL s) (h : Path s p) : okL (lastS s p) := by
  induction p generalizing s with
  | nil => exact hs
  | cons x p ih => exact ih h.2.2.1 h.2.2.2
theorem states_last {p : List (Op × List Int)} {s c : List Int} {e : List (List Int)} (h : e ++ [c] = s :: p.map (·.2)) : c = lastS s p := by
  induction p generalizing s e with
  | nil =>
    cases e with
    | nil => simpa [lastS] using h
    | cons x e => simp at h
  | cons x p ih =>
    cases e with
    | nil => simp at h
    | cons y e =>
      rw [List.cons_append] at h
      exact ih (List.cons.inj h).2
/-- what the law's lists say of a bench -/
structure HB (R0 : List Int) (B : Bn) (past : List (Op × List Int)) : Prop where
  bg : B.begun = R0
  dn : B.done = past.map (·.1)
  st : B.earlier ++ [B.cur] = R0 :: past.map (·.2)
  pa : Path R0 (past ++ B.undone.reverse)
  ok : okL R0
theorem HB.cur {R0 : List Int} {B : Bn} {past : List (Op × List Int)} (h : HB R0 B past) : B.cur = lastS R0 past := states_last h.st
theorem HB.okc {R0 : List Int} {B : Bn} {past : List (Op × List Int)} (h : HB R0 B past) : okL B.cur := by
  rw [h.cur]
  exact last_ok h.ok (path_app.mp h.pa).1
theorem HB.len {R0 : List Int} {B : Bn} {past : List (Op × List Int)} (h : HB R0 B past) : B.earlier.length = past.length ∧ B.done.length = past.length := by
  have := congrArg List.length h.st
  simp at this
  exact ⟨this, by rw [h.dn, List.length_map]⟩
theorem HB.perform {R0 : List Int} {B : Bn} {past : List (Op × List Int)} (h : HB R0 B past) {o : Op} (ho : okOp o) (hn : okL (ap o B.cur)) : HB R0 ⟨B.begun, ap o B.cur, B.earlier ++ [B.cur], B.done ++ [o], []⟩ (past ++ [(o, ap o B.cur)]) := by
  refine ⟨h.bg, by simp [h.dn], by simp [h.st], ?_, h.ok⟩
  rw [List.reverse_nil, List.append_nil, path_app]
  refine ⟨(path_app.mp h.pa).1, ho, ?_, hn, trivial⟩
  rw [h.cur]
theorem HB.undo {R0 : List Int} {B : Bn} {past : List (Op × List Int)} {o : Op} {l : List Int} (h : HB R0 B (past ++ [(o, l)])) : ∃ es e, B.earlier = es ++ [e] ∧ B.done = past.map (·.1) ++ [o] ∧ B.cur = l ∧ HB R0 ⟨B.begun, e, es, past.map (·.1), B.undone ++ [(o, B.cur)]⟩ past := by
  have hc : B.cur = l := by rw [h.cur, last_app]; rfl
  have h1 : B.earlier = R0 :: past.map (·.2) := by
    have := h.st
    rw [List.map_append, ← List.cons_append] at this
    exact (List.append_inj' this rfl).1
  obtain ⟨es, e, he⟩ : ∃ es e, B.earlier = es ++ [e] := by
    rcases List.eq_nil_or_concat B.earlier with z | ⟨es, e, z⟩
    · rw [h1] at z; cases z
    · exact ⟨es, e, by rw [z, List.concat_eq_append]⟩
  refine ⟨es, e, he, by simpa using h.dn, hc, h.bg, rfl, by rw [← he, h1], ?_, h.ok⟩
  have := h.pa
  rw [List.append_assoc] at this
  simpa [hc] using this
theorem HB.redo {R0 : List Int} {B : Bn} {past us : List (Op × List Int)} {o : Op} {l : List Int} (h : HB R0 B past) (hu : B.undone = us ++ [(o, l)]) : HB R0 ⟨B.begun, l, B.earlier ++ [B.cur], B.done ++ [o], us⟩ (past ++ [(o, l)]) := by
  refine ⟨h.bg, by simp [h.dn], by simp [h.st], ?_, h.ok⟩
  have := h.pa
  rw [hu] at this
  simpa using this
theorem Fr.set (S : Sto) (j : Nat) (c : Cell) : Fr S (S.set j c) [j] := ⟨by simp, fun i hi hF => by
  rw [List.getElem?_set_ne]
  intro z
  exact hF (by simp [z])⟩
theorem Fr.then {S S1 S2 : Sto} {F G : List Nat} (f : Fr S S1 F) (g : Fr S1 S2 G) : Fr S S2 (F ++ G) :=
  ⟨Nat.le_trans f.len g.len, fun j hj hF => by
    rw [List.mem_append, not_or] at hF
    rw [g.get j (Nat.lt_of_lt_of_le hj f.len) hF.2, f.get j hj hF.1]⟩
theorem HB.eq {R0 : List Int} {B C : Bn} {past : List (Op × List Int)} (h : HB R0 B past) (g : HB R0 C past) (hu : B.undone = C.undone) : B = C := by
  have e1 := h.st.trans g.st.symm
  obtain ⟨b1, b2, b3, b4, b5⟩ := B
  obtain ⟨c1, c2, c3, c4, c5⟩ := C
  have a1 : b1 = c1 := h.bg.trans g.bg.symm
  have a4 : b4 = c4 := h.dn.trans g.dn.symm
  have a5 : b5 = c5 := hu
  have e : b3 ++ [b2] = c3 ++ [c2] := e1
  obtain ⟨a3, a2⟩ := List.append_inj' e rfl
  cases a2
  subst a1 a3 a4 a5
  rfl
theorem path_ops {p : List (Op × List Int)} {s : List Int} (h : Path s p) : ∀ x ∈ p, okOp x.1 := by
  induction p generalizing s with
  | nil => intro x hx; cases hx
  | cons y p ih =>
    intro x hx
    rcases List.mem_cons.mp hx with rfl | hx
    · exact h.1
    · exact ih h.2.2.2 x hx
end Fb

namespace Fb
open PySem
@[simp] theorem e_rvR {k : Nat} {st : Sto} : gRev (.ref k) st = (seqL st (.ref k)).map fun ds => .lst ds.reverse := (rfl)
@[simp] theorem e_addLR {k : Nat} {as : List D} {st : Sto} : gAdd (.lst as) (.ref k) st = (seqL st (.ref k)).bind fun bs => if as.length + bs.length ≤ 100000 then some (.lst (as ++ bs)) else none := (rfl)
@[simp] theorem e_ext {k j : Nat} {st : Sto} : gExtend (.ref k) [.ref j] st = (celL st (.ref k)).bind fun z => (celL st (.ref j)).bind fun w => if z.2.length + w.2.length ≤ 100000 then some (.non, st.set z.1 (.lst (z.2 ++ w.2))) else none := (rfl)
/-- a comprehension as a cell, the store stands -/
theorem comp_mapC {src : Fi} {t : Tg} {e : Fe} {own : List Nat} {env : Env} {st st1 : Sto} {S : Src} {α : Type} (g : α → D) (k : α → D) (xs : List α) (hs : src env st = .ok S st1) (hn : S.n = xs.length)
    (hc : S.cur st1 = some (xs.map g)) (hl : xs.length ≤ 100000)
    (h : ∀ x ∈ xs, ∃ env1, bindT t (g x) (wipeE env own) st1 = some env1 ∧ e env1 st1 = .ok (k x) st1) :
    fCompC src t fYes e own env st = .ok (.ref st1.length) (st1 ++ [.lst (xs.map k)]) := by
  obtain ⟨acc', st', e1, ⟨e2, e3, _⟩⟩ := loop_at (S := S) (t := t) (stp := step1 fYes e) (wenv := wipeE env own) g xs (fun ys acc st => st = st1 ∧ acc ++ ys.map k = xs.map k ∧ acc.length + ys.length ≤ 100000 ∧ ∀ y ∈ ys, y ∈ xs) hn (fun _ _ st z => by rw [z.1]; exact hc)
    (fun x ys acc st ⟨h1, h2, h3, h4⟩ => by
      subst h1
      rw [List.length_cons] at h3
      obtain ⟨env1, f1, f2⟩ := h x (h4 x List.mem_cons_self)
      refine ⟨env1, acc ++ [k x], st, f1, ?_, rfl, ?_, by simp; omega, fun y hy => h4 y (List.mem_cons_of_mem _ hy)⟩
      · unfold step1
        show R.bind (e env1 st) _ = _
        rw [f2]
        exact if_pos (by omega)
      · rw [← h2]
        simp) xs.length 0 [] st1 (by omega) ⟨rfl, rfl, by simpa using hl, fun y hy => hy⟩
  subst e2
  rw [List.map_nil, List.append_nil] at e3
  subst e3
  unfold fCompC fLoopC
  rw [hs]
  show (match loopG S t (step1 fYes e) (wipeE env own) S.n 0 [] st' with | .ok ds st2 => R.ok (D.ref st2.length) (st2 ++ [Cell.lst ds]) | _ => R.bad) = _
  rw [hn, e1]
/-! an operation's text -/
def pD : Op → List (D × Str)
  | .ch b l => [(.str "change", "change"), (.int b, txt b), (.int l, txt l)]
  | .ex b => [(.str "exchange", "exchange"), (.int b, txt b)]
theorem pD1 (o : Op) : o.d = .tup ((pD o).map (·.1)) := by cases o <;> rfl
theorem pD2 (o : Op) : (pD o).map (·.2) = parts o := by cases o <;> rfl
theorem pD_str {o : Op} (h : okOp o) (st : Sto) : ∀ p ∈ pD o, gStr [p.1] st = some (.str p.2) := by
  have hi : ∀ n : Int, 0 ≤ n ∧ n < 1000 → gStr [.int n] st = some (.str (txt n)) := fun n hn => if_pos (log_small hn)
  cases o with
  | ch b l =>
    obtain ⟨hb, hl⟩ := h
    intro p hp
    simp only [pD, List.mem_cons, List.not_mem_nil, or_false] at hp
    rcases hp with rfl | rfl | rfl
    · rfl
    · exact hi b (by omega)
    · exact hi l (by omega)
  | ex b =>
    have hb : 0 ≤ b ∧ b ≤ 3 := h
    intro p hp
    simp only [pD, List.mem_cons, List.not_mem_nil, or_false] at hp
    rcases hp with rfl | rfl
    · rfl
    · exact hi b (by omega)
theorem op_text {o : Op} (h : okOp o) (st : Sto) : m_operation_text [o.d] st = .ok (.str (otx o)) st := by
  have c : fComp (fSrc (fVar 0)) (.nm 1) fYes (fCb gStr (fCons (fVar 1) fNil)) [1] [some o.d, none] st = .ok (.lst ((parts o).map D.str)) st := by
    rw [comp_fix (ds := (pD o).map (·.1)) (st1 := st) (by rw [pD1]; simp)]
    rw [compF_map (fun p : D × Str => p.1) (fun p => D.str p.2)]
    · simp only [e_lst1, List.nil_append]
      rw [← pD2, List.map_map]
      rfl
    · cases o <;> simp [pD]
    · intro p hp
      have g := pD_str h st p hp
      refine ⟨_, rfl, rfl, ?_⟩
      simp [g]
  have s2 : ((parts o).map (·.length)).sum ≤ 8 * ((parts o).map (·.length)).length := sum_bound fun n hn => by
    obtain ⟨p, hp, rfl⟩ := List.mem_map.mp hn
    exact (parts_fine h p hp).2.2
  have s3 := (parts_len o).1
  have q : (" " : Str).length = 1 := by decide
  have cc : ((parts o).map (·.length)).sum + (parts o).length * (" " : Str).length ≤ 1000000 := by
    rw [List.length_map] at s2
    rw [q]
    omega
  have gj : gJoin " " (.lst ((parts o).map D.str)) st = some (.str (otx o)) := by
    rw [e_join, e_sql]
    show (toStrs ((parts o).map D.str)).bind _ = _
    rw [toStrs_map]
    exact if_pos cc
  have key : fM1 gJoin (fC (.str " ")) (fComp (fSrc (fVar 0)) (.nm 1) fYes (fCb gStr (fCons (fVar 1) fNil)) [1]) [some o.d, none] st = .ok (.str (otx o)) st := by
    simp only [e_m1, e_c, e_bind1, c, gj]
  simp [m_operation_text, b_operation_text, key, -e_m1]
/-! saving -/
def rowsB (B : Bn) : List (Bool × Op) := B.done.map (fun o => (false, o)) ++ B.undone.reverse.map (fun p => (true, p.1))
theorem row_f (o : Op) : rowS (false, o) = otx o := by unfold rowS; rw [if_neg Bool.false_ne_true]
theorem row_t (o : Op) : rowS (true, o) = ("?" : Str) ++ otx o := by unfold rowS; rw [if_pos rfl]
theorem save_ok {S : Sto} {k e d u : Nat} {B : Bn} (h : BenchAt S k e d u B) (hR : okL B.begun) (h1 : ∀ o ∈ B.done, okOp o) (h2 : ∀ p ∈ B.undone, okOp p.1) (hl : B.done.length + B.undone.length ≤ 1000) :
    ∃ L, m_save [.ref k] S = .ok (.str (saveT B.begun (rowsB B))) (S ++ L) := by
  have q := h.qi
  have qd := h.qd
  have qu := h.qu
  obtain ⟨l1, l2, l3, l4⟩ := h.lt
  have hrow : ∀ p ∈ rowsB B, okOp p.2 := by
    intro p hp
    rcases List.mem_append.mp hp with hp | hp
    · obtain ⟨o, ho, rfl⟩ := List.mem_map.mp hp
      exact h1 o ho
    · obtain ⟨x, hx, rfl⟩ := List.mem_map.mp hp
      exact h2 x (List.mem_reverse.mp hx)
  have hrl : (rowsB B).length = B.done.length + B.undone.length := by simp [rowsB]
  have c1 : fCompC (fSrc (fFld "Bench" "done" (fVar 0))) (.nm 2) fYes (fCall m_operation_text (fCons (fVar 2) fNil)) [2] [some (.ref k), none, none, none] S = .ok (.ref S.length) (S ++ [.lst (B.done.map fun o => D.str (otx o))]) := by
    refine comp_mapC Op.d _ B.done (src_cel (k := d) (by simp [q]) qd) (by simp) (cur_cel qd) (by omega) fun o ho => ⟨_, rfl, ?_⟩
    have := op_text (h1 o ho) S
    simp [this]
  obtain ⟨S1, e1⟩ : ∃ S1, S1 = S ++ [.lst (B.done.map fun o => D.str (otx o))] := ⟨_, rfl⟩
  have f1 : Fr S S1 [] := by rw [e1]; exact Fr.app _ _ _
  have b1 := h.fr f1 (by simp)
  have q1 := b1.qi
  have qu1 := b1.qu
  have g1 : S1[S.length]? = some (.lst (B.done.map fun o => D.str (otx o))) := by rw [e1]; exact at_app0'
  have len1 : S1.length = S.length + 1 := by rw [e1]; simp
  have c2 : fCompC (fSrc (fRev (fFld "Bench" "undone" (fVar 0)))) (.tp [2, 3]) fYes (fBin gAdd (fC (.str "?")) (fCall m_operation_text (fCons (fVar 2) fNil))) [2, 3] [some (.ref k), some (.ref S.length), none, none] S1 =
      .ok (.ref S1.length) (S1 ++ [.lst (B.undone.reverse.map fun p => D.str ("?" ++ otx p.1))]) := by
    refine comp_mapC (S := .fix (B.undone.reverse.map uD)) uD _ B.undone.reverse (st1 := S1) (by simp [q1, qu1]) (by show (List.map uD B.undone.reverse).length = _; rw [List.length_map]) rfl (by simp; omega) fun p hp => ⟨[some (.ref k), some (.ref S.length), some p.1.d, some (T p.2)], rfl, ?_⟩
    have ho := h2 p (List.mem_reverse.mp hp)
    have o1 := op_text ho S1
    have o2 : ("?" : Str).length + (otx p.1).length ≤ 100000 := by
      have := otx_len ho
      have qq : ("?" : Str).length = 1 := by decide
      omega
    simp [o1, o2]
  obtain ⟨S2, e2⟩ : ∃ S2, S2 = S1 ++ [.lst (B.undone.reverse.map fun p => D.str ("?" ++ otx p.1))] := ⟨_, rfl⟩
  have f2 : Fr S1 S2 [] := by rw [e2]; exact Fr.app _ _ _
  have g2 : S2[S.length]? = some (.lst (B.done.map fun o => D.str (otx o))) := f2.at g1 (by simp)
  have g3 : S2[S1.length]? = some (.lst (B.undone.reverse.map fun p => D.str ("?" ++ otx p.1))) := by rw [e2]; exact at_app0'
  have erow : (B.done.map fun o => D.str (otx o)) ++ (B.undone.reverse.map fun p => D.str ("?" ++ otx p.1)) = ((rowsB B).map rowS).map D.str := by
    have a1 : (B.done.map fun o => D.str (otx o)) = ((B.done.map fun o => (false, o)).map rowS).map D.str := by
      rw [List.map_map, List.map_map]
      exact List.map_congr_left fun o _ => by simp [row_f]
    have a2 : (B.undone.reverse.map fun p => D.str ("?" ++ otx p.1)) = ((B.undone.reverse.map fun p => (true, p.1)).map rowS).map D.str := by
      rw [List.map_map, List.map_map]
      exact List.map_congr_left fun p _ => by simp [row_t]
    rw [a1, a2]
    unfold rowsB
    rw [List.map_append, List.map_append]
  obtain ⟨S3, e3⟩ : ∃ S3, S3 = S2.set S.length (.lst (((rowsB B).map rowS).map D.str)) := ⟨_, rfl⟩
  have l2' : S.length < S2.length := (List.getElem?_eq_some_iff.mp g2).1
  have g4 : S3[S.length]? = some (.lst (((rowsB B).map rowS).map D.str)) := by rw [e3, List.getElem?_set_self l2']
  have f3 : Fr S2 S3 [S.length] := by rw [e3]; exact Fr.set _ _ _
  have b3 : BenchAt S3 k e d u B := (b1.fr f2 (by simp)).fr f3 (by simp; omega)
  have q3 := b3.qi
  have rt := ring_text_ok (l := B.begun) hR.small (by rw [hR.len]; omega) S3
  have cc : (((rowsT B.begun (rowsB B))).map (·.length)).sum + (rowsT B.begun (rowsB B)).length * ("|" : Str).length ≤ 1000000 := by
    have := rowsT_sum hR hrow
    have qq : ("|" : Str).length = 1 := by decide
    have ll : (rowsT B.begun (rowsB B)).length = (rowsB B).length + 1 := by simp [rowsT]
    rw [qq, ll]
    omega
  have gj : gJoin "|" (.lst ((D.str (rtx B.begun)) :: ((rowsB B).map rowS).map D.str)) S3 = some (.str (bodyT B.begun (rowsB B))) := by
    rw [e_join, e_sql]
    show (toStrs ((rowsT B.begun (rowsB B)).map D.str)).bind _ = _
    rw [toStrs_map]
    exact if_pos cc
  have bl : (bodyT B.begun (rowsB B)).length + ("." : Str).length ≤ 100000 := by
    have := body_len hR hrow
    rw [dot_len]
    omega
  have dl : B.done.length + B.undone.length ≤ 100000 := by omega
  have rl : (rowsB B).length + 1 ≤ 100000 := by omega
  have ext : gExtend (.ref S.length) [.ref S1.length] S2 = some (.non, S3) := by
    rw [e_ext]
    have k1 : celL S2 (.ref S.length) = some (S.length, B.done.map fun o => D.str (otx o)) := by unfold celL; simp only [g2]
    have k2 : celL S2 (.ref S1.length) = some (S1.length, B.undone.reverse.map fun p => D.str ("?" ++ otx p.1)) := by unfold celL; simp only [g3]
    rw [k1, k2]
    show (if (B.done.map fun o => D.str (otx o)).length + (B.undone.reverse.map fun p => D.str ("?" ++ otx p.1)).length ≤ 100000 then some (D.non, S2.set S.length (.lst ((B.done.map fun o => D.str (otx o)) ++ (B.undone.reverse.map fun p => D.str ("?" ++ otx p.1))))) else none) = _
    rw [if_pos (by simp; omega), erow, ← e3]
  have a2 : gAdd (.lst [.str (rtx B.begun)]) (.ref S.length) S3 = some (.lst ((D.str (rtx B.begun)) :: ((rowsB B).map rowS).map D.str)) := by
    have k1 : seqL S3 (.ref S.length) = some (((rowsB B).map rowS).map D.str) := by unfold seqL; simp only [g4]
    rw [e_addLR, k1]
    show (if ([D.str (rtx B.begun)]).length + (((rowsB B).map rowS).map D.str).length ≤ 100000 then some (D.lst ([D.str (rtx B.begun)] ++ ((rowsB B).map rowS).map D.str)) else none) = _
    rw [if_pos (by simp; omega)]
    rfl
  have sq : seqL S2 (.ref S.length) = some (B.done.map fun o => D.str (otx o)) := by unfold seqL; simp only [g2]
  have t2 : b_save_2 [some (.ref k), some (.ref S.length), none, none] S3 = .rt (.str (saveT B.begun (rowsB B))) S3 := by
    simp [b_save_2, q3, rt, a2, gj, bl, saveT, -e_addLR, -e_join, -List.map_map]
  have t1 : b_save_1 [some (.ref k), some (.ref S.length), none, none] S1 = .rt (.str (saveT B.begun (rowsB B))) S3 := by
    rw [← e2] at c2
    simp [b_save_1, c2, g1, g2, ext, t2, -e_compC, -e_ext]
  rw [← e1] at c1
  refine ⟨[.lst (((rowsB B).map rowS).map D.str), .lst (B.undone.reverse.map fun p => D.str ("?" ++ otx p.1))], ?_⟩
  have eS : S3 = S ++ [.lst (((rowsB B).map rowS).map D.str), .lst (B.undone.reverse.map fun p => D.str ("?" ++ otx p.1))] := by
    rw [e3, e2, e1, List.append_assoc]
    exact set_app0'
  rw [← eS]
  simp [m_save, b_save, c1, t1, -e_compC]
end Fb

namespace Fb
open PySem
@[simp] theorem e_aug {i : Nat} {g : D → D → Sto → Option D} {f : Fe} {env : Env} {st : Sto} : sAug i g f env st = match env[i]? with
  | some (some d) => RS.of (f env st) env fun e st => match g d e st with
    | some z => .nx (env.set i (some z)) st
    | none => .bad
  | _ => .bad := (rfl)
theorem int_txt {n : Int} (h : 0 ≤ n ∧ n < 1000) (st : Sto) : gInt [.str (txt n)] st = some (.int n) := by
  have e := txt_tl h.1
  have l := txt_len h
  have i : PySem.intText? (txt n) = some ((NumText.digitsVal (TL.tl (txt n)) : Nat) : Int) := by
    have := SX.int_S (a := TL.tl (txt n)) (by
      rw [e, List.all_eq_true]
      intro c hc
      have := TL.numL_digits _ c hc
      simp only [Bool.and_eq_true, decide_eq_true_eq]
      omega) (by rw [e]; exact TL.numL_ne _) (by rw [← TL.len_tl]; omega)
    rwa [SX.S_tl] at this
  show (if (txt n).length ≤ 640 then (PySem.intText? (txt n)).map D.int else none) = _
  rw [if_pos (by omega), i, e, TL.numL_val]
  show some (D.int ((n.toNat : Nat) : Int)) = _
  rw [Int.toNat_of_nonneg h.1]
section
variable {S : Sto} {k e d u : Nat} {B : Bn} {x0 x1 x2 x6 x7 x8 : Option D}
abbrev eL (x0 x1 x2 : Option D) (k : Nat) (c : Int) (x5 x6 x7 x8 : Option D) : Env := [x0, x1, x2, some (.ref k), some (.int c), x5, x6, x7, x8]
theorem eq_str2 {a b : Str} {st : Sto} : gEq (.str a) (.str b) st = some (.bl (decide (a = b))) := gEq_d a b st
theorem load_row (h : BenchAt S k e d u B) {p : Bool × Op} (ho : okOp p.2) (hc : okL B.cur) (hn : okL (ap p.2 B.cur)) (hE : B.earlier.length < 1000) (hD : B.done.length < 1000) {c : Int} :
    ∃ y6 y7 S', l_load_1 (eL x0 x1 x2 k c (some (.str (rowS p))) x6 x7 x8) S = .nx (eL x0 x1 x2 k (c + if p.1 = true then 1 else 0) (some (.str (rowS p))) y6 y7 x8) S' ∧
      BenchAt S' k e d S.length ⟨B.begun, ap p.2 B.cur, B.earlier ++ [B.cur], B.done ++ [p.2], []⟩ ∧ Fr S S' [k, e, d, u] := by
  have q := h.qi
  have rl := row_len ho
  have rl1 : (rowS p).length ≤ 100000 := by omega
  have rl2 : (rowS p).length + ((rowS p).length + 1) * ("" : Str).length ≤ 16777216 := by
    have : ("" : Str).length = 0 := by decide
    rw [this]
    omega
  have e1 : gEq (.str (L2.cutS (rowS p) none (some 1))) (.str "?") S = some (.bl p.1) := by rw [eq_str2, row_cut ho]
  have e2 := row_repl ho
  have ol : (otx p.2).length ≤ 100000 := by have := otx_len ho; omega
  have sp : gSplit (otx p.2) (.str " ") S = some (.lst ((parts p.2).map D.str)) := by
    show (if (" " : Str).length ≠ 0 ∧ (otx p.2).length ≤ 100000 then some (D.lst ((Txt.split (otx p.2) " ").map .str)) else none) = _
    rw [if_pos ⟨by decide, ol⟩, otx_split ho]
  have gi : gInt [.bl p.1] S = some (.int (if p.1 = true then 1 else 0)) := rfl
  obtain ⟨b, o⟩ := p
  cases o with
  | ch i l =>
    obtain ⟨hi, hl⟩ := ho
    obtain ⟨S', a1, a2, a3⟩ := change_ok h hi hl hc.len hn.cl hE hD
    refine ⟨some (.str "change"), some (.lst [.str (txt i), .str (txt l)]), S', ?_, a2, a3⟩
    have i1 := int_txt (n := i) (by omega) S
    have i2 := int_txt (n := l) (by omega) S
    have n1 : gEq (.str "change") (.str "change") S = some (.bl true) := by rw [eq_str2]; rfl
    simp only [parts, List.map_cons, List.map_nil] at sp
    simp [l_load_1, p_load_1, p_load_1_1, p_load_1_2, rl1, e1, gi, rl2, e2, sp, n1, i1, i2, q, a1, -e_split]
  | ex i =>
    have hi : 0 ≤ i ∧ i ≤ 3 := ho
    obtain ⟨S', a1, a2, a3⟩ := exchange_ok h hi hc.len hE hD
    refine ⟨some (.str "exchange"), some (.lst [.str (txt i)]), S', ?_, a2, a3⟩
    have i1 := int_txt (n := i) (by omega) S
    have n1 : gEq (.str "exchange") (.str "change") S = some (.bl false) := by rw [eq_str2]; rfl
    simp only [parts, List.map_cons, List.map_nil] at sp
    simp [l_load_1, p_load_1, p_load_1_1, p_load_1_2, rl1, e1, gi, rl2, e2, sp, n1, i1, q, a1, -e_split]
end
end Fb

namespace Fb
open PySem
theorem ne_str2 {a b : Str} {st : Sto} : gNe (.str a) (.str b) st = some (.bl (!decide (a = b))) := gNe_d a b st
theorem load_no {d : D} {t : String} {st : Sto} (h : tyName st d = some t) (hk : L2.kitB t "str" = some false) : m_load [d] st = .exc "InvalidText" st := by
  simp [m_load, b_load, h, hk]
theorem load_cut {z : Str} (hz : z.length ≤ 100000) (h : 46 ∉ TL.tl z) (st : Sto) : m_load [.str z] st = .exc "InvalidText" st := by
  have ne : ¬ L2.cutS z (some (-1)) none = "." := by
    intro e
    have e2 := congrArg TL.tl e
    rw [dot_tl] at e2
    unfold L2.cutS at e2
    rw [TL.tl_mk] at e2
    have hm : 46 ∈ (List.drop (HT.sIx z.length 0 (some (-1))) z.cps.toList).take (HT.sIx z.length z.length none - HT.sIx z.length 0 (some (-1))) := by rw [e2]; simp
    exact h (List.mem_of_mem_drop (List.mem_of_mem_take hm))
  simp [m_load, b_load, hz, ne]
theorem parse_l {l : List Int} (h : okL l) (st : Sto) : m_parse_ring [.str (rtx l)] st = .ok (T l) st := by
  obtain ⟨a, b, c, d, rfl, o⟩ := h
  exact parse_rtx o st
def cntQ (ps : List (Bool × Op)) : Nat := ps.countP (·.1)
theorem cntQ_cons (p : Bool × Op) (ps : List (Bool × Op)) : ((cntQ (p :: ps) : Nat) : Int) = (if p.1 = true then 1 else 0) + (cntQ ps : Nat) := by
  unfold cntQ
  rw [List.countP_cons]
  split <;> omega
section
variable {S : Sto} {R0 : List Int} {P : List (Op × List Int)} {ps : List (Bool × Op)} {x0 x1 x2 : Option D}
theorem load_rows (hR : okL R0) (hP : Path R0 P) (hps : ps.map (·.2) = P.map (·.1)) (hl : P.length ≤ 100) {S1 : Sto} (h1 : BenchAt S1 S.length (S.length + 1) (S.length + 2) (S.length + 3) ⟨R0, R0, [], [], []⟩) (f1 : Fr S S1 []) :
    ∃ x5 x6 x7 u B S', forF (.nm 5) l_load_1 (ps.map fun p => D.str (rowS p)) (eL x0 x1 x2 S.length 0 none none none none) S1 = .nx (eL x0 x1 x2 S.length ((cntQ ps : Nat) : Int) x5 x6 x7 none) S' ∧
      BenchAt S' S.length (S.length + 1) (S.length + 2) u B ∧ HB R0 B P ∧ B.undone = [] ∧ Fr S S' [] ∧ S.length < u := by
  obtain ⟨env', S', e1, x5, x6, x7, pre, suf, B, u, c, rfl, b1, b2, b3, b4, b5, b6, b7, b8⟩ := forF_all (t := .nm 5) (body := l_load_1) (fun p : Bool × Op => D.str (rowS p))
    (fun ys env st => ∃ x5 x6 x7 pre suf B u c, env = eL x0 x1 x2 S.length c x5 x6 x7 none ∧ BenchAt st S.length (S.length + 1) (S.length + 2) u B ∧ HB R0 B pre ∧ B.undone = [] ∧ P = pre ++ suf ∧ suf.map (·.1) = ys.map (·.2) ∧ c + ((cntQ ys : Nat) : Int) = ((cntQ ps : Nat) : Int) ∧ Fr S st [] ∧ S.length < u)
    ps (eL x0 x1 x2 S.length 0 none none none none) S1 ⟨none, none, none, [], P, _, _, 0, rfl, h1, ⟨rfl, rfl, rfl, trivial, hR⟩, rfl, rfl, hps.symm, by omega, f1, by omega⟩ (by
    rintro p ys env st ⟨x5, x6, x7, pre, suf, B, u, c, rfl, b1, b2, b3, b4, b5, b6, b7, b8⟩
    cases suf with
    | nil => simp at b5
    | cons q suf =>
      obtain ⟨o, l⟩ := q
      simp only [List.map_cons, List.cons.injEq] at b5
      obtain ⟨b5, b5'⟩ := b5
      have hp' := hP
      rw [b4, path_app] at hp'
      obtain ⟨ho, el, hok, _⟩ := hp'.2
      dsimp only at ho el hok b5
      rw [← b2.cur] at el
      subst el b5
      have hlen := congrArg List.length b4
      rw [List.length_append] at hlen
      have hbl := b2.len
      obtain ⟨y6, y7, S2, a1, a2, a3⟩ := load_row (x0 := x0) (x1 := x1) (x2 := x2) (x6 := x6) (x7 := x7) (x8 := none) (c := c) (p := p) b1 ho b2.okc hok (by omega) (by omega)
      have lt := b1.lt
      refine ⟨_, _, S2, rfl, a1, _, y6, y7, pre ++ [(p.2, ap p.2 B.cur)], suf, _, st.length, _, rfl, a2, b2.perform ho hok, rfl, by rw [b4]; simp, b5', ?_, b7.trans a3 (fun j hj _ hF => ?_), by omega⟩
      · rw [← b6, cntQ_cons]
        omega
      · simp only [List.mem_cons, List.not_mem_nil, or_false] at hF
        omega)
  have hs : suf = [] := by simpa using b5
  subst hs
  rw [List.append_nil] at b4
  subst b4
  have ec : c = ((cntQ ps : Nat) : Int) := by
    have : cntQ ([] : List (Bool × Op)) = 0 := rfl
    rw [this] at b6
    omega
  subst ec
  exact ⟨_, _, _, _, _, _, e1, b1, b2, b3, b7, b8⟩
theorem load_undos {S1 : Sto} {e d u n : Nat} {B : Bn} {x5 x6 x7 : Option D} {c : Int} (h1 : BenchAt S1 S.length e d u B) (hB : HB R0 B P) (hU : B.undone = []) (hl : P.length ≤ 100) (hn : n ≤ P.length) (f1 : Fr S S1 []) (hi : S.length < e ∧ S.length < d ∧ S.length < u) :
    ∃ x8 C past S', forF (.nm 8) l_load_2 (rangeD 0 n) (eL x0 x1 x2 S.length c x5 x6 x7 none) S1 = .nx (eL x0 x1 x2 S.length c x5 x6 x7 x8) S' ∧
      BenchAt S' S.length e d u C ∧ HB R0 C past ∧ past ++ C.undone.reverse = P ∧ C.undone.length = n ∧ Fr S S' [] := by
  obtain ⟨env', S', e1, x8, C, past, rfl, b1, b2, b3, b4, b5⟩ := forF_all (t := .nm 8) (body := l_load_2) (fun i : Nat => D.int (0 + (i : Int)))
    (fun ys env st => ∃ x8 C past, env = eL x0 x1 x2 S.length c x5 x6 x7 x8 ∧ BenchAt st S.length e d u C ∧ HB R0 C past ∧ past ++ C.undone.reverse = P ∧ C.undone.length + ys.length = n ∧ Fr S st [])
    (List.range n) (eL x0 x1 x2 S.length c x5 x6 x7 none) S1 ⟨none, B, P, rfl, h1, hB, by simp [hU], by simp [hU], f1⟩ (by
    rintro x ys env st ⟨x8, C, past, rfl, b1, b2, b3, b4, b5⟩
    rw [List.length_cons] at b4
    have hlen := congrArg List.length b3
    rw [List.length_append, List.length_reverse] at hlen
    rcases List.eq_nil_or_concat past with z | ⟨past', ⟨o, l⟩, z⟩
    · subst z
      rw [List.length_nil] at hlen
      omega
    · rw [List.concat_eq_append] at z
      subst z
      obtain ⟨es, e', he, hd, hc, hb'⟩ := b2.undo
      obtain ⟨S2, a1, a2, a3⟩ := undo_ok b1 hd he (by omega)
      have q := b1.qi
      refine ⟨eL x0 x1 x2 S.length c x5 x6 x7 (some (.int (0 + (x : Int)))), eL x0 x1 x2 S.length c x5 x6 x7 (some (.int (0 + (x : Int)))), S2, rfl, ?_, some (.int (0 + (x : Int))), _, past', rfl, a2, hb', ?_, ?_, b5.trans a3 (fun j hj _ hF => ?_)⟩
      · simp [l_load_2, q, a1]
      · rw [← b3, hc]
        simp
      · simp
        omega
      · simp only [List.mem_cons, List.not_mem_nil, or_false] at hF
        omega)
  exact ⟨_, _, _, _, e1, b1, b2, b3, by simpa using b4, b5⟩
theorem load_ok (hR : okL R0) (hP : Path R0 P) (hps : ps.map (·.2) = P.map (·.1)) (hn : cntQ ps ≤ P.length) (hl : P.length ≤ 100) (S : Sto) :
    ∃ S' e d u C past, m_load [.str (saveT R0 ps)] S = .ok (.ref S.length) S' ∧ BenchAt S' S.length e d u C ∧ HB R0 C past ∧ past ++ C.undone.reverse = P ∧ C.undone.length = cntQ ps ∧ Fr S S' [] ∧ S.length < e ∧ S.length < d ∧ S.length < u := by
  have hrow : ∀ p ∈ ps, okOp p.2 := by
    intro p hp
    have : p.2 ∈ P.map (·.1) := by rw [← hps]; exact List.mem_map_of_mem hp
    obtain ⟨x, hx, e⟩ := List.mem_map.mp this
    rw [← e]
    exact path_ops hP x hx
  have pl : ps.length = P.length := by
    have := congrArg List.length hps
    simpa using this
  have bl := body_len hR hrow
  have tl : (saveT R0 ps).length ≤ 100000 := by
    unfold saveT
    rw [str_len, dot_len]
    omega
  have bl2 : (bodyT R0 ps).length ≤ 100000 := by omega
  have g1 : L2.cutS (saveT R0 ps) (some (-1)) none = "." := cut_dot _
  have g2 : L2.cutS (saveT R0 ps) none (some (-1)) = bodyT R0 ps := cut_body _
  have sp : gSplit (bodyT R0 ps) (.str "|") S = some (.lst ((rowsT R0 ps).map D.str)) := by
    show (if ("|" : Str).length ≠ 0 ∧ (bodyT R0 ps).length ≤ 100000 then some (D.lst ((Txt.split (bodyT R0 ps) "|").map .str)) else none) = _
    rw [if_pos ⟨by decide, bl2⟩, body_split hR hrow]
  have rw_ : (rowsT R0 ps).map D.str = D.str (rtx R0) :: ps.map (fun p => D.str (rowS p)) := by
    unfold rowsT
    rw [List.map_cons, List.map_map]
    rfl
  rw [rw_] at sp
  obtain ⟨S1, e1⟩ : ∃ S1, S1 = S ++ [insB (T R0) (T R0) (S.length + 1) (S.length + 2) (S.length + 3), .lst [], .lst [], .lst []] := ⟨_, rfl⟩
  have i1 := init_ok (ckring_l hR) S
  have n1 := BenchAt.new S R0
  rw [← e1] at i1 n1
  have f1 : Fr S S1 [] := by rw [e1]; exact Fr.app _ _ _
  obtain ⟨x5, x6, x7, u, B, S2, l1, l2, l3, l4, l5, l6⟩ := load_rows (x0 := some (.str (saveT R0 ps))) (x1 := some (.str (rtx R0))) (x2 := some (.lst (ps.map fun p => D.str (rowS p)))) hR hP hps hl n1 f1
  obtain ⟨x8, C, past, S3, k1, k2, k3, k4, k5, k6⟩ := load_undos (x0 := some (.str (saveT R0 ps))) (x1 := some (.str (rtx R0))) (x2 := some (.lst (ps.map fun p => D.str (rowS p)))) (x5 := x5) (x6 := x6) (x7 := x7) (c := ((cntQ ps : Nat) : Int)) l2 l3 l4 hl hn l5 (by omega)
  refine ⟨S3, _, _, _, C, past, ?_, k2, k3, k4, k5, k6, by omega, by omega, by omega⟩
  have rg : -1000000 ≤ ((cntQ ps : Nat) : Int) ∧ ((cntQ ps : Nat) : Int) ≤ 1000000 := by omega
  have pr := fun st => parse_l hR st
  have t4 : b_load_4 (eL (some (.str (saveT R0 ps))) (some (.str (rtx R0))) (some (.lst (ps.map fun p => D.str (rowS p)))) S.length ((cntQ ps : Nat) : Int) x5 x6 x7 none) S2 = .rt (.ref S.length) S3 := by
    simp [b_load_4, b_load_5, rg, k1, -e_for1]
  have t3 : b_load_3 (eL (some (.str (saveT R0 ps))) (some (.str (rtx R0))) (some (.lst (ps.map fun p => D.str (rowS p)))) S.length 0 none none none none) S1 = .rt (.ref S.length) S3 := by
    simp [b_load_3, l1, t4, -e_for1]
  simp [m_load, b_load, b_load_1, b_load_2, tl, g1, g2, sp, pr, i1, t3, -e_split]
end
end Fb

namespace Fb
open PySem
/-! the calls -/
section
variable {S : Sto} {k e d u : Nat} {B : Bn}
theorem call0_ok (h : BenchAt S k e d u B) {y z v : D} {S' : Sto} (hr : m_Bench_undo [.ref k] S = .ok v S') : m__law_call [.int 0, .tup [.ref k, y, z]] S = .ok v S' := by
  have q := h.qi
  simp [m__law_call, b__law_call, b__law_call_1, b__law_call_2, b__law_call_3, q, hr]
theorem call0_exc (h : BenchAt S k e d u B) {y z : D} {x : Str} {S' : Sto} (hr : m_Bench_undo [.ref k] S = .exc x S') : m__law_call [.int 0, .tup [.ref k, y, z]] S = .exc x S' := by
  have q := h.qi
  simp [m__law_call, b__law_call, b__law_call_1, b__law_call_2, b__law_call_3, q, hr]
theorem call1_ok (h : BenchAt S k e d u B) {y z v : D} {S' : Sto} (hr : m_Bench_redo [.ref k] S = .ok v S') : m__law_call [.int 1, .tup [.ref k, y, z]] S = .ok v S' := by
  have q := h.qi
  simp [m__law_call, b__law_call, b__law_call_1, b__law_call_2, b__law_call_3, q, hr]
theorem call1_exc (h : BenchAt S k e d u B) {y z : D} {x : Str} {S' : Sto} (hr : m_Bench_redo [.ref k] S = .exc x S') : m__law_call [.int 1, .tup [.ref k, y, z]] S = .exc x S' := by
  have q := h.qi
  simp [m__law_call, b__law_call, b__law_call_1, b__law_call_2, b__law_call_3, q, hr]
theorem call3_ok (h : BenchAt S k e d u B) {y z v : D} {S' : Sto} (hr : m_Bench_change [.ref k, y, z] S = .ok v S') : m__law_call [.int 3, .tup [.ref k, y, z]] S = .ok v S' := by
  have q := h.qi
  simp [m__law_call, b__law_call, b__law_call_1, b__law_call_2, q, hr]
theorem call3_exc (h : BenchAt S k e d u B) {y z : D} {x : Str} {S' : Sto} (hr : m_Bench_change [.ref k, y, z] S = .exc x S') : m__law_call [.int 3, .tup [.ref k, y, z]] S = .exc x S' := by
  have q := h.qi
  simp [m__law_call, b__law_call, b__law_call_1, b__law_call_2, q, hr]
theorem call4_ok (h : BenchAt S k e d u B) {y z v : D} {S' : Sto} (hr : m_Bench_exchange [.ref k, y] S = .ok v S') : m__law_call [.int 4, .tup [.ref k, y, z]] S = .ok v S' := by
  have q := h.qi
  simp [m__law_call, b__law_call, b__law_call_1, b__law_call_2, q, hr]
end
theorem call2_exc {y x z : D} {c : Str} {S S' : Sto} (hr : m_load [x] S = .exc c S') : m__law_call [.int 2, .tup [y, x, z]] S = .exc c S' := by
  simp [m__law_call, b__law_call, b__law_call_1, hr]
/-! data -/
theorem ne_ret {a b a' b' : Str} {st : Sto} : gNe (.tup [.str a, .str b]) (.tup [.str a', .str b']) st = some (.bl (!decide (a = a' ∧ b = b'))) := by
  have h := gNe_d (a, b) (a', b') st
  refine h.trans ?_
  congr 2
  congr 1
  exact decide_eq_decide.mpr (by simp)
theorem ne_rs10 {st : Sto} : gNe (rsd 10) (rsd 10) st = some (.bl false) := by kernel_rfl
theorem ne_rs5 {st : Sto} : gNe (rsd 5) (rsd 5) st = some (.bl false) := by kernel_rfl
theorem ne_T2 {l m : List Int} {st : Sto} : gNe (T l) (T m) st = some (.bl (!decide (l = m))) := by
  have h := gNe_d (PySem.W.Tup.mk l) (PySem.W.Tup.mk m) st
  refine h.trans ?_
  congr 2
  congr 1
  exact decide_eq_decide.mpr (by simp)
abbrev e73 (ns : List Int) (x3 x4 x5 x6 x7 x8 x9 x10 : Option D) : Env := [some (.lst (ns.map D.int)), some (.ref 0), some (.ref 1), x3, x4, x5, x6, x7, x8, x9, x10, none]
section
variable {ns R0 : List Int} {t : Int} {u : Nat} {B : Bn} {past : List (Op × List Int)} {S : Sto} {x3 x4 x5 x6 x7 x8 x9 x10 : Option D}
structure I73 (ns R0 : List Int) (t : Int) (u : Nat) (B : Bn) (past : List (Op × List Int)) (S : Sto) : Prop where
  w : Town ns S t
  b : BenchAt S 1 2 3 u B
  hb : HB R0 B past
  hu : 4 ≤ u
theorem I73.fr0 {S' : Sto} {t' : Int} (I : I73 ns R0 t u B past S) (f : Fr S S' [0]) (w : Town ns S' t') : I73 ns R0 t' u B past S' :=
  ⟨w, I.b.fr f (by have := I.hu; simp; omega), I.hb, I.hu⟩
theorem step1_73 (hn : ns.length ≤ 63) (I : I73 ns R0 t u B past S) (h0 : 0 ≤ t) (hb : t < 1000) (hU : B.undone = []) (hl : past.length ≤ 100) :
    ∃ y4 y5 t' u' B' past' S', l_law_1 (e73 ns x3 x4 x5 x6 x7 x8 x9 x10) S = .nx (e73 ns x3 y4 y5 x6 x7 x8 x9 x10) S' ∧ I73 ns R0 t' u' B' past' S' ∧ B'.undone = [] ∧ 0 ≤ t' ∧ t' ≤ t + 3 ∧ past'.length ≤ past.length + 1 := by
  obtain ⟨way, S1, p1, p2, p3, p4, p5⟩ := draw_at hn I.w h0 (by omega) (m := 2) (by omega) (by omega)
  obtain ⟨bar, S2, b1, b2, b3, b4, b5⟩ := draw_at hn p4 (by omega) (by omega) (m := 4) (by omega) (by omega)
  obtain ⟨v, S3, v1, v2, v3, v4, v5⟩ := draw_at hn b4 (by omega) (by omega) (m := 15) (by omega) (by omega)
  have I3 : I73 ns R0 (t + 1 + 1 + 1) u B past S3 := ((I.fr0 p5 p4).fr0 b5 b4).fr0 v5 v4
  have hc := I3.hb.okc
  have hlen := I3.hb.len
  have lt := I3.b.lt
  have hu := I3.hu
  have h2 : way = 0 ∨ way = 1 := by omega
  rcases h2 with rfl | rfl
  · cases hcl : clB (B.cur.set bar.toNat (1 + v)) with
    | true =>
      have ho : okOp (.ch bar (1 + v)) := ⟨by omega, by omega⟩
      obtain ⟨S4, a1, a2, a3⟩ := change_ok I3.b ho.1 ho.2 hc.len hcl (by omega) (by omega)
      have oc := outcome_ok _ _ _ _ _ (call3_ok I3.b a1)
      refine ⟨some (.int 3), some (.int bar), t + 1 + 1 + 1, S3.length, _, _, S4, ?_, ⟨I3.w.fr a3 (by simp; omega), a2, I3.hb.perform ho (okL_ap hc ho hcl), by omega⟩, rfl, by omega, by omega, by simp⟩
      simp [l_law_1, p3, b3, v3, oc]
    | false =>
      have oc := oc_noring _ _ _ _ (call3_exc I3.b (y := .int bar) (z := .int (1 + v)) (change_noring I3.b (by omega) (by omega) hc.len hcl))
      refine ⟨some (.int 3), some (.int bar), _, u, B, past, S3, ?_, I3, hU, by omega, by omega, by omega⟩
      simp [l_law_1, p3, b3, v3, oc]
  · have ho : okOp (.ex bar) := show 0 ≤ bar ∧ bar ≤ 3 by omega
    obtain ⟨S4, a1, a2, a3⟩ := exchange_ok I3.b ho hc.len (by omega) (by omega)
    have oc := outcome_ok _ _ _ _ _ (call4_ok I3.b (z := .int (1 + v)) a1)
    refine ⟨some (.int 4), some (.int bar), t + 1 + 1 + 1, S3.length, _, _, S4, ?_, ⟨I3.w.fr a3 (by simp; omega), a2, I3.hb.perform ho (swp_okL hc ho), by omega⟩, rfl, by omega, by omega, by simp⟩
    simp [l_law_1, p3, b3, v3, oc]
theorem step2_73 (I : I73 ns R0 t u B past S) (hl : past.length + B.undone.length ≤ 100) :
    ∃ B' past' S', l_law_2 (e73 ns x3 x4 x5 x6 x7 x8 x9 x10) S = .nx (e73 ns x3 x4 x5 x6 x7 x8 x9 x10) S' ∧ I73 ns R0 t u B' past' S' ∧ past'.length + B'.undone.length = past.length + B.undone.length := by
  have hu := I.hu
  rcases List.eq_nil_or_concat past with z | ⟨past', ⟨o, l⟩, z⟩
  · subst z
    have oc := oc_undo _ _ _ _ (call0_exc I.b (y := .int 0) (z := .int 0) (undo_none I.b (by rw [I.hb.dn]; rfl)))
    refine ⟨B, [], S, ?_, I, rfl⟩
    simp [l_law_2, oc]
  · rw [List.concat_eq_append] at z
    subst z
    obtain ⟨es, e, he, hd, hc, hb'⟩ := I.hb.undo
    obtain ⟨S2, a1, a2, a3⟩ := undo_ok I.b hd he (by omega)
    have oc := outcome_ok _ _ _ _ _ (call0_ok I.b (y := .int 0) (z := .int 0) a1)
    refine ⟨_, past', S2, ?_, ⟨I.w.fr a3 (by simp; omega), a2, hb', hu⟩, ?_⟩
    · simp [l_law_2, oc]
    · simp
      omega
/-- two benches alike -/
structure K73 (ns R0 : List Int) (t : Int) (u k e d u' : Nat) (B : Bn) (past : List (Op × List Int)) (S : Sto) : Prop where
  w : Town ns S t
  b : BenchAt S 1 2 3 u B
  c : BenchAt S k e d u' B
  hb : HB R0 B past
  hu : 4 ≤ u
  h1 : u < k
  h2 : k < e
  h3 : k < d
  h4 : k < u'
theorem step3_73 {k e d u' : Nat} {w : Int} (hw : w = 0 ∨ w = 1) (I : K73 ns R0 t u k e d u' B past S) (hl : past.length + B.undone.length ≤ 100) :
    ∃ B' past' S', l_law_3 (e73 ns x3 (some (.int w)) x5 x6 x7 (some (.ref k)) x9 x10) S = .nx (e73 ns x3 (some (.int w)) x5 x6 x7 (some (.ref k)) x9 x10) S' ∧ K73 ns R0 t u k e d u' B' past' S' ∧ past'.length + B'.undone.length = past.length + B.undone.length := by
  obtain ⟨tw, b, c, hb, hu, h1, h2, h3, h4⟩ := I
  have hlen := hb.len
  have fin : ∀ {B' : Bn} {past' : List (Op × List Int)} {S1 S2 : Sto} {r : D}, m__law_outcome [.int w, .tup [.ref 1, .int 0, .int 0]] S = .ok r S1 → m__law_outcome [.int w, .tup [.ref k, .int 0, .int 0]] S1 = .ok r S2 → gNe r r S2 = some (.bl false) →
      BenchAt S2 1 2 3 u B' → BenchAt S2 k e d u' B' → l_law_3 (e73 ns x3 (some (.int w)) x5 x6 x7 (some (.ref k)) x9 x10) S = .nx (e73 ns x3 (some (.int w)) x5 x6 x7 (some (.ref k)) x9 x10) S2 := fun {B' past' S1 S2 r} o1 o2 hne b' c' => by
    have r1 := ring_ok' b'
    have r2 := ring_ok' c'
    have q1 := b'.qi
    have q2 := c'.qi
    have nt : gNe (T B'.cur) (T B'.cur) S2 = some (.bl false) := by rw [ne_T2]; simp
    simp [l_law_3, o1, o2, hne, q1, q2, r1, r2, nt]
  rcases hw with rfl | rfl
  · rcases List.eq_nil_or_concat past with z | ⟨past', ⟨o, l⟩, z⟩
    · subst z
      have o1 := oc_undo _ _ _ _ (call0_exc b (y := .int 0) (z := .int 0) (undo_none b (by rw [hb.dn]; rfl)))
      have o2 := oc_undo _ _ _ _ (call0_exc c (y := .int 0) (z := .int 0) (undo_none c (by rw [hb.dn]; rfl)))
      exact ⟨B, [], S, fin (past' := []) o1 o2 ne_rs10 b c, ⟨tw, b, c, hb, hu, h1, h2, h3, h4⟩, rfl⟩
    · rw [List.concat_eq_append] at z
      subst z
      obtain ⟨es, e', he, hd, hc, hb'⟩ := hb.undo
      obtain ⟨S1, a1, a2, a3⟩ := undo_ok b hd he (by omega)
      have c1 := c.fr a3 (by simp; omega)
      obtain ⟨S2, d1, d2, d3⟩ := undo_ok c1 hd he (by omega)
      have o1 := outcome_ok _ _ _ _ _ (call0_ok b (y := .int 0) (z := .int 0) a1)
      have o2 := outcome_ok _ _ _ _ _ (call0_ok c1 (y := .int 0) (z := .int 0) d1)
      have b2 := a2.fr d3 (by simp; omega)
      refine ⟨_, past', S2, fin (past' := []) o1 o2 (by rw [ne_ret]; simp) b2 d2, ⟨(tw.fr a3 (by simp; omega)).fr d3 (by simp; omega), b2, d2, hb', hu, h1, h2, h3, h4⟩, ?_⟩
      simp
      omega
  · rcases List.eq_nil_or_concat B.undone with z | ⟨us, ⟨o, l⟩, z⟩
    · have o1 := oc_undo _ _ _ _ (call1_exc b (y := .int 0) (z := .int 0) (redo_none b z))
      have o2 := oc_undo _ _ _ _ (call1_exc c (y := .int 0) (z := .int 0) (redo_none c z))
      exact ⟨B, past, S, fin (past' := []) o1 o2 ne_rs10 b c, ⟨tw, b, c, hb, hu, h1, h2, h3, h4⟩, rfl⟩
    · rw [List.concat_eq_append] at z
      have hb' := hb.redo z
      have hz := congrArg List.length z
      rw [List.length_append] at hz
      obtain ⟨S1, a1, a2, a3⟩ := redo_ok b z (by omega) (by omega)
      have c1 := c.fr a3 (by simp; omega)
      obtain ⟨S2, d1, d2, d3⟩ := redo_ok c1 z (by omega) (by omega)
      have o1 := outcome_ok _ _ _ _ _ (call1_ok b (y := .int 0) (z := .int 0) a1)
      have o2 := outcome_ok _ _ _ _ _ (call1_ok c1 (y := .int 0) (z := .int 0) d1)
      have b2 := a2.fr d3 (by simp; omega)
      refine ⟨_, _, S2, fin (past' := []) o1 o2 (by rw [ne_ret]; simp) b2 d2, ⟨(tw.fr a3 (by simp; omega)).fr d3 (by simp; omega), b2, d2, hb', hu, h1, h2, h3, h4⟩, ?_⟩
      simp at hz ⊢
      omega
theorem oc_load {d : D} {st : Sto} (h : m_load [d] st = .exc "InvalidText" st) : m__law_outcome [.int 2, .tup [.non, d, .non]] st = .ok (rsd 5) st := oc_text _ _ _ _ (call2_exc h)
theorem step4_73 (hn : ns.length ≤ 63) {body : Str} (hf : 46 ∉ TL.tl body) (hl : body.length ≤ 5000) (w : Town ns S t) (h0 : 0 ≤ t) (hb : t < 1000) :
    ∃ y9 S', l_law_4 (e73 ns x3 x4 x5 x6 (some (.str (body ++ "."))) x8 x9 x10) S = .nx (e73 ns x3 x4 x5 x6 (some (.str (body ++ "."))) x8 y9 x10) S' ∧ Town ns S' (t + 1) := by
  have ll : (body ++ ".").length = body.length + 1 := by rw [str_len, dot_len]
  have l1 : (body ++ ".").length ≤ 100000 := by omega
  obtain ⟨v, S1, v1, v2, v3, v4, v5⟩ := draw_at hn w h0 (by omega) (m := ((body ++ ".").length : Int)) (by omega) (by omega)
  refine ⟨some (.int (1 + v)), S1, ?_, v4⟩
  have sh := cut_short body hf (k := ((body ++ ".").length : Int) - (1 + v)) (by omega)
  have sl := cut_shortL body (k := ((body ++ ".").length : Int) - (1 + v)) (by omega)
  have oc := oc_load (load_cut (by omega) sh S1)
  simp [l_law_4, l1, v3, oc, rs_text, ne_rs5]
def bads73 (x : Str) : List D := [.non, .int 5, .bl true, .lst [.str x], .tup [.str x]]
theorem bad73 {x : Str} : ∀ d ∈ bads73 x, ∀ S, m_load [d] S = .exc "InvalidText" S := by
  intro d h S
  unfold bads73 at h
  simp only [List.mem_cons, List.not_mem_nil, or_false] at h
  rcases h with rfl | rfl | rfl | rfl | rfl
  all_goals exact load_no rfl (by kernel_rfl)
theorem tail73 {x : Str} (S : Sto) : b_law_11 (e73 ns x3 x4 x5 x6 (some (.str x)) x8 x9 x10) S = .rt (.bl true) S := by
  have h : fComp (fSrc (fVar 10)) (.nm 11) (fTest (fBin gNe (fCall m__law_outcome (fCons (fC (.int 2)) (fCons (fTup (fCons (fC .non) (fCons (fVar 11) (fCons (fC .non) fNil)))) fNil))) (fCall m__law_raises (fCons (fC (.str "text")) fNil)))) (fVar 11) [11]
      (e73 ns x3 x4 x5 x6 (some (.str x)) x8 x9 (some (.lst (bads73 x)))) S = .ok (.lst []) S := by
    rw [comp_fix (ds := (bads73 x).map id) (st1 := S) (by simp)]
    rw [compF_filter id (fun _ => false) id]
    · simp
    · simp [bads73]
    · intro d hd
      refine ⟨_, rfl, ?_, fun h => by cases h⟩
      have oc := oc_load (bad73 d hd S)
      simp [oc, rs_text, ne_rs5]
  have e0 : gEq (.lst []) (.lst []) S = some (.bl true) := gEq_d ([] : List Int) [] S
  unfold bads73 at h
  simp [b_law_11, b_law_12, h, e0, -e_comp]
end
end Fb

namespace Fb
open PySem PySem.Spec PyProof.Rows L2
/-! ### the head -/
def dd__law_town : He.DefD := ⟨("_law_town", none), "_law_town", "_law_town", defArgs s__law_town, defBody s__law_town, defScope s__law_town, [], []⟩
def dd_is_between : He.DefD := ⟨("is_between", none), "is_between", "is_between", defArgs s_is_between, defBody s_is_between, defScope s_is_between, [], []⟩
def dd_does_close : He.DefD := ⟨("does_close", none), "does_close", "does_close", defArgs s_does_close, defBody s_does_close, defScope s_does_close, [], []⟩
def dd_is_ring : He.DefD := ⟨("is_ring", none), "is_ring", "is_ring", defArgs s_is_ring, defBody s_is_ring, defScope s_is_ring, [], []⟩
def dd_check_ring : He.DefD := ⟨("check_ring", none), "check_ring", "check_ring", defArgs s_check_ring, defBody s_check_ring, defScope s_check_ring, [], []⟩
def dd_Bench___init__ : He.DefD := ⟨("Bench", some "__init__"), "__init__", "Bench.__init__", defArgs s_Bench___init__, defBody s_Bench___init__, defScope s_Bench___init__, [], []⟩
def dd__law_draw : He.DefD := ⟨("_law_draw", none), "_law_draw", "_law_draw", defArgs s__law_draw, defBody s__law_draw, defScope s__law_draw, [], []⟩
def dd__law_closes : He.DefD := ⟨("_law_closes", none), "_law_closes", "_law_closes", defArgs s__law_closes, defBody s__law_closes, defScope s__law_closes, [], []⟩
def dd__law_ring : He.DefD := ⟨("_law_ring", none), "_law_ring", "_law_ring", defArgs s__law_ring, defBody s__law_ring, defScope s__law_ring, [], []⟩
def dd_length_of : He.DefD := ⟨("length_of", none), "length_of", "length_of", defArgs s_length_of, defBody s_length_of, defScope s_length_of, [], []⟩
def dd_ring_text : He.DefD := ⟨("ring_text", none), "ring_text", "ring_text", defArgs s_ring_text, defBody s_ring_text, defScope s_ring_text, [], []⟩
def dd_parse_ring : He.DefD := ⟨("parse_ring", none), "parse_ring", "parse_ring", defArgs s_parse_ring, defBody s_parse_ring, defScope s_parse_ring, [], []⟩
def dd_check_number : He.DefD := ⟨("check_number", none), "check_number", "check_number", defArgs s_check_number, defBody s_check_number, defScope s_check_number, [], []⟩
def dd_with_length : He.DefD := ⟨("with_length", none), "with_length", "with_length", defArgs s_with_length, defBody s_with_length, defScope s_with_length, [], []⟩
def dd_Bench_perform : He.DefD := ⟨("Bench", some "perform"), "perform", "Bench.perform", defArgs s_Bench_perform, defBody s_Bench_perform, defScope s_Bench_perform, [], []⟩
def dd_kind_of : He.DefD := ⟨("kind_of", none), "kind_of", "kind_of", defArgs s_kind_of, defBody s_kind_of, defScope s_kind_of, [], []⟩
def dd_Bench_change : He.DefD := ⟨("Bench", some "change"), "change", "Bench.change", defArgs s_Bench_change, defBody s_Bench_change, defScope s_Bench_change, [], []⟩
def dd_Bench_exchange : He.DefD := ⟨("Bench", some "exchange"), "exchange", "Bench.exchange", defArgs s_Bench_exchange, defBody s_Bench_exchange, defScope s_Bench_exchange, [], []⟩
def dd_Bench_undo : He.DefD := ⟨("Bench", some "undo"), "undo", "Bench.undo", defArgs s_Bench_undo, defBody s_Bench_undo, defScope s_Bench_undo, [], []⟩
def dd_load : He.DefD := ⟨("load", none), "load", "load", defArgs s_load, defBody s_load, defScope s_load, [], []⟩
def dd_Bench_redo : He.DefD := ⟨("Bench", some "redo"), "redo", "Bench.redo", defArgs s_Bench_redo, defBody s_Bench_redo, defScope s_Bench_redo, [], []⟩
def dd__law_call : He.DefD := ⟨("_law_call", none), "_law_call", "_law_call", defArgs s__law_call, defBody s__law_call, defScope s__law_call, [], []⟩
def dd__law_name : He.DefD := ⟨("_law_name", none), "_law_name", "_law_name", defArgs s__law_name, defBody s__law_name, defScope s__law_name, [], []⟩
def dd__law_outcome : He.DefD := ⟨("_law_outcome", none), "_law_outcome", "_law_outcome", defArgs s__law_outcome, defBody s__law_outcome, defScope s__law_outcome, [], []⟩
def dd_Bench_ring : He.DefD := ⟨("Bench", some "ring"), "ring", "Bench.ring", defArgs s_Bench_ring, defBody s_Bench_ring, defScope s_Bench_ring, [], []⟩
def dd_operation_text : He.DefD := ⟨("operation_text", none), "operation_text", "operation_text", defArgs s_operation_text, defBody s_operation_text, defScope s_operation_text, [], []⟩
def dd_save : He.DefD := ⟨("save", none), "save", "save", defArgs s_save, defBody s_save, defScope s_save, [], []⟩
def dd_Bench___eq__ : He.DefD := ⟨("Bench", some "__eq__"), "__eq__", "Bench.__eq__", defArgs s_Bench___eq__, defBody s_Bench___eq__, defScope s_Bench___eq__, [], []⟩
def dd_Bench___str__ : He.DefD := ⟨("Bench", some "__str__"), "__str__", "Bench.__str__", defArgs s_Bench___str__, defBody s_Bench___str__, defScope s_Bench___str__, [], []⟩
def dd__law_raises : He.DefD := ⟨("_law_raises", none), "_law_raises", "_law_raises", defArgs s__law_raises, defBody s__law_raises, defScope s__law_raises, [], []⟩
def dd_law : He.DefD := ⟨("law", none), "law", "law", defArgs s_law, defBody s_law, defScope s_law, [], []⟩
def fn0 : List He.DefD := [dd__law_town, dd_is_between, dd_does_close, dd_is_ring, dd_check_ring, dd_Bench___init__, dd__law_draw, dd__law_closes, dd__law_ring, dd_length_of, dd_ring_text, dd_parse_ring, dd_check_number, dd_with_length, dd_Bench_perform, dd_kind_of, dd_Bench_change, dd_Bench_exchange, dd_Bench_undo, dd_load, dd_Bench_redo, dd__law_call, dd__law_name, dd__law_outcome, dd_Bench_ring, dd_operation_text, dd_save, dd_Bench___eq__, dd_Bench___str__, dd__law_raises]
def fn1 : List He.DefD := [dd_law]
def fn : List He.DefD := fn0 ++ fn1
def fa0 : List He.Fa := [.glo "_law_town", .glo "is_between", .glo "does_close", .glo "is_ring", .glo "check_ring", .glo "_law_draw", .glo "_law_closes", .glo "_law_ring", .glo "length_of", .glo "ring_text", .glo "parse_ring", .glo "check_number", .glo "with_length", .glo "kind_of", .glo "load", .glo "_law_call", .glo "_law_name", .glo "_law_outcome", .glo "operation_text", .glo "save", .glo "_law_raises", .glo "law", .glo "Bench", .cls "Bench", .noat "Bench" "begun", .noat "Bench" "current", .noat "Bench" "earlier", .noat "Bench" "done", .noat "Bench" "undone", .meth "Bench" "ring"]
def fa1 : List He.Fa := [.meth "Bench" "__eq__", .meth "Bench" "__str__", .meth "Bench" "change", .meth "Bench" "exchange", .meth "Bench" "undo", .meth "Bench" "redo", .meth "Bench" "perform", .mkr "Bench", .free "range", .free "isinstance", .free "str", .free "len", .free "list", .free "tuple", .free "all", .free "int", .free "bool", .free "max", .free "sum", .free "min", .free "sorted", .free "ValueError", .glo "InvalidRing", .exc "InvalidRing", .glo "BarError", .exc "BarError", .glo "InvalidNumber", .exc "InvalidNumber", .glo "InvalidKind", .exc "InvalidKind"]
def fa2 : List He.Fa := [.glo "InvalidLength", .exc "InvalidLength", .glo "InvalidPerimeter", .exc "InvalidPerimeter", .glo "InvalidText", .exc "InvalidText", .glo "NoPosition", .exc "NoPosition", .glo "ZeroDiagonal", .exc "ZeroDiagonal", .glo "NoRing", .exc "NoRing", .glo "TooLong", .exc "TooLong", .glo "NothingToUndo", .exc "NothingToUndo"]
def fa : List He.Fa := fa0 ++ fa1 ++ fa2
def ex (K : PySem.W.Frag) : Bool := noList K && isiB K exsL && exmB K "BarError" exsL && clsB K "Bench"
abbrev RR : PySem.W.OpenRow := PySem.W.OpenLaw.row PySem.Challenge.rw_fourbars_k73_saved_benches
def loose0 : List Str := ["is_between", "does_close", "is_ring", "check_ring", "check_number", "kind_of", "with_length", "ring_text", "length_of", "parse_ring", "operation_text", "save", "load", "_law_town", "_law_draw", "_law_outcome", "_law_name", "_law_raises", "_law_closes", "_law_ring", "_law_call", "BarError", "InvalidRing", "InvalidNumber", "InvalidKind", "InvalidLength", "InvalidPerimeter", "InvalidText", "NoPosition", "ZeroDiagonal"]
def loose1 : List Str := ["NoRing", "TooLong", "NothingToUndo", "Bench"]
def loose : List Str := loose0 ++ loose1
abbrev hk : PySem.W.Hook := He.hookX 6 fa fn [] [] ex
def ob (s : PySem.W.SharedT) : He.AlX := He.obsX 6 fa fn [] [] ex (HandSHeadRun.getT s)
theorem ob_eq (s : PySem.W.SharedT) : ob s = hk.obs s.abs := He.obsX_eq (HandSHeadRun.getT_eq s)
theorem run_top (w : World) : HandSHeadRun.RunEq RR (PySem.W.view RR.prog [41]) hk ob 4000 loose w := by
  intro os
  kernel_rfl
theorem facts {K : PySem.W.Frag} {h : Heap} {mg : Str → Option Value} (X : K.In h) (G : h.Ns mainGlobals mg) (c : He.SaysD fa fn K) (hx : ex K = true) : Fx K mg where
  d__law_town := ⟨c.def_ 0 (d := dd__law_town) rfl, He.glo_ok X G (c.fact 0 (f := .glo "_law_town") rfl)⟩
  d_is_between := ⟨c.def_ 1 (d := dd_is_between) rfl, He.glo_ok X G (c.fact 1 (f := .glo "is_between") rfl)⟩
  d_does_close := ⟨c.def_ 2 (d := dd_does_close) rfl, He.glo_ok X G (c.fact 2 (f := .glo "does_close") rfl)⟩
  d_is_ring := ⟨c.def_ 3 (d := dd_is_ring) rfl, He.glo_ok X G (c.fact 3 (f := .glo "is_ring") rfl)⟩
  d_check_ring := ⟨c.def_ 4 (d := dd_check_ring) rfl, He.glo_ok X G (c.fact 4 (f := .glo "check_ring") rfl)⟩
  d_Bench___init__ := ⟨c.def_ 5 (d := dd_Bench___init__) rfl⟩
  d__law_draw := ⟨c.def_ 6 (d := dd__law_draw) rfl, He.glo_ok X G (c.fact 5 (f := .glo "_law_draw") rfl)⟩
  d__law_closes := ⟨c.def_ 7 (d := dd__law_closes) rfl, He.glo_ok X G (c.fact 6 (f := .glo "_law_closes") rfl)⟩
  d__law_ring := ⟨c.def_ 8 (d := dd__law_ring) rfl, He.glo_ok X G (c.fact 7 (f := .glo "_law_ring") rfl)⟩
  d_length_of := ⟨c.def_ 9 (d := dd_length_of) rfl, He.glo_ok X G (c.fact 8 (f := .glo "length_of") rfl)⟩
  d_ring_text := ⟨c.def_ 10 (d := dd_ring_text) rfl, He.glo_ok X G (c.fact 9 (f := .glo "ring_text") rfl)⟩
  d_parse_ring := ⟨c.def_ 11 (d := dd_parse_ring) rfl, He.glo_ok X G (c.fact 10 (f := .glo "parse_ring") rfl)⟩
  d_check_number := ⟨c.def_ 12 (d := dd_check_number) rfl, He.glo_ok X G (c.fact 11 (f := .glo "check_number") rfl)⟩
  d_with_length := ⟨c.def_ 13 (d := dd_with_length) rfl, He.glo_ok X G (c.fact 12 (f := .glo "with_length") rfl)⟩
  d_Bench_perform := ⟨c.def_ 14 (d := dd_Bench_perform) rfl⟩
  d_kind_of := ⟨c.def_ 15 (d := dd_kind_of) rfl, He.glo_ok X G (c.fact 13 (f := .glo "kind_of") rfl)⟩
  d_Bench_change := ⟨c.def_ 16 (d := dd_Bench_change) rfl⟩
  d_Bench_exchange := ⟨c.def_ 17 (d := dd_Bench_exchange) rfl⟩
  d_Bench_undo := ⟨c.def_ 18 (d := dd_Bench_undo) rfl⟩
  d_load := ⟨c.def_ 19 (d := dd_load) rfl, He.glo_ok X G (c.fact 14 (f := .glo "load") rfl)⟩
  d_Bench_redo := ⟨c.def_ 20 (d := dd_Bench_redo) rfl⟩
  d__law_call := ⟨c.def_ 21 (d := dd__law_call) rfl, He.glo_ok X G (c.fact 15 (f := .glo "_law_call") rfl)⟩
  d__law_name := ⟨c.def_ 22 (d := dd__law_name) rfl, He.glo_ok X G (c.fact 16 (f := .glo "_law_name") rfl)⟩
  d__law_outcome := ⟨c.def_ 23 (d := dd__law_outcome) rfl, He.glo_ok X G (c.fact 17 (f := .glo "_law_outcome") rfl)⟩
  d_Bench_ring := ⟨c.def_ 24 (d := dd_Bench_ring) rfl⟩
  d_operation_text := ⟨c.def_ 25 (d := dd_operation_text) rfl, He.glo_ok X G (c.fact 18 (f := .glo "operation_text") rfl)⟩
  d_save := ⟨c.def_ 26 (d := dd_save) rfl, He.glo_ok X G (c.fact 19 (f := .glo "save") rfl)⟩
  d_Bench___eq__ := ⟨c.def_ 27 (d := dd_Bench___eq__) rfl⟩
  d_Bench___str__ := ⟨c.def_ 28 (d := dd_Bench___str__) rfl⟩
  d__law_raises := ⟨c.def_ 29 (d := dd__law_raises) rfl, He.glo_ok X G (c.fact 20 (f := .glo "_law_raises") rfl)⟩
  d_law := ⟨c.def_ 30 (d := dd_law) rfl, He.glo_ok X G (c.fact 21 (f := .glo "law") rfl)⟩
  c_Bench := ⟨He.glo_ok X G (c.fact 22 (f := .glo "Bench") rfl), He.cls_ok (c.fact 23 (f := .cls "Bench") rfl)⟩
  a_Bench_begun := He.noat_ok (c.fact 24 (f := .noat "Bench" "begun") rfl)
  a_Bench_current := He.noat_ok (c.fact 25 (f := .noat "Bench" "current") rfl)
  a_Bench_earlier := He.noat_ok (c.fact 26 (f := .noat "Bench" "earlier") rfl)
  a_Bench_done := He.noat_ok (c.fact 27 (f := .noat "Bench" "done") rfl)
  a_Bench_undone := He.noat_ok (c.fact 28 (f := .noat "Bench" "undone") rfl)
  h_Bench_ring := He.meth_ok (c.fact 29 (f := .meth "Bench" "ring") rfl)
  h_Bench___eq__ := He.meth_ok (c.fact 30 (f := .meth "Bench" "__eq__") rfl)
  h_Bench___str__ := He.meth_ok (c.fact 31 (f := .meth "Bench" "__str__") rfl)
  h_Bench_change := He.meth_ok (c.fact 32 (f := .meth "Bench" "change") rfl)
  h_Bench_exchange := He.meth_ok (c.fact 33 (f := .meth "Bench" "exchange") rfl)
  h_Bench_undo := He.meth_ok (c.fact 34 (f := .meth "Bench" "undo") rfl)
  h_Bench_redo := He.meth_ok (c.fact 35 (f := .meth "Bench" "redo") rfl)
  h_Bench_perform := He.meth_ok (c.fact 36 (f := .meth "Bench" "perform") rfl)
  k_Bench := He.mkr_ok (c.fact 37 (f := .mkr "Bench") rfl)
  n_range := He.free_ok X G (c.fact 38 (f := .free "range") rfl)
  n_isinstance := He.free_ok X G (c.fact 39 (f := .free "isinstance") rfl)
  n_str := He.free_ok X G (c.fact 40 (f := .free "str") rfl)
  n_len := He.free_ok X G (c.fact 41 (f := .free "len") rfl)
  n_list := He.free_ok X G (c.fact 42 (f := .free "list") rfl)
  n_tuple := He.free_ok X G (c.fact 43 (f := .free "tuple") rfl)
  n_all := He.free_ok X G (c.fact 44 (f := .free "all") rfl)
  n_int := He.free_ok X G (c.fact 45 (f := .free "int") rfl)
  n_bool := He.free_ok X G (c.fact 46 (f := .free "bool") rfl)
  n_max := He.free_ok X G (c.fact 47 (f := .free "max") rfl)
  n_sum := He.free_ok X G (c.fact 48 (f := .free "sum") rfl)
  n_min := He.free_ok X G (c.fact 49 (f := .free "min") rfl)
  n_sorted := He.free_ok X G (c.fact 50 (f := .free "sorted") rfl)
  n_ValueError := He.free_ok X G (c.fact 51 (f := .free "ValueError") rfl)
  e_InvalidRing := by
    obtain ⟨a, b, d, e⟩ := He.exc_ok (c.fact 53 (f := .exc "InvalidRing") rfl)
    exact ⟨He.glo_ok X G (c.fact 52 (f := .glo "InvalidRing") rfl), a, b, d, e⟩
  e_BarError := by
    obtain ⟨a, b, d, e⟩ := He.exc_ok (c.fact 55 (f := .exc "BarError") rfl)
    exact ⟨He.glo_ok X G (c.fact 54 (f := .glo "BarError") rfl), a, b, d, e⟩
  e_InvalidNumber := by
    obtain ⟨a, b, d, e⟩ := He.exc_ok (c.fact 57 (f := .exc "InvalidNumber") rfl)
    exact ⟨He.glo_ok X G (c.fact 56 (f := .glo "InvalidNumber") rfl), a, b, d, e⟩
  e_InvalidKind := by
    obtain ⟨a, b, d, e⟩ := He.exc_ok (c.fact 59 (f := .exc "InvalidKind") rfl)
    exact ⟨He.glo_ok X G (c.fact 58 (f := .glo "InvalidKind") rfl), a, b, d, e⟩
  e_InvalidLength := by
    obtain ⟨a, b, d, e⟩ := He.exc_ok (c.fact 61 (f := .exc "InvalidLength") rfl)
    exact ⟨He.glo_ok X G (c.fact 60 (f := .glo "InvalidLength") rfl), a, b, d, e⟩
  e_InvalidPerimeter := by
    obtain ⟨a, b, d, e⟩ := He.exc_ok (c.fact 63 (f := .exc "InvalidPerimeter") rfl)
    exact ⟨He.glo_ok X G (c.fact 62 (f := .glo "InvalidPerimeter") rfl), a, b, d, e⟩
  e_InvalidText := by
    obtain ⟨a, b, d, e⟩ := He.exc_ok (c.fact 65 (f := .exc "InvalidText") rfl)
    exact ⟨He.glo_ok X G (c.fact 64 (f := .glo "InvalidText") rfl), a, b, d, e⟩
  e_NoPosition := by
    obtain ⟨a, b, d, e⟩ := He.exc_ok (c.fact 67 (f := .exc "NoPosition") rfl)
    exact ⟨He.glo_ok X G (c.fact 66 (f := .glo "NoPosition") rfl), a, b, d, e⟩
  e_ZeroDiagonal := by
    obtain ⟨a, b, d, e⟩ := He.exc_ok (c.fact 69 (f := .exc "ZeroDiagonal") rfl)
    exact ⟨He.glo_ok X G (c.fact 68 (f := .glo "ZeroDiagonal") rfl), a, b, d, e⟩
  e_NoRing := by
    obtain ⟨a, b, d, e⟩ := He.exc_ok (c.fact 71 (f := .exc "NoRing") rfl)
    exact ⟨He.glo_ok X G (c.fact 70 (f := .glo "NoRing") rfl), a, b, d, e⟩
  e_TooLong := by
    obtain ⟨a, b, d, e⟩ := He.exc_ok (c.fact 73 (f := .exc "TooLong") rfl)
    exact ⟨He.glo_ok X G (c.fact 72 (f := .glo "TooLong") rfl), a, b, d, e⟩
  e_NothingToUndo := by
    obtain ⟨a, b, d, e⟩ := He.exc_ok (c.fact 75 (f := .exc "NothingToUndo") rfl)
    exact ⟨He.glo_ok X G (c.fact 74 (f := .glo "NothingToUndo") rfl), a, b, d, e⟩
  o_Bench := clsB_ok (He.ba hx).2
  isi := isiB_ok (He.ba (He.ba (He.ba hx).1).1).2 (fun y hy => by
    unfold exsL at hy
    simp only [List.mem_cons, List.not_mem_nil, or_false] at hy
    rcases hy with rfl | rfl | rfl | rfl | rfl | rfl | rfl | rfl | rfl | rfl | rfl
    · exact He.glo_ok X G (c.fact 52 (f := .glo "InvalidRing") rfl)
    · exact He.glo_ok X G (c.fact 56 (f := .glo "InvalidNumber") rfl)
    · exact He.glo_ok X G (c.fact 58 (f := .glo "InvalidKind") rfl)
    · exact He.glo_ok X G (c.fact 60 (f := .glo "InvalidLength") rfl)
    · exact He.glo_ok X G (c.fact 62 (f := .glo "InvalidPerimeter") rfl)
    · exact He.glo_ok X G (c.fact 64 (f := .glo "InvalidText") rfl)
    · exact He.glo_ok X G (c.fact 66 (f := .glo "NoPosition") rfl)
    · exact He.glo_ok X G (c.fact 68 (f := .glo "ZeroDiagonal") rfl)
    · exact He.glo_ok X G (c.fact 70 (f := .glo "NoRing") rfl)
    · exact He.glo_ok X G (c.fact 72 (f := .glo "TooLong") rfl)
    · exact He.glo_ok X G (c.fact 74 (f := .glo "NothingToUndo") rfl))
  exm := exmB_ok (He.ba (He.ba hx).1).2 (fun y hy => by
    unfold exsL at hy
    simp only [List.mem_cons, List.not_mem_nil, or_false] at hy
    rcases hy with rfl | rfl | rfl | rfl | rfl | rfl | rfl | rfl | rfl | rfl | rfl
    · exact He.glo_ok X G (c.fact 52 (f := .glo "InvalidRing") rfl)
    · exact He.glo_ok X G (c.fact 56 (f := .glo "InvalidNumber") rfl)
    · exact He.glo_ok X G (c.fact 58 (f := .glo "InvalidKind") rfl)
    · exact He.glo_ok X G (c.fact 60 (f := .glo "InvalidLength") rfl)
    · exact He.glo_ok X G (c.fact 62 (f := .glo "InvalidPerimeter") rfl)
    · exact He.glo_ok X G (c.fact 64 (f := .glo "InvalidText") rfl)
    · exact He.glo_ok X G (c.fact 66 (f := .glo "NoPosition") rfl)
    · exact He.glo_ok X G (c.fact 68 (f := .glo "ZeroDiagonal") rfl)
    · exact He.glo_ok X G (c.fact 70 (f := .glo "NoRing") rfl)
    · exact He.glo_ok X G (c.fact 72 (f := .glo "TooLong") rfl)
    · exact He.glo_ok X G (c.fact 74 (f := .glo "NothingToUndo") rfl))
end Fb
open PySem PySem.W PySem.Calls PyProof.Rows
theorem Fb.holds_of (H : ∀ ns : List Int, ns.length ≤ 63 → ∃ st, Fb.m_law [.lst (ns.map Fb.D.int)] [] = .ok (.bl true) st) : PySem.Challenge.rw_fourbars_k73_saved_benches.Holds := by
  w_on; o_law
  refine HandSHeadRun.head_any (r := OpenLaw.row PySem.Challenge.rw_fourbars_k73_saved_benches) (q := view (OpenLaw.row PySem.Challenge.rw_fourbars_k73_saved_benches).prog [41]) (H := Fb.hk) (ob := Fb.ob) (M := 4000) (loose := Fb.loose) (d := HandSHeadRun.topDef (OpenLaw.row PySem.Challenge.rw_fourbars_k73_saved_benches).prog 41) (kwd := []) Fb.ob_eq
    (by kernel_rfl) (fun s => by kernel_rfl) Fb.run_top (by kernel_rfl) (by kernel_rfl) (by kernel_rfl) (by rfl) (by first | assumption | decide +kernel) (by decide +kernel) ⟨rfl, rfl, rfl, rfl, rfl, by decide +kernel⟩ ?hw ?hc
  case hw => w_witness2
  case hc =>
    refine L2.walk_ofE (l := PySem.Challenge.rw_fourbars_k73_saved_benches) (n := 63) (k := 9) (x := "_law_script") (CX := Fb.CXw (PySem.Challenge.rw_fourbars_k73_saved_benches).prog) rfl (by decide) (by kernel_rfl) ⟨rfl, by decide, by decide⟩ ?F Fb.noExc
    intro w mg fa h Y G hmg0
    obtain ⟨K, KX, c⟩ := Y
    have hmg : mg ("law" : PySem.Str) = some (.ref fa) := by
      have e : (HandSHeadRun.topDef (OpenLaw.row PySem.Challenge.rw_fourbars_k73_saved_benches).prog 41).name = ("law" : PySem.Str) := by kernel_rfl
      rw [← e]
      exact hmg0
    exact Fb.law_end (x := "_law_script") (st := Fb.s_law) (He.ba (He.ba (He.ba c.more).1).1).1 KX G hmg (Fb.facts KX G c.t.d c.more).d_law (fun _ _ _ _ _ _ us hl => match us, hl with | [_], _ => rfl) (fun base => Fb.ok_law (Fb.facts KX G c.t.d c.more)) H

namespace Fb
open PySem
section
variable {ns R0 : List Int} {t : Int} {u : Nat} {B : Bn} {past : List (Op × List Int)} {S : Sto} {x3 x4 x5 x6 x7 x8 x9 x10 : Option D}
theorem fin10 (hn : ns.length ≤ 63) {body : Str} (hf : 46 ∉ TL.tl body) (hl : body.length ≤ 5000) (w : Town ns S t) (h0 : 0 ≤ t) (hb : t < 500) :
    ∃ S', b_law_10 (e73 ns x3 x4 x5 x6 (some (.str (body ++ "."))) x8 x9 x10) S = .rt (.bl true) S' := by
  obtain ⟨env', S', e1, y3, y9, t', rfl, _⟩ := forF_all (t := .nm 3) (body := l_law_4) (fun i : Nat => D.int (0 + (i : Int))) (fun xs env st => ∃ y3 y9 t', env = e73 ns y3 x4 x5 x6 (some (.str (body ++ "."))) x8 y9 x10 ∧ Town ns st t' ∧ 0 ≤ t' ∧ t' + xs.length < 600) (List.range 4) (e73 ns x3 x4 x5 x6 (some (.str (body ++ "."))) x8 x9 x10) S
    ⟨x3, x9, t, rfl, w, h0, by simp; omega⟩ (by
    rintro x xs env st ⟨y3, y9, t', rfl, w, h0, hb⟩
    rw [List.length_cons] at hb
    obtain ⟨z9, S2, e2, w2⟩ := step4_73 (x3 := some (.int (0 + (x : Int)))) (x4 := x4) (x5 := x5) (x6 := x6) (x8 := x8) (x9 := y9) (x10 := x10) hn hf hl w h0 (by omega)
    exact ⟨_, _, _, rfl, e2, _, _, _, rfl, w2, by omega, by omega⟩)
  refine ⟨S', ?_⟩
  have e1' : forF (.nm 3) l_law_4 [.int 0, .int 1, .int 2, .int 3] (e73 ns x3 x4 x5 x6 (some (.str (body ++ "."))) x8 x9 x10) S = _ := e1
  have tl := tail73 (ns := ns) (x3 := y3) (x4 := x4) (x5 := x5) (x6 := x6) (x := body ++ ".") (x8 := x8) (x9 := y9) (x10 := x10) S'
  simp [b_law_10, e1', tl, -e_for1]
def ways : List Int := [1, 1, 1, 1, 1, 1, 0, 0, 0, 0, 0, 0, 0, 0, 0, 0, 0, 0, 1, 1, 1, 1]
theorem fin9 (hn : ns.length ≤ 63) {body : Str} (hf : 46 ∉ TL.tl body) (hbl : body.length ≤ 5000) {k e d u' : Nat} (I : K73 ns R0 t u k e d u' B past S) (h0 : 0 ≤ t) (hb : t < 500) (hl : past.length + B.undone.length ≤ 100) :
    ∃ S', b_law_9 (e73 ns x3 x4 x5 x6 (some (.str (body ++ "."))) (some (.ref k)) x9 x10) S = .rt (.bl true) S' := by
  have src : fSrc (fBin gAdd (fBin gAdd (fBin gMul (fLst (fCons (fC (.int 1)) fNil)) (fC (.int 6))) (fBin gMul (fLst (fCons (fC (.int 0)) fNil)) (fC (.int 12)))) (fBin gMul (fLst (fCons (fC (.int 1)) fNil)) (fC (.int 4)))) (e73 ns x3 x4 x5 x6 (some (.str (body ++ "."))) (some (.ref k)) x9 x10) S = .ok (.fix (ways.map D.int)) S := by rfl
  obtain ⟨env', S', e1, y4, B', past', rfl, I', hl', _⟩ := forF_all (t := .nm 4) (body := l_law_3) D.int (fun xs env st => ∃ y4 B' past', env = e73 ns x3 y4 x5 x6 (some (.str (body ++ "."))) (some (.ref k)) x9 x10 ∧ K73 ns R0 t u k e d u' B' past' st ∧ past'.length + B'.undone.length ≤ 100 ∧ ∀ w ∈ xs, w = 0 ∨ w = 1) ways (e73 ns x3 x4 x5 x6 (some (.str (body ++ "."))) (some (.ref k)) x9 x10) S
    ⟨x4, B, past, rfl, I, hl, by decide⟩ (by
    rintro w xs env st ⟨y4, B', past', rfl, I', hl', hw⟩
    obtain ⟨B2, past2, S2, e2, I2, l2⟩ := step3_73 (x3 := x3) (x5 := x5) (x6 := x6) (x7 := some (.str (body ++ "."))) (x9 := x9) (x10 := x10) (hw w List.mem_cons_self) I' hl'
    exact ⟨_, _, S2, rfl, e2, _, _, _, rfl, I2, by omega, fun w hw' => hw w (List.mem_cons_of_mem _ hw')⟩)
  obtain ⟨S2, t2⟩ := fin10 (x3 := x3) (x4 := y4) (x5 := x5) (x6 := x6) (x8 := some (.ref k)) (x9 := x9) (x10 := x10) hn hf hbl I'.w h0 hb
  refine ⟨S2, ?_⟩
  have lp : sFor (fSrc (fBin gAdd (fBin gAdd (fBin gMul (fLst (fCons (fC (.int 1)) fNil)) (fC (.int 6))) (fBin gMul (fLst (fCons (fC (.int 0)) fNil)) (fC (.int 12)))) (fBin gMul (fLst (fCons (fC (.int 1)) fNil)) (fC (.int 4))))) (.nm 4) l_law_3 (e73 ns x3 x4 x5 x6 (some (.str (body ++ "."))) (some (.ref k)) x9 x10) S =
      .nx (e73 ns x3 y4 x5 x6 (some (.str (body ++ "."))) (some (.ref k)) x9 x10) S' := by
    rw [e_for, src]
    show forL (.fix (ways.map D.int)) (.nm 4) l_law_3 (Src.fix (ways.map D.int)).n 0 _ S = _
    rw [for_fix']
    exact e1
  unfold b_law_9
  rw [e_seq, lp]
  exact t2
theorem cntQ_rows (B : Bn) : cntQ (rowsB B) = B.undone.length := by
  have h1 : ∀ l : List Op, cntQ (l.map fun o => (false, o)) = 0 := by
    intro l
    induction l with
    | nil => rfl
    | cons o l ih => unfold cntQ at ih ⊢; rw [List.map_cons, List.countP_cons, ih]; rfl
  have h2 : ∀ l : List (Op × List Int), cntQ (l.map fun p => (true, p.1)) = l.length := by
    intro l
    induction l with
    | nil => rfl
    | cons o l ih => unfold cntQ at ih ⊢; rw [List.map_cons, List.countP_cons, ih]; rfl
  have h3 := h1 B.done
  have h4 := h2 B.undone.reverse
  rw [List.length_reverse] at h4
  unfold cntQ rowsB at *
  rw [List.countP_append, h3, h4, Nat.zero_add]
theorem fin4 (hn : ns.length ≤ 63) (I : I73 ns R0 t u B past S) (h0 : 0 ≤ t) (hb : t < 500) (hl : past.length + B.undone.length ≤ 50) :
    ∃ S', b_law_4 (e73 ns x3 x4 x5 none none none none none) S = .rt (.bl true) S' := by
  obtain ⟨w, b, hB, hu⟩ := I
  have eb := hB.bg
  have hR := hB.ok
  have hops := path_ops hB.pa
  have hlen := hB.len
  have hd : ∀ o ∈ B.done, okOp o := by
    intro o ho
    rw [hB.dn] at ho
    obtain ⟨x, hx, rfl⟩ := List.mem_map.mp ho
    exact hops x (List.mem_append_left _ hx)
  have hun : ∀ p ∈ B.undone, okOp p.1 := fun p hp => hops p (List.mem_append_right _ (List.mem_reverse.mpr hp))
  obtain ⟨L, sv⟩ := save_ok b (by rw [eb]; exact hR) hd hun (by omega)
  rw [eb] at sv
  obtain ⟨SL, eSL⟩ : ∃ SL, SL = S ++ L := ⟨_, rfl⟩
  rw [← eSL] at sv
  have fL : Fr S SL [] := by rw [eSL]; exact Fr.app _ _ _
  have b2 := b.fr fL (by simp)
  have hps : (rowsB B).map (·.2) = (past ++ B.undone.reverse).map (·.1) := by
    unfold rowsB
    rw [List.map_append, List.map_append, List.map_map, List.map_map, hB.dn]
    congr 1
    show List.map (fun o => o) _ = _
    rw [List.map_id']
  have hcq := cntQ_rows B
  have hPl : (past ++ B.undone.reverse).length = past.length + B.undone.length := by simp
  obtain ⟨S3, e, d, u', C, past', l1, l2, l3, l4, l5, l6, l7, l8, l9⟩ := load_ok hR hB.pa hps (by omega) (by omega) SL
  rw [hcq] at l5
  obtain ⟨a1, a2⟩ := List.append_inj' l4 (by simp; omega)
  have eu : C.undone = B.undone := by
    have := congrArg List.reverse a2
    simpa using this
  subst a1
  have eC : C = B := l3.eq hB eu
  subst eC
  have b3 := b2.fr l6 (by simp)
  have ku : u < SL.length := b2.lt.2.2.2
  have K : K73 ns R0 t u SL.length e d u' C past' S3 := ⟨(w.fr fL (by simp)).fr l6 (by simp), b3, l2, hB, hu, ku, l7, l8, l9⟩
  have hrow : ∀ p ∈ rowsB C, okOp p.2 := by
    intro p hp
    rcases List.mem_append.mp hp with hp | hp
    · obtain ⟨o, ho, rfl⟩ := List.mem_map.mp hp
      exact hd o ho
    · obtain ⟨x, hx, rfl⟩ := List.mem_map.mp hp
      exact hun x (List.mem_reverse.mp hx)
  have hrl : (rowsB C).length = C.done.length + C.undone.length := by simp [rowsB]
  have bl := body_len hR hrow
  have bf := body_free hR hrow
  obtain ⟨S9, t9⟩ := fin9 (x3 := x3) (x4 := x4) (x5 := x5) (x6 := some (T C.cur)) (x9 := none) (x10 := none) hn bf (by omega) K h0 hb (by omega)
  refine ⟨S9, ?_⟩
  have eq := beq_ok l2 b3
  rw [decide_eq_true ⟨rfl, rfl⟩] at eq
  have s1 := bstr_ok b3 hB.okc
  have s2 := bstr_ok l2 hB.okc
  have q0 := b.qi
  have q1 := b2.qi
  have q2 := b3.qi
  have q3 := l2.qi
  have r0 := ring_ok' b
  have r1 := ring_ok' b2
  have r2 := ring_ok' b3
  have r3 := ring_ok' l2
  have nt : ∀ st, gNe (T C.cur) (T C.cur) st = some (.bl false) := fun st => by rw [ne_T2]; simp
  have t8 : b_law_8 (e73 ns x3 x4 x5 (some (T C.cur)) (some (.str (saveT R0 (rowsB C)))) (some (.ref SL.length)) none none) S3 = .rt (.bl true) S9 := by
    unfold saveT
    simp only [b_law_8]
    simp [q2, q3, eq, s1, s2, r3, nt, t9]
  have t7 : b_law_7 (e73 ns x3 x4 x5 (some (T C.cur)) (some (.str (saveT R0 (rowsB C)))) none none none) SL = .rt (.bl true) S9 := by
    simp [b_law_7, l1, t8]
  have t6 : b_law_6 (e73 ns x3 x4 x5 (some (T C.cur)) (some (.str (saveT R0 (rowsB C)))) none none none) SL = .rt (.bl true) S9 := by
    simp [b_law_6, q1, r1, nt, t7]
  simp [b_law_4, b_law_5, q0, r0, sv, t6]
theorem fin2 (hn : ns.length ≤ 63) (I : I73 ns R0 t u B past S) (hU : B.undone = []) (hp : past = []) (h0 : 0 ≤ t) (hb : t < 100) :
    ∃ S', b_law_2 (e73 ns none none none none none none none none) S = .rt (.bl true) S' := by
  subst hp
  obtain ⟨x, S1, p1, p2, p3, p4, p5⟩ := draw_at hn I.w h0 (by omega) (m := 9) (by omega) (by omega)
  obtain ⟨n, rfl⟩ : ∃ n : Nat, x = (n : Int) := ⟨x.toNat, by omega⟩
  obtain ⟨env', S2, e1, y3, y4, y5, t2, u2, B2, past2, rfl, I2, hU2, h02, hb2, hl2⟩ := forF_all (t := .nm 3) (body := l_law_1) (fun i : Nat => D.int (0 + (i : Int)))
    (fun xs env st => ∃ y3 y4 y5 t' u' B' past', env = e73 ns y3 y4 y5 none none none none none ∧ I73 ns R0 t' u' B' past' st ∧ B'.undone = [] ∧ 0 ≤ t' ∧ t' + 3 * xs.length < 200 ∧ past'.length + xs.length ≤ 9) (List.range n) (e73 ns none none none none none none none none) S1
    ⟨none, none, none, t + 1, u, B, [], rfl, I.fr0 p5 p4, hU, by omega, by simp; omega, by simp; omega⟩ (by
    rintro x xs env st ⟨y3, y4, y5, t', u', B', past', rfl, I', hU', h0', hb', hl'⟩
    rw [List.length_cons] at hb' hl'
    obtain ⟨z4, z5, t2, u2, B2, past2, S2, e2, I2, hU2, a1, a2, a3⟩ := step1_73 (x3 := some (.int (0 + (x : Int)))) (x4 := y4) (x5 := y5) (x6 := none) (x7 := none) (x8 := none) (x9 := none) (x10 := none) hn I' h0' (by omega) hU' (by omega)
    exact ⟨_, _, S2, rfl, e2, _, z4, z5, t2, u2, B2, past2, rfl, I2, hU2, a1, by omega, by omega⟩)
  rw [List.length_nil] at hb2 hl2
  obtain ⟨x2, S3, q1, q2, q3, q4, q5⟩ := draw_at hn I2.w h02 (by omega) (m := 5) (by omega) (by omega)
  obtain ⟨n2, rfl⟩ : ∃ n2 : Nat, x2 = (n2 : Int) := ⟨x2.toNat, by omega⟩
  obtain ⟨env', S4, e2, y3', B4, past4, rfl, I4, hl4⟩ := forF_all (t := .nm 3) (body := l_law_2) (fun i : Nat => D.int (0 + (i : Int)))
    (fun xs env st => ∃ y3 B' past', env = e73 ns y3 y4 y5 none none none none none ∧ I73 ns R0 (t2 + 1) u2 B' past' st ∧ past'.length + B'.undone.length ≤ 9) (List.range n2) (e73 ns y3 y4 y5 none none none none none) S3
    ⟨y3, B2, past2, rfl, I2.fr0 q5 q4, by rw [hU2]; simpa using hl2⟩ (by
    rintro x xs env st ⟨y3, B', past', rfl, I', hl'⟩
    obtain ⟨B2, past2, S2, e2, I2, l2⟩ := step2_73 (x3 := some (.int (0 + (x : Int)))) (x4 := y4) (x5 := y5) (x6 := none) (x7 := none) (x8 := none) (x9 := none) (x10 := none) I' (by omega)
    exact ⟨_, _, S2, rfl, e2, _, B2, past2, rfl, I2, by omega⟩)
  obtain ⟨S5, t4⟩ := fin4 (x3 := y3') (x4 := y4) (x5 := y5) hn I4 (by omega) (by omega) (by omega)
  refine ⟨S5, ?_⟩
  have rg : -1000000 ≤ (n : Int) ∧ (n : Int) ≤ 1000000 := by omega
  have rg2 : -1000000 ≤ (n2 : Int) ∧ (n2 : Int) ≤ 1000000 := by omega
  have e1' : forF (.nm 3) l_law_1 (rangeD 0 n) (e73 ns none none none none none none none none) S1 = _ := e1
  have e2' : forF (.nm 3) l_law_2 (rangeD 0 n2) (e73 ns y3 y4 y5 none none none none none) S3 = _ := e2
  have t3 : b_law_3 (e73 ns y3 y4 y5 none none none none none) S2 = .rt (.bl true) S5 := by
    simp [b_law_3, q3, rg2, e2', t4, -e_for1]
  simp [b_law_2, p3, rg, e1', t3, -e_for1]
end
theorem law_true (ns : List Int) (hn : ns.length ≤ 63) : ∃ st, m_law [.lst (ns.map D.int)] [] = .ok (.bl true) st := by
  have ht : m__law_town [.lst (ns.map D.int)] [] = .ok (.ref 0) [Tw 0 ns] := town_ok ns [] hn
  obtain ⟨a, b, c, d, r, t, ho, g1, g2, g3, g4⟩ := ring_ok ns 0 ns [] 12 (by omega) (by omega) rfl hn (by omega) (by omega)
  have hR : okL [a, b, c, d] := ⟨a, b, c, d, rfl, ho⟩
  have i1 := init_ok (ckring_l hR) [Tw t r]
  have n1 := BenchAt.new [Tw t r] [a, b, c, d]
  obtain ⟨S, eS⟩ : ∃ S : Sto, S = [Tw t r] ++ [insB (T [a, b, c, d]) (T [a, b, c, d]) ([Tw t r].length + 1) ([Tw t r].length + 2) ([Tw t r].length + 3), .lst [], .lst [], .lst []] := ⟨_, rfl⟩
  rw [← eS] at i1 n1
  have fS : Fr [Tw t r] S [] := by rw [eS]; exact Fr.app _ _ _
  have I : I73 ns [a, b, c, d] t 4 ⟨[a, b, c, d], [a, b, c, d], [], [], []⟩ [] S := ⟨Town.fr ⟨r, rfl, g3⟩ fS (by simp), n1, ⟨rfl, rfl, rfl, trivial, hR⟩, by omega⟩
  obtain ⟨S2, t2⟩ := fin2 hn I rfl rfl (by omega) (by omega)
  refine ⟨S2, ?_⟩
  have l8 : D.ref ([Tw t r] : Sto).length = D.ref 1 := rfl
  rw [l8] at i1
  simp at i1
  simp [m_law, b_law, ht, b_law_1, g4, i1, t2]
end Fb
theorem PySem.Challenge.cw_fourbars_k73_saved_benches_holds : PySem.Challenge.rw_fourbars_k73_saved_benches.Holds :=
  Fb.holds_of Fb.law_true

