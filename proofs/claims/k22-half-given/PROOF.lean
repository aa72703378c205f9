import PyProof.Rows.All
import Wide.All
import OpenK.AllK
import Wide.FinOn
import HandS.ForMost
import HandS.Exc
import HandS.ExcOwn
import HandS.CallSlots
import HandS.MakeKw
import HandS.TupAny
import HandS.OwnEq
import HandS.IsInst
import KE.KCallOwn
import KE.KFmtOwn
import PyProof.NeKinds
import PyProof.InstNe
import HandS.FStr
import HandS.RaiseMore
import HandS.Replace
import HandS.Text
import HandS.Iter
import HandS.List
import OpenK.KOps
import HandS.Comp
import HandS.Defaults
import HandS.HeadHook2
import HandS.HeadHook4
import HandS.HeadEnd
import HandS.EndBits
import HandS.Head2
import HandS.Style
import HandS.Rev
import KE.GoesMore
import PyProof.EnumMake
import PyProof.ListRange
import PyProof.Rows.RegReprOcc
import HandS.ExcInit
import KE.KExcInit
import KE.KExcIs
import HandS.TryOnly
import PyProof.ExcBaseAll.ValueError
import PyProof.ExcBaseAll.OverflowError
import PyProof.ExcBaseAll.LookupError
import PyProof.InstStoreFacts
import PyProof.StrLaws
import HandS.HotCalls
import KE.KUnpack
import HandS.Dict
import HandS.TupMul
import PyProof.Conv_bool
import PyProof.StrOps
import KE.KIndexOf
import PyProof.IsRules
import KE.KStateDown
import PySem.Challenge.RW_judgeslip_k22_half_given
set_option Elab.async false
set_option linter.all false
set_option maxRecDepth 100000
set_option maxHeartbeats 0
namespace DL
open PySem PySem.Spec PyProof.Rows L2
abbrev Tx := List Nat
def tx (s : String) : Tx := s.toList.map Char.toNat
def sv (x : Tx) : Str := ⟨x.toArray⟩
theorem sv_tx (s : String) : sv (tx s) = Str.ofString s := by
  unfold sv tx
  rw [Str.ofString_eq_toList]
theorem sv_inj {x y : Tx} (h : sv x = sv y) : x = y := by
  unfold sv at h
  injection h with h
  simpa using h
theorem sv_app (x y : Tx) : sv x ++ sv y = sv (x ++ y) := by
  show Str.append _ _ = _
  unfold Str.append sv
  simp
theorem sv_len (x : Tx) : (sv x).length = x.length := by
  unfold sv Str.length
  simp
theorem sv_cps (x : Tx) : (sv x).cps.toList = x := by
  unfold sv
  simp
inductive D where
  | non | bl (b : Bool) | int (i : Int) | str (x : Tx) | tup (xs : List D) | ins (c : String) (fs : List (String × D)) | ref (a : Addr) | ty (n : String)
/-- a mutable object -/
inductive MO where
  | lst (xs : List D) | frl (xs : List D) | ins (c : String) (fs : List (String × D)) | xd (fs : List (String × D)) | dct (kvs : List (Tx × D)) | dci (kvs : List (Int × D)) | dtk (kvs : List (List (Int ⊕ Tx) × D))
abbrev Hm := Addr → Option MO
def mup (M : Hm) (a : Addr) (o : MO) : Hm := fun b => if b = a then some o else M b
def mdel (M : Hm) (a : Addr) : Hm := fun b => if b = a then none else M b
theorem mup_same {M : Hm} {a : Addr} {o : MO} : mup M a o a = some o := if_pos rfl
theorem mup_ne {M : Hm} {a b : Addr} {o : MO} (h : b ≠ a) : mup M a o b = M b := if_neg h
theorem mup_mup {M : Hm} {a : Addr} {o u : MO} : mup (mup M a o) a u = mup M a u := by
  funext b; unfold mup; split <;> rfl
/-- the names of the text: K what the top has left, ca the classes' places -/
structure Zn where
  K : PySem.W.Frag
  ca : String → Addr
  cs : List String
  es : List String
mutual
inductive RD (Z : Zn) (F : Hp) : D → V → Prop
  | non : RD Z F .non .non
  | bl (b : Bool) : RD Z F (.bl b) (.bl b)
  | int (i : Int) : RD Z F (.int i) (.int i)
  | str (x : Tx) : RD Z F (.str x) (.str (sv x))
  | tup {ds : List D} {a : Addr} {vs : List V} : SqT Z.K F a vs → RDs Z F ds vs → RD Z F (.tup ds) (.ref a)
  | ins {c : String} {fs : List (String × D)} {a dx : Addr} {gs : List (Str × V)} : c ∈ Z.cs → F a = some (.ins (Z.ca c) dx gs) → RDf Z F fs gs → RD Z F (.ins c fs) (.ref a)
  | ref (a : Addr) : RD Z F (.ref a) (.ref a)
  | ty (n : String) : RD Z F (.ty n) (.ty n)
inductive RDs (Z : Zn) (F : Hp) : List D → List V → Prop
  | nil : RDs Z F [] []
  | cons {d : D} {v : V} {ds : List D} {vs : List V} : RD Z F d v → RDs Z F ds vs → RDs Z F (d :: ds) (v :: vs)
inductive RDf (Z : Zn) (F : Hp) : List (String × D) → List (Str × V) → Prop
  | nil : RDf Z F [] []
  | cons {f : String} {d : D} {v : V} {fs : List (String × D)} {gs : List (Str × V)} : RD Z F d v → RDf Z F fs gs → RDf Z F ((f, d) :: fs) ((Str.ofString f, v) :: gs)
end
def Ext (F G : Hp) : Prop := ∀ a o, F a = some o → G a = some o
theorem Ext.rfl' {F : Hp} : Ext F F := fun _ _ h => h
theorem Ext.trans {F G H : Hp} (a : Ext F G) (b : Ext G H) : Ext F H := fun c o h => b c o (a c o h)
theorem Ext.new {F : Hp} {p : Addr} {o : HO} (h : F p = none) : Ext F (upd F p o) := fun a u e => by rw [upd_ne (ne_of_none e h)]; exact e
theorem SqT.ext {K : PySem.W.Frag} {F G : Hp} {a : Addr} {xs : List V} (h : SqT K F a xs) (e : Ext F G) : SqT K G a xs :=
  h.elim (fun h => .inl (h.elim (fun h => .inl (e _ _ h)) fun ⟨o, h⟩ => .inr ⟨o, e _ _ h⟩)) fun h => .inr h
theorem SqL.ext {K : PySem.W.Frag} {F G : Hp} {a : Addr} {xs : List V} (h : SqL K F a xs) (e : Ext F G) : SqL K G a xs :=
  h.elim (fun h => .inl (h.elim (fun h => .inl (e _ _ h)) fun ⟨o, h⟩ => .inr ⟨o, e _ _ h⟩)) fun h => .inr h
mutual
theorem RD.ext {Z : Zn} {F G : Hp} (e : Ext F G) : ∀ {d : D} {v : V}, RD Z F d v → RD Z G d v
  | _, _, .non => .non
  | _, _, .bl b => .bl b
  | _, _, .int i => .int i
  | _, _, .str x => .str x
  | _, _, .tup h r => .tup (SqT.ext h e) (RDs.ext e r)
  | _, _, .ins m h r => .ins m (e _ _ h) (RDf.ext e r)
  | _, _, .ref a => .ref a
  | _, _, .ty n => .ty n
theorem RDs.ext {Z : Zn} {F G : Hp} (e : Ext F G) : ∀ {ds : List D} {vs : List V}, RDs Z F ds vs → RDs Z G ds vs
  | _, _, .nil => .nil
  | _, _, .cons h r => .cons (RD.ext e h) (RDs.ext e r)
theorem RDf.ext {Z : Zn} {F G : Hp} (e : Ext F G) : ∀ {fs : List (String × D)} {gs : List (Str × V)}, RDf Z F fs gs → RDf Z G fs gs
  | _, _, .nil => .nil
  | _, _, .cons h r => .cons (RD.ext e h) (RDf.ext e r)
end
theorem RDs.length {Z : Zn} {F : Hp} : ∀ {ds : List D} {vs : List V}, RDs Z F ds vs → ds.length = vs.length
  | _, _, .nil => rfl
  | _, _, .cons _ r => congrArg Nat.succ r.length
theorem RDs.get {Z : Zn} {F : Hp} : ∀ {ds : List D} {vs : List V} {i : Nat} {d : D}, RDs Z F ds vs → ds[i]? = some d → ∃ v, vs[i]? = some v ∧ RD Z F d v
  | _, _, _, _, .nil, e => by simp at e
  | _, _, 0, _, .cons h _, e => by simp at e; subst e; exact ⟨_, rfl, h⟩
  | _, _, i + 1, d, .cons _ r, e => by
    obtain ⟨v, h1, h2⟩ := RDs.get (i := i) (d := d) r (by simpa using e)
    exact ⟨v, by simpa using h1, h2⟩
theorem RDs.getV {Z : Zn} {F : Hp} {ds : List D} {vs : List V} {i : Nat} {v : V} (r : RDs Z F ds vs) (e : vs[i]? = some v) : ∃ d, ds[i]? = some d ∧ RD Z F d v := by
  have hl : i < ds.length := by rw [r.length]; exact (List.getElem?_eq_some_iff.mp e).1
  obtain ⟨v', h1, h2⟩ := r.get (List.getElem?_eq_getElem hl)
  rw [e] at h1; cases h1
  exact ⟨_, List.getElem?_eq_getElem hl, h2⟩
theorem RDs.append {Z : Zn} {F : Hp} : ∀ {ds es : List D} {vs us : List V}, RDs Z F ds vs → RDs Z F es us → RDs Z F (ds ++ es) (vs ++ us)
  | _, _, _, _, .nil, s => s
  | _, _, _, _, .cons h r, s => .cons h (r.append s)
theorem RDs.take {Z : Zn} {F : Hp} : ∀ {ds : List D} {vs : List V} (n : Nat), RDs Z F ds vs → RDs Z F (ds.take n) (vs.take n)
  | _, _, 0, _ => .nil
  | _, _, _ + 1, .nil => .nil
  | _, _, n + 1, .cons h r => .cons h (r.take n)
theorem RDs.drop {Z : Zn} {F : Hp} : ∀ {ds : List D} {vs : List V} (n : Nat), RDs Z F ds vs → RDs Z F (ds.drop n) (vs.drop n)
  | _, _, 0, r => r
  | _, _, _ + 1, .nil => .nil
  | _, _, n + 1, .cons _ r => r.drop n
theorem RDs.set {Z : Zn} {F : Hp} {d : D} {v : V} (h : RD Z F d v) : ∀ {ds : List D} {vs : List V} (i : Nat), RDs Z F ds vs → RDs Z F (ds.set i d) (vs.set i v)
  | _, _, _, .nil => .nil
  | _, _, 0, .cons _ t => .cons h t
  | _, _, i + 1, .cons q t => .cons q (t.set h i)
theorem RDs.reverse {Z : Zn} {F : Hp} : ∀ {ds : List D} {vs : List V}, RDs Z F ds vs → RDs Z F ds.reverse vs.reverse
  | _, _, .nil => .nil
  | _, _, .cons h t => by rw [List.reverse_cons, List.reverse_cons]; exact t.reverse.append (.cons h .nil)
theorem RDs.dropLast {Z : Zn} {F : Hp} {ds : List D} {vs : List V} (r : RDs Z F ds vs) : RDs Z F ds.dropLast vs.dropLast := by
  rw [List.dropLast_eq_take, List.dropLast_eq_take, r.length]; exact r.take _
theorem ofString_inj {f g : String} (h : Str.ofString f = Str.ofString g) : f = g := by
  rw [Str.ofString_eq_toList, Str.ofString_eq_toList] at h
  injection h with h
  have h2 : f.toList.map Char.toNat = g.toList.map Char.toNat := by simpa using h
  have h3 : f.toList = g.toList := by
    refine List.map_inj_right (f := Char.toNat) (fun a b e => ?_) |>.mp h2
    exact Char.toNat_inj.mp e
  exact String.toList_inj.mp h3
theorem ofString_beq (f g : String) : (Str.ofString f == Str.ofString g) = (f == g) := by
  by_cases h : f = g
  · subst h; simp
  · have h2 : ¬ Str.ofString f = Str.ofString g := fun e => h (ofString_inj e)
    rw [beq_eq_false_iff_ne.mpr h, beq_eq_false_iff_ne.mpr h2]
theorem RDf.lookup {Z : Zn} {F : Hp} {f : String} : ∀ {fs : List (String × D)} {gs : List (Str × V)} {d : D}, RDf Z F fs gs → fs.lookup f = some d → ∃ v, gs.lookup (Str.ofString f) = some v ∧ RD Z F d v
  | _, _, _, .nil, e => by simp at e
  | _, _, d, @RDf.cons _ _ g d' v' fs' gs' h r, e => by
    rw [List.lookup_cons] at e
    rw [List.lookup_cons, ofString_beq]
    cases q : f == g with
    | true =>
      rw [q] at e
      simp only at e
      cases e
      exact ⟨v', rfl, h⟩
    | false =>
      rw [q] at e
      exact RDf.lookup r e
theorem RDf.lookup_none {Z : Zn} {F : Hp} {f : String} : ∀ {fs : List (String × D)} {gs : List (Str × V)}, RDf Z F fs gs → fs.lookup f = none → gs.lookup (Str.ofString f) = none
  | _, _, .nil, _ => rfl
  | _, _, @RDf.cons _ _ g d' v' fs' gs' h r, e => by
    rw [List.lookup_cons] at e
    rw [List.lookup_cons, ofString_beq]
    cases q : f == g with
    | true => rw [q] at e; simp at e
    | false => rw [q] at e; exact RDf.lookup_none r e
theorem RDf.length {Z : Zn} {F : Hp} : ∀ {fs : List (String × D)} {gs : List (Str × V)}, RDf Z F fs gs → fs.length = gs.length
  | _, _, .nil => rfl
  | _, _, .cons _ r => congrArg Nat.succ r.length
/-- a field stored: as putF -/
def putD (f : String) (d : D) : List (String × D) → List (String × D)
  | [] => [(f, d)]
  | (g, e) :: r => if g = f then (g, d) :: r else (g, e) :: putD f d r
theorem RDf.put {Z : Zn} {F : Hp} {f : String} {d : D} {v : V} (h : RD Z F d v) : ∀ {fs : List (String × D)} {gs : List (Str × V)}, RDf Z F fs gs → RDf Z F (putD f d fs) (putF (Str.ofString f) v gs)
  | _, _, .nil => .cons h .nil
  | _, _, @RDf.cons _ _ g d' v' fs' gs' h' r => by
    unfold putD putF
    by_cases q : g = f
    · subst q
      rw [if_pos rfl, if_pos rfl]
      exact .cons h r
    · rw [if_neg q, if_neg (fun e => q (ofString_inj e))]
      exact .cons h' (RDf.put h r)
inductive RDk (Z : Zn) (F : Hp) : List (Tx × D) → List (L2.Key × V) → Prop
  | nil : RDk Z F [] []
  | cons {x : Tx} {d : D} {v : V} {kvs : List (Tx × D)} {ks : List (L2.Key × V)} : RD Z F d v → RDk Z F kvs ks → RDk Z F ((x, d) :: kvs) ((.inr (sv x), v) :: ks)
theorem RDk.ext {Z : Zn} {F G : Hp} (e : Ext F G) : ∀ {kvs : List (Tx × D)} {ks : List (L2.Key × V)}, RDk Z F kvs ks → RDk Z G kvs ks
  | _, _, .nil => .nil
  | _, _, .cons h r => .cons (RD.ext e h) (r.ext e)
inductive RDi (Z : Zn) (F : Hp) : List (Int × D) → List (L2.Key × V) → Prop
  | nil : RDi Z F [] []
  | cons {x : Int} {d : D} {v : V} {kvs : List (Int × D)} {ks : List (L2.Key × V)} : RD Z F d v → RDi Z F kvs ks → RDi Z F ((x, d) :: kvs) ((.inl x, v) :: ks)
theorem RDi.ext {Z : Zn} {F G : Hp} (e : Ext F G) : ∀ {kvs : List (Int × D)} {ks : List (L2.Key × V)}, RDi Z F kvs ks → RDi Z G kvs ks
  | _, _, .nil => .nil
  | _, _, .cons h r => .cons (RD.ext e h) (r.ext e)
def kD : Int ⊕ Tx → L2.Key
  | .inl i => .inl i
  | .inr x => .inr (sv x)
inductive RDt (Z : Zn) (F : Hp) : List (List (Int ⊕ Tx) × D) → List (List L2.Key × V) → Prop
  | nil : RDt Z F [] []
  | cons {x : List (Int ⊕ Tx)} {d : D} {v : V} {kvs : List (List (Int ⊕ Tx) × D)} {ks : List (List L2.Key × V)} : RD Z F d v → RDt Z F kvs ks → RDt Z F ((x, d) :: kvs) ((x.map kD, v) :: ks)
theorem RDt.ext {Z : Zn} {F G : Hp} (e : Ext F G) : ∀ {kvs : List (List (Int ⊕ Tx) × D)} {ks : List (List L2.Key × V)}, RDt Z F kvs ks → RDt Z G kvs ks
  | _, _, .nil => .nil
  | _, _, .cons h r => .cons (RD.ext e h) (r.ext e)
def RM (Z : Zn) (F : Hp) : MO → HO → Prop
  | .lst ds, .lst vs => RDs Z F ds vs
  | .frl ds, .frz _ (.lst vs) => RDs Z F ds vs
  | .ins c fs, .ins C _ gs => c ∈ Z.cs ∧ C = Z.ca c ∧ RDf Z F fs gs
  | .xd fs, .xd gs => RDf Z F fs gs
  | .dct kvs, .dK ks => RDk Z F kvs ks
  | .dci kvs, .dK ks => RDi Z F kvs ks
  | .dtk kvs, .dT ks => RDt Z F kvs ks
  | _, _ => False
structure View (Z : Zn) (F : Hp) (M : Hm) (H : Hp) : Prop where
  sub : Ext F H
  mt : ∀ a m, M a = some m → F a = none ∧ ∃ o, H a = some o ∧ RM Z F m o
theorem RM.ext {Z : Zn} {F G : Hp} (e : Ext F G) {m : MO} {o : HO} (h : RM Z F m o) : RM Z G m o := by
  cases m with
  | lst ds => cases o <;> first | exact RDs.ext e h | exact h.elim
  | frl ds =>
    cases o with
    | frz ob u => cases u <;> first | exact RDs.ext e h | exact h.elim
    | _ => exact h.elim
  | ins c fs => cases o <;> first | exact ⟨h.1, h.2.1, RDf.ext e h.2.2⟩ | exact h.elim
  | xd fs => cases o <;> first | exact RDf.ext e h | exact h.elim
  | dct kvs => cases o <;> first | exact RDk.ext e h | exact h.elim
  | dci kvs => cases o <;> first | exact RDi.ext e h | exact h.elim
  | dtk kvs => cases o <;> first | exact RDt.ext e h | exact h.elim
section
variable {Z : Zn} {F G : Hp} {M N : Hm} {H : Hp} {a : Addr}
/-- less is seen -/
def Sub (N M : Hm) : Prop := ∀ a m, N a = some m → M a = some m
theorem Sub.rfl' : Sub M M := fun _ _ h => h
theorem View.less (v : View Z F M H) (s : Sub N M) : View Z F N H := ⟨v.sub, fun a m h => v.mt a m (s a m h)⟩
theorem View.free (v : View Z F M H) (h : H a = none) : M a = none ∧ F a = none := by
  constructor
  · cases e : M a with
    | none => rfl
    | some m =>
      obtain ⟨_, o, q, _⟩ := v.mt a m e
      rw [h] at q; cases q
  · cases e : F a with
    | none => rfl
    | some o => have := v.sub a o e; rw [h] at this; cases this
/-- a new list -/
theorem View.newL (v : View Z F M H) (h : H a = none) {ds : List D} {vs : List V} (r : RDs Z F ds vs) : View Z F (mup M a (.lst ds)) (upd H a (.lst vs)) := by
  refine ⟨v.sub.trans (Ext.new h), fun b m e => ?_⟩
  by_cases q : b = a
  · subst q
    rw [mup_same] at e; cases e
    exact ⟨(v.free h).2, _, upd_same, r⟩
  · rw [mup_ne q] at e
    obtain ⟨h1, o, h2, h3⟩ := v.mt b m e
    exact ⟨h1, o, by rw [upd_ne q]; exact h2, h3⟩
/-- a new tuple -/
theorem View.newT (v : View Z F M H) (h : H a = none) {vs : List V} : View Z (upd F a (.tup vs)) M (upd H a (.tup vs)) := by
  have hF := (v.free h).2
  refine ⟨fun b o e => ?_, fun b m e => ?_⟩
  · by_cases q : b = a
    · subst q; rw [upd_same] at e ⊢; exact e
    · rw [upd_ne q] at e ⊢; exact v.sub b o e
  · obtain ⟨h1, o, h2, h3⟩ := v.mt b m e
    have q : b ≠ a := ne_of_none h2 h
    exact ⟨by rw [upd_ne q]; exact h1, o, by rw [upd_ne q]; exact h2, h3.ext (Ext.new hF)⟩
/-- a mutable object is changed -/
theorem View.put (v : View Z F M H) {m m' : MO} {o : HO} (h : M a = some m) (r : RM Z F m' o) : View Z F (mup M a m') (upd H a o) := by
  have hF := (v.mt a m h).1
  refine ⟨fun b u e => ?_, fun b n e => ?_⟩
  · have q : b ≠ a := ne_of_none e hF
    rw [upd_ne q]; exact v.sub b u e
  · by_cases q : b = a
    · subst q
      rw [mup_same] at e; cases e
      exact ⟨hF, _, upd_same, r⟩
    · rw [mup_ne q] at e
      obtain ⟨h1, u, h2, h3⟩ := v.mt b n e
      exact ⟨h1, u, by rw [upd_ne q]; exact h2, h3⟩
theorem View.lst (v : View Z F M H) {ds : List D} (h : M a = some (.lst ds)) : ∃ vs, H a = some (.lst vs) ∧ RDs Z F ds vs := by
  obtain ⟨_, o, h2, h3⟩ := v.mt a _ h
  cases o with
  | lst vs => exact ⟨vs, h2, h3⟩
  | _ => exact h3.elim
/-- what may be read as a list -/
def Lz (M : Hm) (a : Addr) (ds : List D) : Prop := M a = some (.lst ds) ∨ M a = some (.frl ds)
theorem View.lz (v : View Z F M H) {ds : List D} (h : Lz M a ds) : ∃ vs, SqL Z.K H a vs ∧ RDs Z F ds vs := by
  rcases h with h | h
  · obtain ⟨vs, h1, h2⟩ := v.lst h
    exact ⟨vs, .inl (.inl h1), h2⟩
  · obtain ⟨_, o, h2, h3⟩ := v.mt a _ h
    cases o with
    | frz ob u =>
      cases u with
      | lst vs => exact ⟨vs, .inl (.inr ⟨ob, h2⟩), h3⟩
      | _ => exact h3.elim
    | _ => exact h3.elim
theorem View.ins (v : View Z F M H) {c : String} {fs : List (String × D)} (h : M a = some (.ins c fs)) : ∃ dx gs, c ∈ Z.cs ∧ H a = some (.ins (Z.ca c) dx gs) ∧ RDf Z F fs gs := by
  obtain ⟨_, o, h2, h3⟩ := v.mt a _ h
  cases o with
  | ins C dx gs =>
    obtain ⟨hm, rfl, h3⟩ := h3
    exact ⟨dx, gs, hm, h2, h3⟩
  | _ => exact h3.elim
/-- a mutable instance becomes data -/
theorem View.freeze (v : View Z F M H) {c : String} {fs : List (String × D)} (h : M a = some (.ins c fs)) : ∃ G, Ext F G ∧ View Z G (mdel M a) H ∧ RD Z G (.ins c fs) (.ref a) := by
  obtain ⟨dx, gs, hm, h1, h2⟩ := v.ins h
  have hF := (v.mt a _ h).1
  have e : Ext F (upd F a (.ins (Z.ca c) dx gs)) := Ext.new hF
  refine ⟨upd F a (.ins (Z.ca c) dx gs), e, ⟨fun b o q => ?_, fun b m q => ?_⟩, .ins hm upd_same (RDf.ext e h2)⟩
  · by_cases z : b = a
    · subst z; rw [upd_same] at q; cases q; exact h1
    · rw [upd_ne z] at q; exact v.sub b o q
  · unfold mdel at q
    by_cases z : b = a
    · rw [if_pos z] at q; cases q
    · rw [if_neg z] at q
      obtain ⟨k1, o, k2, k3⟩ := v.mt b m q
      exact ⟨by rw [upd_ne z]; exact k1, o, k2, k3.ext e⟩
theorem SqT.sub {K : PySem.W.Frag} {xs : List V} (v : View Z F M H) (h : SqT K F a xs) : SqT K H a xs := SqT.ext h v.sub
end
abbrev SD := List (Option D)
structure SRel (Z : Zn) (F : Hp) (σ : SD) (τ : L2.St) : Prop where
  len : σ.length = τ.length
  at_ : ∀ (i : Nat) (d : D), σ[i]? = some (some d) → ∃ v, τ[i]? = some (some v) ∧ RD Z F d v
theorem SRel.ext {Z : Zn} {F G : Hp} {σ : SD} {τ : L2.St} (s : SRel Z F σ τ) (e : Ext F G) : SRel Z G σ τ :=
  ⟨s.len, fun i d h => let ⟨v, h1, h2⟩ := s.at_ i d h; ⟨v, h1, h2.ext e⟩⟩
theorem SRel.set {Z : Zn} {F : Hp} {σ : SD} {τ : L2.St} (s : SRel Z F σ τ) {d : D} {v : V} (r : RD Z F d v) (i : Nat) : SRel Z F (σ.set i (some d)) (τ.set i (some v)) := by
  refine ⟨by simp [s.len], fun j e h => ?_⟩
  by_cases q : i = j
  · subst q
    by_cases hl : i < σ.length
    · rw [List.getElem?_set_self hl] at h
      cases h
      exact ⟨v, by rw [List.getElem?_set_self (by rw [← s.len]; exact hl)], r⟩
    · rw [List.getElem?_eq_none (by simpa using hl)] at h; cases h
  · rw [List.getElem?_set_ne q] at h ⊢
    exact s.at_ j e h
/-- forgetting -/
theorem SRel.weak {Z : Zn} {F : Hp} {σ ρ : SD} {τ : L2.St} (s : SRel Z F σ τ) (hl : ρ.length = σ.length) (h : ∀ (i : Nat) (d : D), ρ[i]? = some (some d) → σ[i]? = some (some d)) : SRel Z F ρ τ :=
  ⟨hl.trans s.len, fun i d e => s.at_ i d (h i d e)⟩
abbrev DK := D → Hm → Prop
structure XD where
  cls : String
  at_ : Addr
abbrev DX := XD → Hm → Prop
abbrev DTE := SD → Hm → DK → DX → Prop
abbrev DTT := SD → Hm → (Bool → Hm → Prop) → DX → Prop
abbrev DTA := SD → Hm → (List D → Hm → Prop) → DX → Prop
structure DEn where
  nx : SD → Hm → Prop
  rt : DK
  ex : XD → SD → Hm → Prop
  bk : SD → Hm → Prop := fun _ _ => False
  ct : SD → Hm → Prop := fun _ _ => False
abbrev DTS := DEn → SD → Hm → Prop
/-- an exception of an own class: its dict stands in the memory -/
def RX (Z : Zn) (F : Hp) (x : XD) (cv : Value) (dct : Option Addr) : Prop := cv = .ref (Z.ca x.cls) ∧ dct = some x.at_
theorem RX.ext {Z : Zn} {F G : Hp} (e : Ext F G) {x : XD} {cv : Value} {dct : Option Addr} (h : RX Z F x cv dct) : RX Z G x cv dct := h
/-- a wish of values, a wish of exceptions: what they come to below -/
def WQ (Z : Zn) (F : Hp) (QD : DK) (Q : VK) : Prop := ∀ G d v M H, Ext F G → View Z G M H → RD Z G d v → QD d M → Q v H
def WB (Z : Zn) (F : Hp) (QD : Bool → Hm → Prop) (Q : Bool → Hp → Prop) : Prop := ∀ G b M H, Ext F G → View Z G M H → QD b M → Q b H
def WA (Z : Zn) (F : Hp) (QD : List D → Hm → Prop) (Q : List V → Hp → Prop) : Prop := ∀ G ds vs M H, Ext F G → View Z G M H → RDs Z G ds vs → QD ds M → Q vs H
def WE (Z : Zn) (W : WX) (F : Hp) (τ : L2.St) (ED : DX) : Prop := ∀ G x cv dct M H, Ext F G → View Z G M H → RX Z G x cv dct → ED x M → W cv dct τ H
def WS (Z : Zn) (F : Hp) (QD : SD → Hm → Prop) (Q : L2.St → Hp → Prop) : Prop := ∀ G σ τ M H, Ext F G → SRel Z G σ τ → View Z G M H → QD σ M → Q τ H
def WES (Z : Zn) (W : WX) (F : Hp) (ED : XD → SD → Hm → Prop) : Prop := ∀ G x cv dct σ τ M H, Ext F G → SRel Z G σ τ → View Z G M H → RX Z G x cv dct → ED x σ M → W cv dct τ H
section
variable {Z : Zn} {F G : Hp} {W : WX} {τ : L2.St}
theorem WQ.ext {QD : DK} {Q : VK} (h : WQ Z F QD Q) (e : Ext F G) : WQ Z G QD Q := fun G' d v M H x => h G' d v M H (e.trans x)
theorem WB.ext {QD : Bool → Hm → Prop} {Q : Bool → Hp → Prop} (h : WB Z F QD Q) (e : Ext F G) : WB Z G QD Q := fun G' d M H x => h G' d M H (e.trans x)
theorem WA.ext {QD : List D → Hm → Prop} {Q : List V → Hp → Prop} (h : WA Z F QD Q) (e : Ext F G) : WA Z G QD Q := fun G' d v M H x => h G' d v M H (e.trans x)
theorem WE.ext {ED : DX} (h : WE Z W F τ ED) (e : Ext F G) : WE Z W G τ ED := fun G' x cv dct M H q => h G' x cv dct M H (e.trans q)
theorem WS.ext {QD : SD → Hm → Prop} {Q : L2.St → Hp → Prop} (h : WS Z F QD Q) (e : Ext F G) : WS Z G QD Q := fun G' σ τ M H x => h G' σ τ M H (e.trans x)
theorem WES.ext {ED : XD → SD → Hm → Prop} (h : WES Z W F ED) (e : Ext F G) : WES Z W G ED := fun G' x cv dct σ τ M H q => h G' x cv dct σ τ M H (e.trans q)
theorem WES.at_ {ED : XD → SD → Hm → Prop} (h : WES Z W F ED) {σ : SD} (s : SRel Z F σ τ) : WE Z W F τ (fun x M => ED x σ M) := fun G x cv dct M H e v r q => h G x cv dct σ τ M H e (s.ext e) v r q
end
def tOf (Z : Zn) (W : WX) (T : DTE) : TE := fun τ H Q => ∃ F σ M QD ED, SRel Z F σ τ ∧ View Z F M H ∧ T σ M QD ED ∧ WQ Z F QD Q ∧ WE Z W F τ ED
def bOf (Z : Zn) (W : WX) (T : DTT) : TT := fun τ H Q => ∃ F σ M QD ED, SRel Z F σ τ ∧ View Z F M H ∧ T σ M QD ED ∧ WB Z F QD Q ∧ WE Z W F τ ED
def aOf (Z : Zn) (W : WX) (T : DTA) : TA := fun τ H Q => ∃ F σ M QD ED, SRel Z F σ τ ∧ View Z F M H ∧ T σ M QD ED ∧ WA Z F QD Q ∧ WE Z W F τ ED
structure WK (Z : Zn) (W : WX) (F : Hp) (KD : DEn) (K : Ends) : Prop where
  nx : WS Z F KD.nx K.nx
  rt : WQ Z F KD.rt K.rt
  bk : WS Z F KD.bk K.bk
  ct : WS Z F KD.ct K.ct
  ex : WES Z W F KD.ex
theorem WK.ext {Z : Zn} {W : WX} {F G : Hp} {KD : DEn} {K : Ends} (h : WK Z W F KD K) (e : Ext F G) : WK Z W G KD K := ⟨h.nx.ext e, h.rt.ext e, h.bk.ext e, h.ct.ext e, h.ex.ext e⟩
def sOf (Z : Zn) (W : WX) (T : DTS) : TS := fun K τ H => ∃ F σ M KD, SRel Z F σ τ ∧ View Z F M H ∧ T KD σ M ∧ WK Z W F KD K
theorem PE.imp {X : Cx} {e : Expr} {t u : TE} (h : PE X e t) (i : ∀ σ H Q, u σ H Q → t σ H Q) : PE X e u := ⟨fun pins s σ H Q I q => h.run pins s σ H Q I (i σ H Q q)⟩
theorem PT.imp {X : Cx} {e : Expr} {t u : TT} (h : PT X e t) (i : ∀ σ H Q, u σ H Q → t σ H Q) : PT X e u := ⟨fun pins s σ H Q I q => h.run pins s σ H Q I (i σ H Q q)⟩
theorem PA.imp {X : Cx} {e : List Expr} {t u : TA} (h : PA X e t) (i : ∀ σ H Q, u σ H Q → t σ H Q) : PA X e u := ⟨fun pos pins s σ H Q I q => h.run pos pins s σ H Q I (i σ H Q q)⟩
theorem PW.imp {X : Cx} {e : Expr} {t u : TT} (h : PW X e t) (i : ∀ σ H Q, u σ H Q → t σ H Q) : PW X e u := ⟨fun wh pins s σ H Q I q => h.run wh pins s σ H Q I (i σ H Q q)⟩
theorem PS.imp {X : Cx} {e : Stmt} {t u : TS} (h : PS X e t) (i : ∀ D σ H, u D σ H → t D σ H) : PS X e u := ⟨fun pins s σ H D I q => h.run pins s σ H D I (i D σ H q)⟩
theorem PSs.imp {X : Cx} {e : List Stmt} {t u : TS} (h : PSs X e t) (i : ∀ D σ H, u D σ H → t D σ H) : PSs X e u := ⟨fun pins s σ H D I q => h.run pins s σ H D I (i D σ H q)⟩
abbrev DE (Z : Zn) (X : Cx) (W : WX) (e : Expr) (T : DTE) : Prop := PE X e (tOf Z W T)
abbrev DB (Z : Zn) (X : Cx) (W : WX) (e : Expr) (T : DTT) : Prop := PT X e (bOf Z W T)
abbrev DA (Z : Zn) (X : Cx) (W : WX) (es : List Expr) (T : DTA) : Prop := PA X es (aOf Z W T)
abbrev DS (Z : Zn) (X : Cx) (W : WX) (s : Stmt) (T : DTS) : Prop := PS X s (sOf Z W T)
abbrev DSs (Z : Zn) (X : Cx) (W : WX) (s : List Stmt) (T : DTS) : Prop := PSs X s (sOf Z W T)
end DL
namespace DL
open PySem PySem.Spec PyProof.Rows L2
abbrev LL : Nat := 16777216
theorem LL_eq : sizeLine = LL := sizeLine_eq
section
variable {Z : Zn} {X : Cx} {W : WX} {e a b c : Expr} {pos : Pos} {Ta Tb Tc : DTE}
def wVar (i : Nat) : DTE := fun σ M Q _ => ∃ d, σ[i]? = some (some d) ∧ Q d M
def wC (d : D) : DTE := fun _ M Q _ => Q d M
theorem de_var {i : Nat} {x : Str} (hN : X.N[i]? = some x) (hv : Vis X.env.scope x) (hd : (x == ("__debug__" : Str)) = false) (hcd : (x == ("__classdict__" : Str)) = false) : DE Z X W (.Name x pos) (wVar i) := by
  refine PE.imp (pe_var hN hv hd hcd) fun τ H Q ⟨F, σ, M, QD, ED, S, V, ⟨d, h, q⟩, hQ, _⟩ => ?_
  obtain ⟨v, h1, h2⟩ := S.at_ i d h
  exact ⟨v, h1, hQ F d v M H Ext.rfl' V h2 q⟩
theorem de_const {d : D} {v : V} (h : PE X e (tC v)) (r : ∀ F, RD Z F d v) : DE Z X W e (wC d) :=
  PE.imp h fun τ H Q ⟨F, σ, M, QD, ED, S, V, q, hQ, _⟩ => hQ F d v M H Ext.rfl' V (r F) q
theorem de_int {i : Int} {j : Nat} : DE Z X W (.Constant (.int i) j pos) (wC (.int i)) := de_const pe_int fun _ => .int i
theorem de_bl {i : Bool} {j : Nat} : DE Z X W (.Constant (.bool i) j pos) (wC (.bl i)) := de_const pe_bl fun _ => .bl i
theorem de_non {j : Nat} : DE Z X W (.Constant .none j pos) (wC .non) := de_const pe_non fun _ => .non
theorem de_str {x : Str} {s : String} {j : Nat} (h : Str.ofString s = x) : DE Z X W (.Constant (.str x) j pos) (wC (.str (tx s))) := de_const pe_str fun _ => by
  rw [← h, ← sv_tx]; exact .str _
/-- a two-place operation on values keeps what one on data asks -/
def Ref2 (Z : Zn) (r : R2) (P : D → D → Hm → DK → Prop) : Prop := ∀ (F H : Hp) (M : Hm) (d1 d2 : D) (v1 v2 : V) (QD : DK) (Q : VK), View Z F M H → RD Z F d1 v1 → RD Z F d2 v2 → P d1 d2 M QD → WQ Z F QD Q → r v1 v2 H Q
def w2 (P : D → D → Hm → DK → Prop) (Ta Tb : DTE) : DTE := fun σ M Q E => Ta σ M (fun x M1 => Tb σ M1 (fun y M2 => P x y M2 Q) E) E
theorem w2_ok {r : R2} {P : D → D → Hm → DK → Prop} (hP : Ref2 Z r P) : ∀ τ H Q, tOf Z W (w2 P Ta Tb) τ H Q → tOp r (tOf Z W Ta) (tOf Z W Tb) τ H Q :=
  fun τ H Q ⟨F, σ, M, QD, ED, S, V, h, hQ, hE⟩ => ⟨F, σ, M, _, ED, S, V, h, fun F1 d1 v1 M1 H1 e1 V1 r1 q1 => ⟨F1, σ, M1, _, ED, S.ext e1, V1, q1, fun F2 d2 v2 M2 H2 e2 V2 r2 q2 => hP F2 H2 M2 d1 d2 v1 v2 QD Q V2 (r1.ext e2) r2 q2 (hQ.ext (e1.trans e2)), hE.ext e1⟩, hE⟩
theorem de_bin {op : Operator} {r : R2} {P : D → D → Hm → DK → Prop} (ho : OpR X (binaryOp op) r) (hP : Ref2 Z r P) (ha : DE Z X W a Ta) (hb : DE Z X W b Tb) : DE Z X W (.BinOp a op b pos) (w2 P Ta Tb) :=
  PE.imp (pe_op ho ha hb) (w2_ok hP)
theorem de_cmp {op : CmpOp} {r : R2} {P : D → D → Hm → DK → Prop} (ho : OpR X (compareOp op) r) (hP : Ref2 Z r P) (ha : DE Z X W a Ta) (hb : DE Z X W b Tb) (hm : behindInMarks op b = false) : DE Z X W (.Compare a [op] [b] pos) (w2 P Ta Tb) :=
  PE.imp (pe_cmpR ho ha hb hm) (w2_ok hP)
def wB (T : DTE) : DTT := fun σ M Q E => T σ M (fun d M1 => ∃ b, d = .bl b ∧ Q b M1) E
/-- an expression that tells a truth, as a test -/
theorem RD.bl_of {F : Hp} {b : Bool} {v : V} (h : RD Z F (.bl b) v) : v = .bl b := by cases h; rfl
theorem RD.int_of {F : Hp} {i : Int} {v : V} (h : RD Z F (.int i) v) : v = .int i := by cases h; rfl
theorem RD.str_of {F : Hp} {i : Tx} {v : V} (h : RD Z F (.str i) v) : v = .str (sv i) := by cases h; rfl
theorem RD.non_of {F : Hp} {v : V} (h : RD Z F .non v) : v = .non := by cases h; rfl
theorem RD.ref_of {F : Hp} {i : Addr} {v : V} (h : RD Z F (.ref i) v) : v = .ref i := by cases h; rfl
theorem RD.ty_of {F : Hp} {i : String} {v : V} (h : RD Z F (.ty i) v) : v = .ty i := by cases h; rfl
theorem RD.tup_of {F : Hp} {ds : List D} {v : V} (h : RD Z F (.tup ds) v) : ∃ a vs, v = .ref a ∧ SqT Z.K F a vs ∧ RDs Z F ds vs := by cases h with | tup h r => exact ⟨_, _, rfl, h, r⟩
theorem RD.ins_of {F : Hp} {c : String} {fs : List (String × D)} {v : V} (h : RD Z F (.ins c fs) v) : ∃ a dx gs, v = .ref a ∧ c ∈ Z.cs ∧ F a = some (.ins (Z.ca c) dx gs) ∧ RDf Z F fs gs := by cases h with | ins m h r => exact ⟨_, _, _, rfl, m, h, r⟩
theorem db_cmp {op : CmpOp} {r : R2} {P : D → D → Hm → DK → Prop} (ho : OpR X (compareOp op) r) (hP : Ref2 Z r P) (ha : DE Z X W a Ta) (hb : DE Z X W b Tb) (hm : behindInMarks op b = false) : DB Z X W (.Compare a [op] [b] pos) (wB (w2 P Ta Tb)) := by
  refine PT.imp (pt_cmpR ho ha hb hm) fun τ H Q ⟨F, σ, M, QD, ED, S, V, h, hQ, hE⟩ => ?_
  refine w2_ok (W := W) hP τ H _ ⟨F, σ, M, _, ED, S, V, h, fun F1 d v M1 H1 e1 V1 r1 q1 => ?_, hE⟩
  obtain ⟨b, rfl, q1⟩ := q1
  exact ⟨b, r1.bl_of, hQ F1 b M1 H1 e1 V1 q1⟩
theorem db_val {T : DTE} (h : DE Z X W e T) (he : ∀ whole, isTrue e X.env whole = (do let v ← whole; standAt e.pos; holding [v] (truthy v))) : DB Z X W e (wB T) := by
  refine PT.imp (pt_val h he) fun τ H Q ⟨F, σ, M, QD, ED, S, V, h, hQ, hE⟩ => ?_
  refine ⟨F, σ, M, _, ED, S, V, h, fun F1 d v M1 H1 e1 V1 r1 q1 => ?_, hE⟩
  obtain ⟨b, rfl, q1⟩ := q1
  exact ⟨b, r1.bl_of, hQ F1 b M1 H1 e1 V1 q1⟩
/-- chains of two -/
def wChain (P P' : D → D → Hm → DK → Prop) (Ta Tb Tc : DTE) : DTE := fun σ M Q E => Ta σ M (fun x M1 => Tb σ M1 (fun y M2 => P x y M2 (fun z M3 => ∃ k, z = .bl k ∧ if k = true then Tc σ M3 (fun w M4 => P' y w M4 Q) E else Q (.bl false) M3)) E) E
variable {Ba Bb : DTT} {rest : List Expr}
def wAnd (Ba Bb : DTT) : DTT := fun σ M Q E => Ba σ M (fun b M1 => if b = true then Bb σ M1 Q E else Q false M1) E
def wOr (Ba Bb : DTT) : DTT := fun σ M Q E => Ba σ M (fun b M1 => if b = true then Q true M1 else Bb σ M1 Q E) E
def wNot (Ba : DTT) : DTT := fun σ M Q E => Ba σ M (fun b M1 => Q (!b) M1) E
abbrev DW (Z : Zn) (X : Cx) (W : WX) (e : Expr) (T : DTT) : Prop := PW X e (bOf Z W T)
theorem dw_and1 (ha : DB Z X W a Ba) : DW Z X W (.BoolOp .And [a] pos) Ba := pw_and1 ha
theorem dw_or1 (ha : DB Z X W a Ba) : DW Z X W (.BoolOp .Or [a] pos) Ba := pw_or1 ha
theorem dw_and (ha : DB Z X W a Ba) (hb : DW Z X W (.BoolOp .And (b :: rest) pos) Bb) : DW Z X W (.BoolOp .And (a :: b :: rest) pos) (wAnd Ba Bb) := by
  refine PW.imp (pw_and ha hb) fun τ H Q ⟨F, σ, M, QD, ED, S, V, h, hQ, hE⟩ => ?_
  refine ⟨F, σ, M, _, ED, S, V, h, fun F1 d M1 H1 e1 V1 q1 => ?_, hE⟩
  cases d with
  | true => exact ⟨F1, σ, M1, QD, ED, S.ext e1, V1, q1, hQ.ext e1, hE.ext e1⟩
  | false => exact hQ F1 false M1 H1 e1 V1 q1
theorem dw_or (ha : DB Z X W a Ba) (hb : DW Z X W (.BoolOp .Or (b :: rest) pos) Bb) : DW Z X W (.BoolOp .Or (a :: b :: rest) pos) (wOr Ba Bb) := by
  refine PW.imp (pw_or ha hb) fun τ H Q ⟨F, σ, M, QD, ED, S, V, h, hQ, hE⟩ => ?_
  refine ⟨F, σ, M, _, ED, S, V, h, fun F1 d M1 H1 e1 V1 q1 => ?_, hE⟩
  cases d with
  | false => exact ⟨F1, σ, M1, QD, ED, S.ext e1, V1, q1, hQ.ext e1, hE.ext e1⟩
  | true => exact hQ F1 true M1 H1 e1 V1 q1
theorem db_not (ha : DB Z X W a Ba) : DB Z X W (.UnaryOp .Not a pos) (wNot Ba) :=
  PT.imp (pt_not ha) fun τ H Q ⟨F, σ, M, QD, ED, S, V, h, hQ, hE⟩ => ⟨F, σ, M, _, ED, S, V, h, fun F1 d M1 H1 e1 V1 q1 => hQ F1 (!d) M1 H1 e1 V1 q1, hE⟩
/-- as values -/
def wAndV (Ta Tb : DTE) : DTE := fun σ M Q E => Ta σ M (fun d M1 => ∃ b, d = .bl b ∧ if b = true then Tb σ M1 Q E else Q (.bl false) M1) E
def wOrV (Ta Tb : DTE) : DTE := fun σ M Q E => Ta σ M (fun d M1 => ∃ b, d = .bl b ∧ if b = true then Q (.bl true) M1 else Tb σ M1 Q E) E
theorem de_one {op : BoolOp} (h : DE Z X W a Ta) : DE Z X W (.BoolOp op [a] pos) Ta := pe_one h
theorem de_and (ha : DE Z X W a Ta) (hb : DE Z X W (.BoolOp .And (b :: rest) pos) Tb) : DE Z X W (.BoolOp .And (a :: b :: rest) pos) (wAndV Ta Tb) := by
  refine PE.imp (pe_and ha hb) fun τ H Q ⟨F, σ, M, QD, ED, S, V, h, hQ, hE⟩ => ?_
  refine ⟨F, σ, M, _, ED, S, V, h, fun F1 d v M1 H1 e1 V1 r1 q1 => ?_, hE⟩
  obtain ⟨b, rfl, q1⟩ := q1
  refine ⟨b, r1.bl_of, ?_⟩
  cases b with
  | true => exact ⟨F1, σ, M1, QD, ED, S.ext e1, V1, q1, hQ.ext e1, hE.ext e1⟩
  | false => exact hQ F1 (.bl false) (.bl false) M1 H1 e1 V1 (.bl _) q1
theorem de_or (ha : DE Z X W a Ta) (hb : DE Z X W (.BoolOp .Or (b :: rest) pos) Tb) : DE Z X W (.BoolOp .Or (a :: b :: rest) pos) (wOrV Ta Tb) := by
  refine PE.imp (pe_or ha hb) fun τ H Q ⟨F, σ, M, QD, ED, S, V, h, hQ, hE⟩ => ?_
  refine ⟨F, σ, M, _, ED, S, V, h, fun F1 d v M1 H1 e1 V1 r1 q1 => ?_, hE⟩
  obtain ⟨b, rfl, q1⟩ := q1
  refine ⟨b, r1.bl_of, ?_⟩
  cases b with
  | false => exact ⟨F1, σ, M1, QD, ED, S.ext e1, V1, q1, hQ.ext e1, hE.ext e1⟩
  | true => exact hQ F1 (.bl true) (.bl true) M1 H1 e1 V1 (.bl _) q1
def wNotV (Ta : DTE) : DTE := fun σ M Q E => Ta σ M (fun d M1 => ∃ b, d = .bl b ∧ Q (.bl (!b)) M1) E
theorem de_not (ha : DE Z X W a Ta) : DE Z X W (.UnaryOp .Not a pos) (wNotV Ta) := by
  refine PE.imp (pe_not ha) fun τ H Q ⟨F, σ, M, QD, ED, S, V, h, hQ, hE⟩ => ?_
  refine ⟨F, σ, M, _, ED, S, V, h, fun F1 d v M1 H1 e1 V1 r1 q1 => ?_, hE⟩
  obtain ⟨b, rfl, q1⟩ := q1
  exact ⟨b, r1.bl_of, hQ F1 (.bl (!b)) (.bl (!b)) M1 H1 e1 V1 (.bl _) q1⟩
def wIte (Bc : DTT) (Ta Tb : DTE) : DTE := fun σ M Q E => Bc σ M (fun b M1 => if b = true then Ta σ M1 Q E else Tb σ M1 Q E) E
theorem de_ite {Bc : DTT} (hc : DB Z X W c Bc) (ha : DE Z X W a Ta) (hb : DE Z X W b Tb) : DE Z X W (.IfExp c a b pos) (wIte Bc Ta Tb) := by
  refine PE.imp (pe_ifExp hc ha hb) fun τ H Q ⟨F, σ, M, QD, ED, S, V, h, hQ, hE⟩ => ?_
  refine ⟨F, σ, M, _, ED, S, V, h, fun F1 d M1 H1 e1 V1 q1 => ?_, hE⟩
  cases d with
  | true => exact ⟨F1, σ, M1, QD, ED, S.ext e1, V1, q1, hQ.ext e1, hE.ext e1⟩
  | false => exact ⟨F1, σ, M1, QD, ED, S.ext e1, V1, q1, hQ.ext e1, hE.ext e1⟩
def wNil : DTA := fun _ M Q _ => Q [] M
def wCons (Ta : DTE) (Tr : DTA) : DTA := fun σ M Q E => Ta σ M (fun d M1 => Tr σ M1 (fun ds M2 => Q (d :: ds) M2) E) E
variable {es : List Expr} {Tr : DTA}
theorem da_nil : DA Z X W [] wNil := PA.imp pa_nil fun τ H Q ⟨F, σ, M, QD, ED, S, V, h, hQ, hE⟩ => hQ F [] [] M H Ext.rfl' V .nil h
theorem da_cons (ha : DE Z X W e Ta) (hr : DA Z X W es Tr) (hs : starEach (e :: es) X.env = (false, eval e X.env) :: starEach es X.env) : DA Z X W (e :: es) (wCons Ta Tr) :=
  PA.imp (pa_cons ha hr hs) fun τ H Q ⟨F, σ, M, QD, ED, S, V, h, hQ, hE⟩ => ⟨F, σ, M, _, ED, S, V, h, fun F1 d1 v1 M1 H1 e1 V1 r1 q1 =>
    ⟨F1, σ, M1, _, ED, S.ext e1, V1, q1, fun F2 ds vs M2 H2 e2 V2 r2 q2 => hQ F2 _ _ M2 H2 (e1.trans e2) V2 (.cons (r1.ext e2) r2) q2, hE.ext e1⟩, hE⟩
def wTup (Tr : DTA) : DTE := fun σ M Q E => Tr σ M (fun ds M1 => ds.length ≤ LL ∧ Q (.tup ds) M1) E
def wLst (Tr : DTA) : DTE := fun σ M Q E => Tr σ M (fun ds M1 => ds.length ≤ LL ∧ ∀ p, M1 p = none → Q (.ref p) (mup M1 p (.lst ds))) E
theorem de_tup {x1 : Nat} (h : DA Z X W es Tr) : DE Z X W (.Tuple es x1 pos) (wTup Tr) :=
  PE.imp (pe_tup h) fun τ H Q ⟨F, σ, M, QD, ED, S, V, h, hQ, hE⟩ => ⟨F, σ, M, _, ED, S, V, h, fun F1 ds vs M1 H1 e1 V1 r1 ⟨hl, q1⟩ => ⟨by rw [LL_eq, ← r1.length]; exact hl, fun p hp => by
    have e2 := Ext.new (o := .tup vs) (V1.free hp).2
    exact hQ _ _ _ M1 _ (e1.trans e2) (V1.newT hp) (.tup (SqT.of upd_same) (r1.ext e2)) q1⟩, hE⟩
theorem de_lst (h : DA Z X W es Tr) : DE Z X W (.List es pos) (wLst Tr) :=
  PE.imp (pe_lst h) fun τ H Q ⟨F, σ, M, QD, ED, S, V, h, hQ, hE⟩ => ⟨F, σ, M, _, ED, S, V, h, fun F1 ds vs M1 H1 e1 V1 r1 ⟨hl, q1⟩ => ⟨by rw [LL_eq, ← r1.length]; exact hl, fun p hp =>
    hQ F1 _ _ _ _ e1 (V1.newL hp r1) (.ref p) (q1 p (V1.free hp).1)⟩, hE⟩
/-- a field of data or of a mutable instance -/
def pAttr (d : D) (f : String) (M : Hm) (Q : DK) : Prop := match d with
  | .ins _ fs => ∃ y, fs.lookup f = some y ∧ Q y M
  | .ref a => ∃ c fs y, M a = some (.ins c fs) ∧ fs.lookup f = some y ∧ Q y M
  | _ => False
def wAttr (Ta : DTE) (f : String) : DTE := fun σ M Q E => Ta σ M (fun d M1 => pAttr d f M1 Q) E
/-- what is known of the classes: no class has one of these names -/
structure Clz (Z : Zn) (fields : List String) : Prop where
  cl : ∀ c ∈ Z.cs, Cls Z.K (Z.ca c)
  no : ∀ c ∈ Z.cs, ∀ f ∈ fields, NoAttr Z.K (Z.ca c) (Str.ofString f)
theorem de_attr {fields : List String} {f : String} {x : Str} (hz : Z.K = X.K) (C : Clz Z fields) (hf : f ∈ fields) (hx : Str.ofString f = x) (h : DE Z X W e Ta) (hb : attributeBase e x X.env (eval e X.env) = eval e X.env) : DE Z X W (.Attribute e x pos) (wAttr Ta f) := by
  subst hx
  refine PE.imp (pe_fld h hb) fun τ H Q ⟨F, σ, M, QD, ED, S, V, h, hQ, hE⟩ => ?_
  refine ⟨F, σ, M, _, ED, S, V, h, fun F1 d v M1 H1 e1 V1 r1 q1 => ?_, hE⟩
  cases d with
  | ins c fs =>
    obtain ⟨a, dx, gs, rfl, hm, ha, hr⟩ := r1.ins_of
    obtain ⟨y, hy, q1⟩ := q1
    obtain ⟨w, h1, h2⟩ := hr.lookup hy
    rw [← hz]
    exact ⟨a, _, dx, gs, w, rfl, V1.sub _ _ ha, C.cl c hm, C.no c hm f hf, h1, hQ F1 y w M1 H1 e1 V1 h2 q1⟩
  | ref a =>
    cases r1.ref_of
    obtain ⟨c, fs, y, hM, hy, q1⟩ := q1
    obtain ⟨dx, gs, hm, ha, hr⟩ := V1.ins hM
    obtain ⟨w, h1, h2⟩ := hr.lookup hy
    rw [← hz]
    exact ⟨a, _, dx, gs, w, rfl, ha, C.cl c hm, C.no c hm f hf, h1, hQ F1 y w M1 H1 e1 V1 h2 q1⟩
  | _ => exact q1.elim
/-- the base of an attribute is evaluated as it stands -/
theorem attrBase_ok {o : Expr} {x : Str} {env : Env} {t : Sem Value} (h : ∀ p pos, o ≠ .Call (.Name "super" p) [] [] pos) : attributeBase o x env t = t := by
  unfold attributeBase
  split
  · rename_i id p pos
    have : id ≠ "super" := fun e => h p pos (by rw [e])
    have e : (id != ("super" : Str)) = true := by simpa using this
    simp only [e, Bool.true_or, if_true]
  · rfl
end
end DL
namespace DL
open PySem PySem.Spec PyProof.Rows L2
abbrev DSp := List D → Hm → DK → DX → Prop
def spOf (Z : Zn) (n : Nat) (S : DSp) : Sp := fun vs H Q E => ∃ F ds M QD ED, ds.length = n ∧ RDs Z F ds vs ∧ View Z F M H ∧ S ds M QD ED ∧ WQ Z F QD Q ∧
  (∀ G x cv dct M' H', Ext F G → View Z G M' H' → RX Z G x cv dct → ED x M' → E cv dct H')
theorem spOf.len {Z : Zn} {n : Nat} {S : DSp} {vs : List V} {H : Hp} {Q : VK} {E : XK} (h : spOf Z n S vs H Q E) : vs.length = n := by
  obtain ⟨F, ds, M, QD, ED, hl, r, _⟩ := h
  rw [← r.length]; exact hl
section
variable {X : Cx} {x : Str} {p pos : Pos} {es : List Expr} {kws : List Keyword} {t tk : TA} {fv : Value} {ks : List Str}
/-- what calling it comes to -/
def CallG (X : Cx) (fv : Value) (ks : List Str) (R : L2.St → List V → List V → Hp → VK → Prop) : Prop :=
  ∀ (pins : List (Addr × Obj)) (s : Shared) (τ : L2.St) (H : Hp) (vs zs : List V) (us ws : List Value) (Q : VK), Inv X pins τ H s → Vals vs us → Vals zs ws → R τ vs zs H Q →
    wpAny (model X.prog X.w) X.A (call fv us (ks.zip ws)) (EP X pins τ Q) X.xe s
def tCG (R : L2.St → List V → List V → Hp → VK → Prop) (t tk : TA) : TE := fun τ H Q => t τ H fun vs H1 => tk τ H1 fun zs H2 => R τ vs zs H2 Q
theorem pe_callG {R : L2.St → List V → List V → Hp → VK → Prop} {e : Expr} (hR : CallG X fv ks R) (hg : Gl X x) (hm : X.mg x = some fv) (hk : PySem.W.keepIn X.K fv = true) (ha : PA X (e :: es) t) (hkw : PK X kws tk)
    (hall : (backToKw pos (keywordEach kws X.env)).all (·.1.isSome) = true) (hks : (backToKw pos (keywordEach kws X.env)).filterMap (·.1) = ks)
    (hdb : (x == ("__debug__" : Str)) = false) (he : starEach (e :: es) X.env = (false, eval e X.env) :: starEach es X.env)
    (hpl : (backTo pos (starEach (e :: es) X.env)).any (·.1) = false) (hpk : (backToKw pos (keywordEach kws X.env)).any (·.1.isNone) = false) :
    PE X (.Call (.Name x p) (e :: es) kws pos) (tCG R t tk) := by
  refine ⟨fun pins s τ H Q I h => ?_⟩
  refine wpAny_Call_Name_kw (ld_glob I hg hm ?_ hdb)
  refine PySem.W.callWith_KW (h₀ := X.base) I.ok.mod.kin hk hall (thn (ha.run pos pins s τ H _ I h) fun us s1 ⟨vs, H1, I1, r, q⟩ => ?_) (by rw [hpl, hpk]; rfl) he
  refine thn (hkw.run pos pins s1 τ H1 _ I1 q) fun ws s2 ⟨zs, H2, I2, rz, q2⟩ => ⟨I2.kIn, ?_⟩
  rw [hks]
  exact hR pins s2 τ H2 vs zs us ws Q I2 r rz q2
theorem pe_callG0 {R : L2.St → List V → List V → Hp → VK → Prop} (hR : CallG X fv ks R) (hg : Gl X x) (hm : X.mg x = some fv) (hk : PySem.W.keepIn X.K fv = true) (hkw : PK X kws tk)
    (hall : (backToKw pos (keywordEach kws X.env)).all (·.1.isSome) = true) (hks : (backToKw pos (keywordEach kws X.env)).filterMap (·.1) = ks)
    (hdb : (x == ("__debug__" : Str)) = false) (hpk : (backToKw pos (keywordEach kws X.env)).any (·.1.isNone) = false) :
    PE X (.Call (.Name x p) [] kws pos) (tCG R tNil tk) := by
  refine ⟨fun pins s τ H Q I h => ?_⟩
  refine wpAny_Call_Name_kw (ld_glob I hg hm ?_ hdb)
  refine PySem.W.callWith_KW0 (h₀ := X.base) I.ok.mod.kin hk hall ?_ (by rw [hpk]; rfl)
  refine thn (hkw.run pos pins s τ H _ I h) fun ws s2 ⟨zs, H2, I2, rz, q2⟩ => ⟨I2.kIn, ?_⟩
  rw [hks]
  exact hR pins s2 τ H2 [] zs [] ws Q I2 .nil rz q2
end
/-- for each parameter: the written argument's place, or a default -/
inductive Ar where
  | arg (j : Nat) | dfl (d : D)
/-- defaults are plain -/
def D.flat : D → Option V
  | .non => some .non | .bl b => some (.bl b) | .int i => some (.int i) | .str x => some (.str (sv x))
  | _ => none
theorem D.flat_ok {Z : Zn} {F : Hp} {d : D} {v : V} (h : d.flat = some v) : RD Z F d v := by
  cases d <;> first | (cases h; constructor) | cases h
def arD (ar : List Ar) (ds : List D) : List D := ar.map fun | .arg j => ds.getD j .non | .dfl d => d
def arV (ar : List Ar) (vs : List V) : List V := ar.map fun | .arg j => vs.getD j .non | .dfl d => d.flat.getD .non
def Ar.ok (n : Nat) : Ar → Bool
  | .arg j => decide (j < n)
  | .dfl d => d.flat.isSome
theorem arRel {Z : Zn} {F : Hp} {ds : List D} {vs : List V} (r : RDs Z F ds vs) : ∀ {ar : List Ar}, ar.all (Ar.ok ds.length) = true → RDs Z F (arD ar ds) (arV ar vs)
  | [], _ => .nil
  | .arg j :: ar, h => by
    rw [List.all_cons, Bool.and_eq_true] at h
    have hj : j < ds.length := of_decide_eq_true h.1
    obtain ⟨v, h1, h2⟩ := r.get (List.getElem?_eq_getElem hj)
    refine .cons ?_ (arRel r h.2)
    show RD Z F (ds.getD j .non) (vs.getD j .non)
    rw [List.getD_eq_getElem?_getD, List.getD_eq_getElem?_getD, h1, List.getElem?_eq_getElem hj]
    exact h2
  | .dfl d :: ar, h => by
    rw [List.all_cons, Bool.and_eq_true] at h
    obtain ⟨v, hv⟩ := Option.isSome_iff_exists.mp h.1
    refine .cons ?_ (arRel r h.2)
    show RD Z F d (d.flat.getD .non)
    rw [hv]
    exact D.flat_ok hv
/-- a call of the def at f by n places and the keywords ks -/
structure Shape (K : PySem.W.Frag) (fd : FuncData) (ps : List Str) (n : Nat) (ks : List Str) (ar : List Ar) : Prop where
  ok : ar.all (Ar.ok (n + ks.length)) = true
  kb : ∃ g, KBn K fd ps n ks g (fun vs zs => arV ar (vs ++ zs))
section
variable {Z : Zn} {X : Cx} {W : WX} {k n : Nat} {f C : Addr} {fd : FuncData} {ps ks : List Str} {ar : List Ar} {S : DSp} {x : Str} {p pos : Pos} {e : Expr} {es : List Expr} {kws : List Keyword} {Tr Tk : DTA}
theorem callG_fn {sp : Sp} {g : List Value → List Value → List Value} {gV : List V → List V → List V} (F : FnOk X.prog X.w X.K X.mg X.base (CX X.prog X.w) k f fd ps sp) (hr : Room k X.A) (hb : KBn X.K fd ps n ks g gV) (tk : Takes X W) :
    CallG X (.ref f) ks (fun τ vs zs H Q => vs.length = n ∧ zs.length = ks.length ∧ sp (gV vs zs) H Q (L2.WE W τ)) := by
  rintro pins s τ H vs zs us ws Q I r rz ⟨l1, l2, h⟩
  have r2 := hb.rel r rz
  refine wpAny_call (codeAny_mono (F.run X.A X.stack s H ⟨us, ks.zip ws⟩ (g us ws) (gV vs zs) Q (L2.WE W τ) hr I.env0 (hb.to s us ws I.kIn (r.length.symm.trans l1) (rz.length.symm.trans l2)) r2 h) fun r s' hq => ?_)
  cases r with
  | error e => exact passAt tk τ pins H s e s' I hq
  | ok fl =>
    cases fl with
    | ret u => exact I.after hq
    | next => exact False.elim hq
    | brk => exact False.elim hq
    | cont => exact False.elim hq
/-- C(..): a new instance, then __init__ -/
theorem callG_mk {sp : Sp} {g : List Value → List Value → List Value} {gV : List V → List V → List V} (M : Mk X.K C f) (F : FnOk X.prog X.w X.K X.mg X.base (CX X.prog X.w) k f fd ps sp) (hr : Room (k + 1) X.A) (hb : KBn X.K fd ps (n + 1) ks g gV) (tk : Takes X W) :
    CallG X (.ref C) ks (fun τ vs zs H Q => vs.length = n ∧ zs.length = ks.length ∧ ∀ x dx, H x = none → H dx = none → dx ≠ x →
      sp (gV (.ref x :: vs) zs) (upd (upd H dx (.own x)) x (.ins C dx [])) (fun v H2 => v = .non ∧ Q (.ref x) H2) (L2.WE W τ)) := by
  rintro pins s σ H vs zs us ws Q I r rz ⟨l1, l2, h⟩
  have hq := h (s.heap.objs.size + 1) s.heap.objs.size (I.hok.fresh (Nat.le_succ _)) (I.hok.fresh (Nat.le_refl _)) (Nat.ne_of_lt (Nat.lt_succ_self _))
  have I2 := Inv.made (C := C) I
  have r1 : Vals (V.ref (s.heap.objs.size + 1) :: vs) (Value.ref (s.heap.objs.size + 1) :: us) := .cons rfl r
  have r2 := hb.rel r1 rz
  have e1 : (Value.ref (s.heap.objs.size + 1) :: us).length = n + 1 := r1.length.symm.trans (congrArg Nat.succ l1)
  have e2 : ws.length = ks.length := rz.length.symm.trans l2
  refine wpAny_call (make_map (f := f) I.kIn M.makes M.init (beq_iff_eq.mp M.fn) (codeAny_mono (F.run _ X.stack _ _ ⟨Value.ref (s.heap.objs.size + 1) :: us, ks.zip ws⟩ (g (Value.ref (s.heap.objs.size + 1) :: us) ws) _ _ (L2.WE W σ) (hr.make C us (ks.zip ws))
    (I2.env0.make C us (ks.zip ws)) (hb.to _ (Value.ref (s.heap.objs.size + 1) :: us) ws I2.kIn e1 e2) r2 hq) fun r s' hq' => ?_))
  cases r with
  | error e => exact passAt tk σ pins _ _ e s' I2 hq'
  | ok fl =>
    cases fl with
    | ret u =>
      obtain ⟨v, H', I3, rv, ev, q3⟩ := I2.after hq'
      subst ev
      exact ⟨rv, ⟨V.ref (s.heap.objs.size + 1), H', I3, rfl, q3⟩⟩
    | next => exact False.elim hq'
    | brk => exact False.elim hq'
    | cont => exact False.elim hq'
abbrev DKw (Z : Zn) (X : Cx) (W : WX) (kws : List Keyword) (T : DTA) : Prop := PK X kws (aOf Z W T)
/-- positional values, keywords' values, then the promise -/
def wCall (n m : Nat) (ar : List Ar) (S : DSp) (Tr Tk : DTA) : DTE := fun σ M Q E => Tr σ M (fun ds M1 => Tk σ M1 (fun es M2 => ds.length = n ∧ es.length = m ∧ S (arD ar (ds ++ es)) M2 Q E) E) E
theorem wCG_ok {R : L2.St → List V → List V → Hp → VK → Prop} {P : List D → List D → Hm → DK → DX → Prop} {Tr Tk : DTA}
    (hP : ∀ (F H : Hp) (M : Hm) (ds es : List D) (vs zs : List V) (τ : L2.St) (QD : DK) (ED : DX) (Q : VK), View Z F M H → RDs Z F ds vs → RDs Z F es zs → P ds es M QD ED → WQ Z F QD Q → WE Z W F τ ED → R τ vs zs H Q) :
    ∀ τ H Q, tOf Z W (fun σ M Q E => Tr σ M (fun ds M1 => Tk σ M1 (fun es M2 => P ds es M2 Q E) E) E) τ H Q → tCG R (aOf Z W Tr) (aOf Z W Tk) τ H Q :=
  fun τ H Q ⟨F, σ, M, QD, ED, Sr, V, h, hQ, hE⟩ => ⟨F, σ, M, _, ED, Sr, V, h, fun F1 ds vs M1 H1 e1 V1 r1 q1 => ⟨F1, σ, M1, _, ED, Sr.ext e1, V1, q1, fun F2 es zs M2 H2 e2 V2 r2 q2 =>
    hP F2 H2 M2 ds es vs zs τ QD ED Q V2 (r1.ext e2) r2 q2 (hQ.ext (e1.trans e2)) (hE.ext (e1.trans e2)), hE.ext e1⟩, hE⟩
theorem wCall_ok (sh : ar.all (Ar.ok (n + ks.length)) = true) (hn : ar.length = ps.length) :
    ∀ τ H Q, tOf Z W (wCall n ks.length ar S Tr Tk) τ H Q → tCG (fun τ vs zs H Q => vs.length = n ∧ zs.length = ks.length ∧ spOf Z ps.length S (arV ar (vs ++ zs)) H Q (L2.WE W τ)) (aOf Z W Tr) (aOf Z W Tk) τ H Q :=
  wCG_ok (P := fun ds es M2 Q E => ds.length = n ∧ es.length = ks.length ∧ S (arD ar (ds ++ es)) M2 Q E) fun F H M ds es vs zs τ QD ED Q V r1 r2 ⟨l1, l2, q⟩ hQ hE => by
    refine ⟨r1.length.symm.trans l1, r2.length.symm.trans l2, F, _, M, QD, ED, ?_, arRel (r1.append r2) (by rw [List.length_append, l1, l2]; exact sh), V, q, hQ, hE⟩
    unfold arD
    rw [List.length_map]
    exact hn
theorem de_call (F : FnOk X.prog X.w X.K X.mg X.base (CX X.prog X.w) k f fd ps (spOf Z ps.length S)) (hr : Room k X.A) (sh : Shape X.K fd ps n ks ar) (hn : ar.length = ps.length) (tk : Takes X W) (hg : Gl X x) (hm : X.mg x = some (.ref f)) (hk : PySem.W.keepIn X.K (.ref f) = true)
    (ha : DA Z X W (e :: es) Tr) (hkw : DKw Z X W kws Tk)
    (hall : (backToKw pos (keywordEach kws X.env)).all (·.1.isSome) = true) (hks : (backToKw pos (keywordEach kws X.env)).filterMap (·.1) = ks)
    (hdb : (x == ("__debug__" : Str)) = false) (he : starEach (e :: es) X.env = (false, eval e X.env) :: starEach es X.env)
    (hpl : (backTo pos (starEach (e :: es) X.env)).any (·.1) = false) (hpk : (backToKw pos (keywordEach kws X.env)).any (·.1.isNone) = false) :
    DE Z X W (.Call (.Name x p) (e :: es) kws pos) (wCall n ks.length ar S Tr Tk) := by
  obtain ⟨g, hb⟩ := sh.kb
  exact PE.imp (pe_callG (callG_fn F hr hb tk) hg hm hk ha hkw hall hks hdb he hpl hpk) (wCall_ok sh.ok hn)
theorem wNil_imp {t : TA} {R : L2.St → List V → List V → Hp → VK → Prop} : ∀ τ H Q, tCG R (aOf Z W wNil) t τ H Q → tCG R tNil t τ H Q :=
  fun τ H Q ⟨F, σ, M, QD, ED, Sr, V, h, hQ, hE⟩ => hQ F [] [] M H Ext.rfl' V .nil h
theorem de_call0 (F : FnOk X.prog X.w X.K X.mg X.base (CX X.prog X.w) k f fd ps (spOf Z ps.length S)) (hr : Room k X.A) (sh : Shape X.K fd ps n ks ar) (hn : ar.length = ps.length) (tk : Takes X W) (hg : Gl X x) (hm : X.mg x = some (.ref f)) (hk : PySem.W.keepIn X.K (.ref f) = true)
    (hkw : DKw Z X W kws Tk)
    (hall : (backToKw pos (keywordEach kws X.env)).all (·.1.isSome) = true) (hks : (backToKw pos (keywordEach kws X.env)).filterMap (·.1) = ks)
    (hdb : (x == ("__debug__" : Str)) = false) (hpk : (backToKw pos (keywordEach kws X.env)).any (·.1.isNone) = false) :
    DE Z X W (.Call (.Name x p) [] kws pos) (wCall n ks.length ar S wNil Tk) := by
  obtain ⟨g, hb⟩ := sh.kb
  exact PE.imp (pe_callG0 (callG_fn F hr hb tk) hg hm hk hkw hall hks hdb hpk) fun τ H Q h => wNil_imp τ H Q (wCall_ok sh.ok hn τ H Q h)
/-- what C(ds) comes to by its __init__: a frozen instance | one that stays mutable -/
def pMakeF (c : String) (S : DSp) (ds : List D) (M : Hm) (Q : DK) (E : DX) : Prop := ∀ x, M x = none → S (.ref x :: ds) (mup M x (.ins c [])) (fun r N => r = .non ∧ ∃ fs N', N x = some (.ins c fs) ∧ Sub N' (mdel N x) ∧ Q (.ins c fs) N') E
def pMakeM (c : String) (S : DSp) (ds : List D) (M : Hm) (Q : DK) (E : DX) : Prop := ∀ x, M x = none → S (.ref x :: ds) (mup M x (.ins c [])) (fun r N => r = .non ∧ Q (.ref x) N) E
theorem View.newI {F H : Hp} {M : Hm} {c : String} {x dx : Addr} (v : View Z F M H) (hc : c ∈ Z.cs) (hx : H x = none) (hdx : H dx = none) (hne : dx ≠ x) : View Z F (mup M x (.ins c [])) (upd (upd H dx (.own x)) x (.ins (Z.ca c) dx [])) := by
  refine ⟨(v.sub.trans (Ext.new hdx)).trans (Ext.new (by rw [upd_ne hne.symm]; exact hx)), fun b m e => ?_⟩
  by_cases q : b = x
  · subst q
    rw [mup_same] at e; cases e
    exact ⟨(v.free hx).2, _, upd_same, hc, rfl, .nil⟩
  · rw [mup_ne q] at e
    obtain ⟨h1, o, h2, h3⟩ := v.mt b m e
    have q2 : b ≠ dx := ne_of_none h2 hdx
    exact ⟨h1, o, by rw [upd_ne q, upd_ne q2]; exact h2, h3⟩
theorem mk_frozen {c : String} (hc : c ∈ Z.cs) {F H : Hp} {M : Hm} {ds : List D} {vs : List V} {τ : L2.St} {QD : DK} {ED : DX} {Q : VK} (hl : (D.ref 0 :: ds).length = n) (V0 : View Z F M H) (r : RDs Z F ds vs) (h : pMakeF c S ds M QD ED) (hQ : WQ Z F QD Q) (hE : WE Z W F τ ED) :
    ∀ x dx, H x = none → H dx = none → dx ≠ x → spOf Z n S (.ref x :: vs) (upd (upd H dx (.own x)) x (.ins (Z.ca c) dx [])) (fun v H2 => v = .non ∧ Q (.ref x) H2) (L2.WE W τ) := fun x dx hx hdx hne => by
  refine ⟨F, .ref x :: ds, _, _, ED, hl, .cons (.ref x) r, V0.newI hc hx hdx hne, h x (V0.free hx).1, fun G d v N H2 e V2 rd hq => ?_, hE⟩
  obtain ⟨rfl, fs, N', h1, h2, h3⟩ := hq
  refine ⟨rd.non_of, ?_⟩
  obtain ⟨G', e2, V3, r3⟩ := V2.freeze h1
  exact hQ G' _ _ N' H2 (e.trans e2) (V3.less h2) r3 h3
theorem mk_mutable {c : String} (hc : c ∈ Z.cs) {F H : Hp} {M : Hm} {ds : List D} {vs : List V} {τ : L2.St} {QD : DK} {ED : DX} {Q : VK} (hl : (D.ref 0 :: ds).length = n) (V0 : View Z F M H) (r : RDs Z F ds vs) (h : pMakeM c S ds M QD ED) (hQ : WQ Z F QD Q) (hE : WE Z W F τ ED) :
    ∀ x dx, H x = none → H dx = none → dx ≠ x → spOf Z n S (.ref x :: vs) (upd (upd H dx (.own x)) x (.ins (Z.ca c) dx [])) (fun v H2 => v = .non ∧ Q (.ref x) H2) (L2.WE W τ) := fun x dx hx hdx hne => by
  refine ⟨F, .ref x :: ds, _, _, ED, hl, .cons (.ref x) r, V0.newI hc hx hdx hne, h x (V0.free hx).1, fun G d v N H2 e V2 rd hq => ?_, hE⟩
  obtain ⟨rfl, h1⟩ := hq
  exact ⟨rd.non_of, hQ G _ _ N H2 e V2 (.ref x) h1⟩
end
end DL
namespace DL
open PySem PySem.Spec PyProof.Rows L2
section
variable {Z : Zn} {X : Cx} {W : WX} {e a b c : Expr} {pos pos' : Pos} {Ta Tb Tc : DTE} {st : Stmt} {sts : List Stmt} {S1 S2 : DTS}
def wSkip : DTS := fun K σ M => K.nx σ M
def wSeq (S1 S2 : DTS) : DTS := fun K σ M => S1 { K with nx := fun σ' M' => S2 K σ' M' } σ M
theorem dss_nil : DSs Z X W [] wSkip := PSs.imp pss_nil fun K τ H ⟨F, σ, M, KD, S, V, h, k⟩ => k.nx F σ τ M H Ext.rfl' S V h
theorem dss_cons (h1 : DS Z X W st S1) (h2 : DSs Z X W sts S2) : DSs Z X W (st :: sts) (wSeq S1 S2) :=
  PSs.imp (pss_cons h1 h2) fun K τ H ⟨F, σ, M, KD, S, V, h, k⟩ => ⟨F, σ, M, _, S, V, h, ⟨fun G σ' τ' M' H' e s v q => ⟨G, σ', M', KD, s, v, q, k.ext e⟩, k.rt, k.bk, k.ct, k.ex⟩⟩
theorem ds_pass : DS Z X W (.Pass pos) wSkip := PS.imp ps_pass fun K τ H ⟨F, σ, M, KD, S, V, h, k⟩ => k.nx F σ τ M H Ext.rfl' S V h
def wBrk : DTS := fun K σ M => K.bk σ M
def wCnt : DTS := fun K σ M => K.ct σ M
theorem ds_break : DS Z X W (.Break pos) wBrk := PS.imp ps_break fun K τ H ⟨F, σ, M, KD, S, V, h, k⟩ => k.bk F σ τ M H Ext.rfl' S V h
theorem ds_continue : DS Z X W (.Continue pos) wCnt := PS.imp ps_continue fun K τ H ⟨F, σ, M, KD, S, V, h, k⟩ => k.ct F σ τ M H Ext.rfl' S V h
theorem WK.we {F : Hp} {KD : DEn} {K : Ends} (k : WK Z W F KD K) {σ : SD} {τ : L2.St} (s : SRel Z F σ τ) : WE Z W F τ (fun x M => KD.ex x σ M) := WES.at_ k.ex s
def wDrop (T : DTE) : DTS := fun K σ M => T σ M (fun _ M1 => K.nx σ M1) (fun x M1 => K.ex x σ M1)
theorem ds_expr (h : DE Z X W e Ta) (hs : swapsWith e none pos.line X.env = pure false) : DS Z X W (.Expr e pos) (wDrop Ta) :=
  PS.imp (ps_expr h hs) fun K τ H ⟨F, σ, M, KD, S, V, h, k⟩ => ⟨F, σ, M, _, _, S, V, h, fun G d v M1 H1 e v1 r q => k.nx G σ τ M1 H1 e (S.ext e) v1 q, k.we S⟩
def wRet (T : DTE) : DTS := fun K σ M => T σ M K.rt (fun x M1 => K.ex x σ M1)
theorem ds_ret (h : DE Z X W e Ta) : DS Z X W (.Return (some e) pos) (wRet Ta) :=
  PS.imp (ps_ret h) fun K τ H ⟨F, σ, M, KD, S, V, h, k⟩ => ⟨F, σ, M, _, _, S, V, h, k.rt, k.we S⟩
def wRetN : DTS := fun K σ M => K.rt .non M
theorem ds_retN : DS Z X W (.Return none pos) wRetN := PS.imp ps_retN fun K τ H ⟨F, σ, M, KD, S, V, h, k⟩ => k.rt F .non .non M H Ext.rfl' V .non h
def wIf (B : DTT) (S1 S2 : DTS) : DTS := fun K σ M => B σ M (fun b M1 => if b = true then S1 K σ M1 else S2 K σ M1) (fun x M1 => K.ex x σ M1)
theorem ds_if {B : DTT} {s1 s2 : List Stmt} (hc : DB Z X W c B) (h1 : DSs Z X W s1 S1) (h2 : DSs Z X W s2 S2) : DS Z X W (.If c s1 s2 pos) (wIf B S1 S2) :=
  PS.imp (ps_if hc h1 h2) fun K τ H ⟨F, σ, M, KD, S, V, h, k⟩ => ⟨F, σ, M, _, _, S, V, h, fun G b M1 H1 e v1 q => by
    cases b with
    | true => exact ⟨G, σ, M1, KD, S.ext e, v1, q, k.ext e⟩
    | false => exact ⟨G, σ, M1, KD, S.ext e, v1, q, k.ext e⟩, k.we S⟩
abbrev DTG := D → SD → Hm → (SD → Hm → Prop) → DX → Prop
def gOf (Z : Zn) (W : WX) (T : DTG) : TG := fun v τ H Q => ∃ F σ M d QD ED, SRel Z F σ τ ∧ View Z F M H ∧ RD Z F d v ∧ T d σ M QD ED ∧ WS Z F QD Q ∧ WE Z W F τ ED
theorem PG.imp {t u : TG} (h : PG X e t) (i : ∀ v σ H Q, u v σ H Q → t v σ H Q) : PG X e u := ⟨fun pins s σ H v w Q I r q => h.run pins s σ H v w Q I r (i v σ H Q q)⟩
abbrev DG (Z : Zn) (X : Cx) (W : WX) (e : Expr) (T : DTG) : Prop := PG X e (gOf Z W T)
def wName (i : Nat) : DTG := fun d σ M Q _ => Q (σ.set i (some d)) M
theorem dg_name {i : Nat} {x : Str} (hN : X.N.Nodup) (hi : X.N[i]? = some x) (hx : Loc X.env.scope x) (hf : X.fn x = true ∨ X.env.scope.names.lookup x = some .local) : DG Z X W (.Name x pos) (wName i) :=
  PG.imp (pg_name hN hi hx hf) fun v τ H Q ⟨F, σ, M, d, QD, ED, S, V, r, h, hQ, hE⟩ => hQ F _ _ M H Ext.rfl' (S.set r i) V h
/-- several names at once -/
def setAll : List Nat → List D → SD → SD
  | i :: is, d :: ds, σ => setAll is ds (σ.set i (some d))
  | _, _, σ => σ
def wNames (is : List Nat) : DTG := fun d σ M Q _ => ∃ ds, d = .tup ds ∧ ds.length = is.length ∧ Q (setAll is ds σ) M
def gsOf (Z : Zn) (is : List Nat) : TGs := fun vs τ H Q => vs.length = is.length ∧ ∃ F, ∀ σ ds, SRel Z F σ τ → RDs Z F ds vs → True
/-- names at the V level -/
def setAllV : List Nat → List V → L2.St → L2.St
  | i :: is, d :: ds, σ => setAllV is ds (σ.set i (some d))
  | _, _, σ => σ
def gNames (is : List Nat) : TGs := fun vs τ H Q => vs.length = is.length ∧ Q (setAllV is vs τ) H
theorem PGs.imp {es : List Expr} {t u : TGs} (h : PGs X es t) (i : ∀ v σ H Q, u v σ H Q → t v σ H Q) : PGs X es u := ⟨fun pins s σ H v w Q I r q => h.run pins s σ H v w Q I r (i v σ H Q q)⟩
theorem pgs_names0 : PGs X [] (gNames []) := PGs.imp pgs_nil fun vs τ H Q ⟨hl, q⟩ => by
  cases vs with
  | nil => exact ⟨rfl, q⟩
  | cons v vs => cases hl
theorem pgs_namesC {i : Nat} {is : List Nat} {x : Str} {p : Pos} {es : List Expr} (hN : X.N.Nodup) (hi : X.N[i]? = some x) (hx : Loc X.env.scope x) (hf : X.fn x = true ∨ X.env.scope.names.lookup x = some .local) (h : PGs X es (gNames is)) : PGs X (.Name x p :: es) (gNames (i :: is)) :=
  PGs.imp (pgs_cons (pg_name hN hi hx hf) h rfl) fun vs τ H Q ⟨hl, q⟩ => by
    cases vs with
    | nil => cases hl
    | cons v vs => exact ⟨v, vs, rfl, Nat.succ.inj hl, q⟩
theorem srel_all {F : Hp} : ∀ (is : List Nat) {ds : List D} {vs : List V} {σ : SD} {τ : L2.St}, SRel Z F σ τ → RDs Z F ds vs → SRel Z F (setAll is ds σ) (setAllV is vs τ)
  | [], _, _, _, _, s, .nil => s
  | [], _, _, _, _, s, .cons _ _ => s
  | _ :: _, _, _, _, _, s, .nil => s
  | i :: is, _, _, _, _, s, .cons h r => srel_all is (s.set h i) r
theorem dg_names {is : List Nat} {es : List Expr} {k : Nat} (hz : Z.K = X.K) (hc : X.calm = true) (h : PGs X es (gNames is)) (hn : (assignEach es X.env).length = is.length) (hst : (assignEach es X.env).findIdx? (·.1) = none) : DG Z X W (.Tuple es k pos) (wNames is) :=
  PG.imp (pg_tup hc h hn hst) fun v τ H Q ⟨F, σ, M, d, QD, ED, S, V, r, h, hQ, hE⟩ => by
    obtain ⟨ds, rfl, hl, q⟩ := h
    obtain ⟨a, vs, rfl, ha, rs⟩ := r.tup_of
    refine ⟨a, vs, rfl, by rw [← hz]; exact SqT.sub V ha, rs.length.symm.trans hl, rs.length.symm.trans hl, hQ F _ _ M H Ext.rfl' (srel_all is S rs) V q⟩
/-- target = e -/
def wAsg (T : DTE) (G : DTG) : DTS := fun K σ M => T σ M (fun d M1 => G d σ M1 K.nx (fun x M2 => K.ex x σ M2)) (fun x M1 => K.ex x σ M1)
theorem wAsg_ok {G : DTG} : ∀ K τ H, sOf Z W (wAsg Ta G) K τ H → tAsg (tOf Z W Ta) (gOf Z W G) K τ H := fun K τ H ⟨F, σ, M, KD, S, V, h, k⟩ =>
  ⟨F, σ, M, _, _, S, V, h, fun G1 d v M1 H1 e v1 r q => ⟨G1, σ, M1, d, _, _, S.ext e, v1, r, q, k.nx.ext e, (k.ext e).we (S.ext e)⟩, k.we S⟩
theorem ds_asg {tg : Expr} {G : DTG} (he : DE Z X W e Ta) (hg : DG Z X W tg G) (hs : swapsWithSole [tg] e pos.line X.env = pure false) (hw : swappedStores [tg] e X.env = pure none) (h1 : (assignEach [tg] X.env).map (·.2) = [assign tg X.env]) : DS Z X W (.Assign [tg] e pos) (wAsg Ta G) :=
  PS.imp (ps_asg he hg hs hw h1) wAsg_ok
theorem ds_set {i : Nat} {x : Str} (hN : X.N.Nodup) (hi : X.N[i]? = some x) (hx : Loc X.env.scope x) (hf : X.fn x = true ∨ X.env.scope.names.lookup x = some .local) (he : DE Z X W e Ta) (hs : swapsWith e (some (.Name x pos')) pos.line X.env = pure false) : DS Z X W (.Assign [.Name x pos'] e pos) (wAsg Ta (wName i)) :=
  PS.imp (ps_set hN hi hx he hs hf) fun K τ H ⟨F, σ, M, KD, S, V, h, k⟩ => ⟨F, σ, M, _, _, S, V, h, fun G1 d v M1 H1 e v1 r q => k.nx G1 _ _ M1 H1 e ((S.ext e).set r i) v1 q, k.we S⟩
/-- o.f = e: e first -/
def pSetA (o : D) (f : String) (y : D) (M : Hm) (Q : Hm → Prop) : Prop := match o with
  | .ref a => ∃ c fs, M a = some (.ins c fs) ∧ fs.length < 1000 ∧ Q (mup M a (.ins c (putD f y fs)))
  | _ => False
def wSetA (To Tv : DTE) (f : String) : DTS := fun K σ M => Tv σ M (fun y M1 => To σ M1 (fun o M2 => pSetA o f y M2 (fun M3 => K.nx σ M3)) (fun x M2 => K.ex x σ M2)) (fun x M1 => K.ex x σ M1)
theorem ds_setA {fields : List String} {f : String} {x : Str} {o : Expr} (hz : Z.K = X.K) (C : Clz Z fields) (hf : f ∈ fields) (hx : Str.ofString f = x) (ho : DE Z X W o Ta) (hv : DE Z X W e Tb) (hs : swapsWith e (some (.Attribute o x pos')) pos.line X.env = pure false) :
    DS Z X W (.Assign [.Attribute o x pos'] e pos) (wSetA Ta Tb f) := by
  subst hx
  refine PS.imp (ps_fld ho hv hs) fun K τ H ⟨F, σ, M, KD, S, V, h, k⟩ => ⟨F, σ, M, _, _, S, V, h, fun G y v M1 H1 e v1 r q => ⟨G, σ, M1, _, _, S.ext e, v1, q, fun G2 d w M2 H2 e2 v2 r2 q2 => ?_, (k.ext e).we (S.ext e)⟩, k.we S⟩
  cases d with
  | ref a =>
    cases r2.ref_of
    obtain ⟨c, fs, hM, hl, q2⟩ := q2
    obtain ⟨dx, gs, hm, ha, hr⟩ := v2.ins hM
    rw [← hz]
    refine ⟨a, _, dx, gs, rfl, ha, C.cl c hm, C.no c hm f hf, by rw [← hr.length]; exact hl, k.nx G2 σ τ _ _ (e.trans e2) ((S.ext e).ext e2) (v2.put hM (show RM Z G2 (.ins c (putD f y fs)) (.ins (Z.ca c) dx (putF (Str.ofString f) v gs)) from ⟨hm, rfl, hr.put (r.ext e2)⟩)) q2⟩
  | _ => exact q2.elim
/-- name op= e (ints, texts, lists by their rule) -/
def wAug (i : Nat) (T : DTE) (P : D → D → Hm → DK → Prop) : DTS := fun K σ M => ∃ d, σ[i]? = some (some d) ∧ T σ M (fun y M1 => P d y M1 (fun z M2 => K.nx (σ.set i (some z)) M2)) (fun x M1 => K.ex x σ M1)
theorem ds_aug {i : Nat} {x : Str} {op : Operator} {r : R2} {P : D → D → Hm → DK → Prop} (hN : X.N.Nodup) (hi : X.N[i]? = some x) (hx : Loc X.env.scope x) (hf : X.fn x = true ∨ X.env.scope.names.lookup x = some .local) (he : DE Z X W e Ta) (ho : PIp X op r) (hP : Ref2 Z r P) :
    DS Z X W (.AugAssign (.Name x pos') op e pos) (wAug i Ta P) :=
  PS.imp (ps_aug hN hi hx he ho hf) fun K τ H ⟨F, σ, M, KD, S, V, ⟨d, hd, h⟩, k⟩ => by
    obtain ⟨v, hv, rv⟩ := S.at_ i d hd
    exact ⟨v, hv, F, σ, M, _, _, S, V, h, fun G y w M1 H1 e v1 r q => hP G H1 M1 d y v w _ _ v1 (rv.ext e) r q fun G2 z u M2 H2 e2 v2 r2 q2 => k.nx G2 _ _ M2 H2 (e.trans e2) (((S.ext e).ext e2).set r2 i) v2 q2, k.we S⟩
/-- o[i] = e -/
def wSub (To Ti : DTE) (P : D → D → D → Hm → (Hm → Prop) → Prop) : DTG := fun d σ M Q E => To σ M (fun o M1 => Ti σ M1 (fun i M2 => P o i d M2 (fun M3 => Q σ M3)) E) E
def RefSet (Z : Zn) (r : TSet) (P : D → D → D → Hm → (Hm → Prop) → Prop) : Prop := ∀ (F H : Hp) (M : Hm) (o i d : D) (ov iv v : V) (QD : Hm → Prop) (Q : Hp → Prop), View Z F M H → RD Z F o ov → RD Z F i iv → RD Z F d v → P o i d M QD → (∀ M' H', View Z F M' H' → QD M' → Q H') → r ov iv v H Q
theorem dg_sub {o i : Expr} {r : TSet} {P : D → D → D → Hm → (Hm → Prop) → Prop} (ho : DE Z X W o Ta) (hi : DE Z X W i Tb) (hs : PSet X r) (hP : RefSet Z r P)
    (ha : ∀ v, assign (.Subscript o i pos) X.env v = (do
      let ov ← holding [v] (eval o X.env)
      let iv ← holding [v, ov] (eval i X.env)
      standAt pos
      holding [v, ov, iv] (setItem ov iv v)
      release [v, ov, iv] [])) : DG Z X W (.Subscript o i pos) (wSub Ta Tb P) :=
  PG.imp (pg_sub ho hi hs ha) fun v τ H Q ⟨F, σ, M, d, QD, ED, S, V, r, h, hQ, hE⟩ => ⟨F, σ, M, _, ED, S, V, h, fun G o ov M1 H1 e1 v1 r1 q1 => ⟨G, σ, M1, _, ED, S.ext e1, v1, q1, fun G2 i iv M2 H2 e2 v2 r2 q2 =>
    hP G2 H2 M2 o i d ov iv v _ _ v2 (r1.ext e2) r2 (r.ext (e1.trans e2)) q2 fun M3 H3 v3 q3 => hQ G2 σ τ M3 H3 (e1.trans e2) ((S.ext e1).ext e2) v3 q3, hE.ext e1⟩, hE⟩
def wWhile (B : DTT) (S : DTS) : DTS := fun K σ M => ∃ I : Nat → SD → Hm → Prop, (∃ m, I m σ M) ∧ ∀ m σ M, I m σ M →
  B σ M (fun b M1 => if b = true then S { K with nx := fun σ' M' => ∃ m' M'', m' < m ∧ Sub M'' M' ∧ I m' σ' M'', ct := fun σ' M' => ∃ m' M'', m' < m ∧ Sub M'' M' ∧ I m' σ' M'', bk := K.nx } σ M1 else K.nx σ M1) (fun x M1 => K.ex x σ M1)
theorem ds_while {B : DTT} {body : List Stmt} (hp : PassesOwn (model X.prog X.w) X.A X.env X.xe) (hc : DB Z X W c B) (hb : DSs Z X W body S1) : DS Z X W (.While c body [] pos) (wWhile B S1) := by
  refine PS.imp (ps_while hp hc hb) fun K τ H ⟨F, σ, M, KD, S, V, ⟨I, ⟨m0, h0⟩, turn⟩, k⟩ => ?_
  refine ⟨fun m τ H => ∃ G σ M, Ext F G ∧ SRel Z G σ τ ∧ View Z G M H ∧ I m σ M, ⟨m0, F, σ, M, Ext.rfl', S, V, h0⟩, ?_⟩
  rintro m τ H ⟨G, σ, M, e, S, V, h⟩
  refine ⟨G, σ, M, _, _, S, V, turn m σ M h, fun G1 b M1 H1 e1 v1 q1 => ?_, (k.ext e).we S⟩
  cases b with
  | false => exact k.nx G1 σ τ M1 H1 (e.trans e1) (S.ext e1) v1 q1
  | true =>
    have nx : WS Z G1 (fun σ' M' => ∃ m' M'', m' < m ∧ Sub M'' M' ∧ I m' σ' M'') (fun τ' H' => ∃ m', m' < m ∧ ∃ G σ M, Ext F G ∧ SRel Z G σ τ' ∧ View Z G M H' ∧ I m' σ M) := fun G2 σ' τ' M' H' e2 s2 v2 ⟨m', M'', hm, hs, hi⟩ =>
      ⟨m', hm, G2, σ', M'', (e.trans e1).trans e2, s2, v2.less hs, hi⟩
    exact ⟨_, fun _ _ x => x, G1, σ, M1, _, S.ext e1, v1, q1, ⟨nx, k.rt.ext (e.trans e1), k.nx.ext (e.trans e1), nx, k.ex.ext (e.trans e1)⟩⟩
abbrev DTI := SD → Hm → (List D → (Hm → Prop) → Hm → Prop) → DX → Prop
def RefIt (Z : Zn) (F : Hp) (J : It) (xs : List D) (st : Hm → Prop) : Prop :=
  (∀ (i : Nat) (d : D) (G H : Hp) (M : Hm), Ext F G → View Z G M H → st M → xs[i]? = some d → J.go i H ∧ ∀ x H', J.yld i H x H' → ∃ G', Ext G G' ∧ View Z G' M H' ∧ RD Z G' d x) ∧
  ∀ (G H : Hp) (M : Hm), Ext F G → View Z G M H → st M → J.stop xs.length H
def iOf (Z : Zn) (W : WX) (T : DTI) : TI := fun τ H R => ∃ F σ M QD ED, SRel Z F σ τ ∧ View Z F M H ∧ T σ M QD ED ∧ (∀ G J xs st M' H', Ext F G → View Z G M' H' → RefIt Z G J xs st → QD xs st M' → R J H') ∧ WE Z W F τ ED
abbrev DI (Z : Zn) (X : Cx) (W : WX) (tg iter : Expr) (T : DTI) : Prop := PI X tg iter (iOf Z W T)
theorem PI.imp {tg iter : Expr} {t u : TI} (h : PI X tg iter t) (i : ∀ σ H Q, u σ H Q → t σ H Q) : PI X tg iter u := ⟨fun pins s σ H R I q => h.run pins s σ H R I (i σ H R q)⟩
def wLoop (G : DTG) (B : DTS) (K : DEn) (st : Hm → Prop) : List D → SD → Hm → Prop
  | [], σ, M => st M ∧ K.nx σ M
  | x :: xs, σ, M => st M ∧ G x σ M (fun σ2 M2 => B { K with nx := fun σ' M' => ∃ M'', Sub M'' M' ∧ wLoop G B K st xs σ' M'', ct := fun σ' M' => ∃ M'', Sub M'' M' ∧ wLoop G B K st xs σ' M'', bk := K.nx } σ2 M2) (fun x M2 => K.ex x σ M2)
def wFor (T : DTI) (G : DTG) (B : DTS) : DTS := fun K σ M => T σ M (fun xs st M1 => wLoop G B K st xs σ M1) (fun x M1 => K.ex x σ M1)
theorem ds_for {tg iter : Expr} {body : List Stmt} {T : DTI} {G : DTG} (hp : PassesOwn (model X.prog X.w) X.A X.env X.xe) (hc : X.calm = true) (hi : DI Z X W tg iter T) (hg : DG Z X W tg G) (hb : DSs Z X W body S1)
    (hs : ∀ x, foldedSetIterable iter X.env x = pure x) : DS Z X W (.For tg iter body [] pos) (wFor T G S1) := by
  refine PS.imp (ps_for hp hc hi hg hb hs) fun K τ H ⟨F, σ, M, KD, S, V, h, k⟩ => ?_
  refine ⟨F, σ, M, _, _, S, V, h, fun G0 J xs st M1 H1 e0 v1 ⟨hgo, hst⟩ q => ?_, k.we S⟩
  refine ⟨fun i m τ H => m = xs.length - i ∧ ∃ G1 σ M, Ext G0 G1 ∧ SRel Z G1 σ τ ∧ View Z G1 M H ∧ i ≤ xs.length ∧ wLoop G S1 KD st (xs.drop i) σ M, ⟨xs.length, rfl, G0, σ, M1, Ext.rfl', S.ext e0, v1, Nat.zero_le _, q⟩, ?_⟩
  rintro i m τ1 H2 ⟨rfl, G1, σ1, M2, e1, S1', v2, hi', q1⟩
  by_cases hlt : i < xs.length
  · rw [List.drop_eq_getElem_cons hlt] at q1
    obtain ⟨s2, q2⟩ := q1
    obtain ⟨go, yl⟩ := hgo i xs[i] G1 H2 M2 e1 v2 s2 (List.getElem?_eq_getElem hlt)
    refine .inr ⟨go, _, fun _ _ x => x, fun x H3 y => ?_⟩
    obtain ⟨G2, e2, v3, r3⟩ := yl x H3 y
    have ee : Ext F G2 := (e0.trans e1).trans e2
    refine ⟨G2, σ1, M2, xs[i], _, _, S1'.ext e2, v3, r3, q2, fun G3 σ3 τ3 M3 H3 e3 s3 v4 q3 => ?_, (k.ext ee).we (S1'.ext e2)⟩
    have nx : WS Z G3 (fun σ' M' => ∃ M'', Sub M'' M' ∧ wLoop G S1 KD st (xs.drop (i + 1)) σ' M'') (fun τ' H' => ∃ m', m' < xs.length - i ∧ m' = xs.length - (i + 1) ∧ ∃ G1 σ M, Ext G0 G1 ∧ SRel Z G1 σ τ' ∧ View Z G1 M H' ∧ i + 1 ≤ xs.length ∧ wLoop G S1 KD st (xs.drop (i + 1)) σ M) :=
      fun G4 σ' τ' M' H' e4 s4 v5 ⟨M'', hs, hq⟩ => ⟨xs.length - (i + 1), by omega, rfl, G4, σ', M'', ((e1.trans e2).trans e3).trans e4, s4, v5.less hs, hlt, hq⟩
    exact ⟨G3, σ3, M3, _, s3, v4, q3, ⟨nx, k.rt.ext (ee.trans e3), k.nx.ext (ee.trans e3), nx, k.ex.ext (ee.trans e3)⟩⟩
  · have hi2 : i = xs.length := by omega
    subst hi2
    rw [List.drop_length] at q1
    obtain ⟨s2, q2⟩ := q1
    exact .inl ⟨hst G1 H2 M2 e1 v2 s2, k.nx G1 σ1 τ1 M2 H2 (e0.trans e1) S1' v2 q2⟩
end
end DL
namespace DL
open PySem PySem.Spec PyProof.Rows L2
section
variable {Z : Zn} {X : Cx} {W : WX} {e a b c : Expr} {pos : Pos} {Ta Tb Tc : DTE} {F H : Hp} {M : Hm}
abbrev BigI : Int := 18446744073709551616
def pAdd (x y : D) (M : Hm) (Q : DK) : Prop := match x, y with
  | .int i, .int j => Q (.int (i + j)) M
  | .str s, .str t => s.length + t.length ≤ LL ∧ Q (.str (s ++ t)) M
  | .tup s, .tup t => s.length + t.length ≤ LL ∧ Q (.tup (s ++ t)) M
  | .ref p, .ref q => ∃ s t, M p = some (.lst s) ∧ M q = some (.lst t) ∧ s.length + t.length ≤ LL ∧ ∀ r, M r = none → Q (.ref r) (mup M r (.lst (s ++ t)))
  | _, _ => False
def pSub (x y : D) (M : Hm) (Q : DK) : Prop := match x, y with
  | .int i, .int j => Q (.int (i - j)) M
  | _, _ => False
def pMul (x y : D) (M : Hm) (Q : DK) : Prop := match x, y with
  | .int i, .int j => CMul i j ∧ Q (.int (i * j)) M
  | _, _ => False
def pFdiv (x y : D) (M : Hm) (Q : DK) : Prop := match x, y with
  | .int i, .int j => CDiv i j ∧ Q (.int (i / j)) M
  | _, _ => False
def pMod (x y : D) (M : Hm) (Q : DK) : Prop := match x, y with
  | .int i, .int j => 0 < j ∧ Q (.int (i % j)) M
  | _, _ => False
def pPow (x y : D) (M : Hm) (Q : DK) : Prop := match x, y with
  | .int i, .int j => CPow i j ∧ Q (.int (i ^ j.toNat)) M
  | _, _ => False
abbrev rAddA (K : PySem.W.Frag) : R2 := fun x y H Q => (∃ i j, x = .int i ∧ y = .int j ∧ Q (.int (i + j)) H) ∨ (∃ i j, x = .str i ∧ y = .str j ∧ i.length + j.length ≤ sizeLine ∧ Q (.str (i ++ j)) H) ∨ rCatA K x y H Q ∨ rCat x y H Q
theorem op_addA : OpR X (binaryOp .Add) (rAddA X.K) := OpR.or op_add (OpR.or op_add_str (OpR.or op_catA op_cat))
theorem RDs.nil_iff {ds : List D} {vs : List V} (r : RDs Z F ds vs) : ds = [] ↔ vs = [] := by
  cases r <;> simp
theorem ref_add : Ref2 Z (rAddA Z.K) pAdd := by
  intro F H M d1 d2 v1 v2 QD Q V r1 r2 h hQ
  cases d1 <;> cases d2 <;> first | exact h.elim | skip
  · cases r1.int_of; cases r2.int_of
    exact .inl ⟨_, _, rfl, rfl, hQ F _ _ M H Ext.rfl' V (.int _) h⟩
  · cases r1.str_of; cases r2.str_of
    refine .inr (.inl ⟨_, _, rfl, rfl, by rw [sv_len, sv_len, LL_eq]; exact h.1, ?_⟩)
    rw [sv_app]
    exact hQ F _ _ M H Ext.rfl' V (.str _) h.2
  · obtain ⟨p, vs, rfl, hp, rs⟩ := r1.tup_of
    obtain ⟨q, us, rfl, hq, rt⟩ := r2.tup_of
    refine .inr (.inr (.inl ⟨p, q, vs, us, rfl, rfl, SqT.sub V hp, SqT.sub V hq, by rw [← rs.length, ← rt.length, LL_eq]; exact h.1, fun e => ?_, fun _ e => ?_, fun _ _ r hr => ?_⟩))
    · cases rs.nil_iff.mpr e
      exact hQ F _ _ M H Ext.rfl' V (.tup hq rt) h.2
    · cases rt.nil_iff.mpr e
      have := h.2
      rw [List.append_nil] at this
      exact hQ F _ _ M H Ext.rfl' V (.tup hp rs) this
    · exact hQ _ _ _ M _ (Ext.new (V.free hr).2) (V.newT hr) (.tup (SqT.of upd_same) (RDs.ext (Ext.new (V.free hr).2) (rs.append rt))) h.2
  · cases r1.ref_of; cases r2.ref_of
    obtain ⟨s, t, h1, h2, hl, h⟩ := h
    obtain ⟨vs, g1, rs⟩ := V.lst h1
    obtain ⟨us, g2, rt⟩ := V.lst h2
    exact .inr (.inr (.inr ⟨_, _, vs, us, rfl, rfl, g1, g2, by rw [← rs.length, ← rt.length, LL_eq]; exact hl, fun r hr => hQ F _ _ _ _ Ext.rfl' (V.newL hr (rs.append rt)) (.ref r) (h r (V.free hr).1)⟩))
theorem ref_I {C : Int → Int → Prop} {g : Int → Int → Int} {P : D → D → Hm → DK → Prop} (hP : ∀ x y M Q, P x y M Q → ∃ i j, x = .int i ∧ y = .int j ∧ C i j ∧ Q (.int (g i j)) M) : Ref2 Z (rI C fun i j => .int (g i j)) P := by
  intro F H M d1 d2 v1 v2 QD Q V r1 r2 h hQ
  obtain ⟨i, j, rfl, rfl, hc, q⟩ := hP _ _ _ _ h
  cases r1.int_of; cases r2.int_of
  exact ⟨i, j, rfl, rfl, hc, hQ F _ _ M H Ext.rfl' V (.int _) q⟩
theorem ref_I0 {g : Int → Int → Int} {P : D → D → Hm → DK → Prop} (hP : ∀ x y M Q, P x y M Q → ∃ i j, x = .int i ∧ y = .int j ∧ Q (.int (g i j)) M) : Ref2 Z (rI0 fun i j => .int (g i j)) P := by
  intro F H M d1 d2 v1 v2 QD Q V r1 r2 h hQ
  obtain ⟨i, j, rfl, rfl, q⟩ := hP _ _ _ _ h
  cases r1.int_of; cases r2.int_of
  exact ⟨i, j, rfl, rfl, hQ F _ _ M H Ext.rfl' V (.int _) q⟩
theorem ref_sub : Ref2 Z (rI0 fun i j => .int (i - j)) pSub := ref_I0 fun x y M Q h => by cases x <;> cases y <;> first | exact h.elim | exact ⟨_, _, rfl, rfl, h⟩
theorem ref_mul : Ref2 Z (rI CMul fun i j => .int (i * j)) pMul := ref_I fun x y M Q h => by cases x <;> cases y <;> first | exact h.elim | exact ⟨_, _, rfl, rfl, h⟩
theorem ref_fdiv : Ref2 Z (rI CDiv fun i j => .int (i / j)) pFdiv := ref_I fun x y M Q h => by cases x <;> cases y <;> first | exact h.elim | exact ⟨_, _, rfl, rfl, h⟩
theorem ref_mod : Ref2 Z (rI (fun _ j => 0 < j) fun i j => .int (i % j)) pMod := ref_I fun x y M Q h => by cases x <;> cases y <;> first | exact h.elim | exact ⟨_, _, rfl, rfl, h⟩
theorem ref_pow : Ref2 Z (rI CPow fun i j => .int (i ^ j.toNat)) pPow := ref_I fun x y M Q h => by cases x <;> cases y <;> first | exact h.elim | exact ⟨_, _, rfl, rfl, h⟩
def wNeg (Ta : DTE) : DTE := fun σ M Q E => Ta σ M (fun d M1 => ∃ i, d = .int i ∧ Q (.int (-i)) M1) E
theorem de_neg (ha : DE Z X W a Ta) : DE Z X W (.UnaryOp .USub a pos) (wNeg Ta) :=
  PE.imp (pe_un un_neg ha) fun τ H Q ⟨F, σ, M, QD, ED, S, V, h, hQ, hE⟩ => ⟨F, σ, M, _, ED, S, V, h, fun G d v M1 H1 e v1 r ⟨i, hd, q⟩ => by
    subst hd
    exact ⟨i, r.int_of, hQ G _ _ M1 H1 e v1 (.int _) q⟩, hE⟩
/-- comparisons of ints -/
def pCmpI (p : Int → Int → Bool) (x y : D) (M : Hm) (Q : DK) : Prop := match x, y with
  | .int i, .int j => Q (.bl (p i j)) M
  | _, _ => False
theorem ref_cmpI {p : Int → Int → Bool} : Ref2 Z (rI0 fun i j => .bl (p i j)) (pCmpI p) := by
  intro F H M d1 d2 v1 v2 QD Q V r1 r2 h hQ
  cases d1 <;> cases d2 <;> first | exact h.elim | skip
  cases r1.int_of; cases r2.int_of
  exact ⟨_, _, rfl, rfl, hQ F _ _ M H Ext.rfl' V (.bl _) h⟩
/-- is None -/
def D.isNon : D → Bool
  | .non => true
  | _ => false
theorem RD.isNon {d : D} {v : V} (r : RD Z F d v) : decide (v = .non) = d.isNon := by cases r <;> rfl
def pIsN (x y : D) (M : Hm) (Q : DK) : Prop := y = .non ∧ Q (.bl x.isNon) M
def pNotN (x y : D) (M : Hm) (Q : DK) : Prop := y = .non ∧ Q (.bl (!x.isNon)) M
theorem ref_isN : Ref2 Z (fun x y H Q => y = .non ∧ Q (.bl (decide (x = .non))) H) pIsN := by
  rintro F H M d1 d2 v1 v2 QD Q V r1 r2 ⟨rfl, q⟩ hQ
  refine ⟨r2.non_of, ?_⟩
  rw [r1.isNon]
  exact hQ F _ _ M H Ext.rfl' V (.bl _) q
theorem ref_notN : Ref2 Z (fun x y H Q => y = .non ∧ Q (.bl (!decide (x = .non))) H) pNotN := by
  rintro F H M d1 d2 v1 v2 QD Q V r1 r2 ⟨rfl, q⟩ hQ
  refine ⟨r2.non_of, ?_⟩
  rw [r1.isNon]
  exact hQ F _ _ M H Ext.rfl' V (.bl _) q
theorem RDs.atI {ds : List D} {vs : List V} {i : Int} {d : D} (r : RDs Z F ds vs) (h : L2.atI ds i = some d) : ∃ v, L2.atI vs i = some v ∧ RD Z F d v := by
  unfold L2.atI at h ⊢
  rw [← r.length]
  cases e : ixN ds.length i with
  | none => rw [e] at h; cases h
  | some j =>
    rw [e] at h
    exact r.get (i := j) h
def pIdx (x y : D) (M : Hm) (Q : DK) : Prop := match x, y with
  | .ref p, .int i => ∃ xs d, Lz M p xs ∧ L2.atI xs i = some d ∧ Q d M
  | .tup xs, .int i => ∃ d, L2.atI xs i = some d ∧ Q d M
  | .str x, .int i => ∃ c, x.length ≤ LL ∧ L2.atI x i = some c ∧ Q (.str [c]) M
  | _, _ => False
theorem ref_idx : Ref2 Z (rIx Z.K) pIdx := by
  intro F H M d1 d2 v1 v2 QD Q V r1 r2 h hQ
  cases d1 <;> cases d2 <;> first | exact h.elim | skip
  · cases r1.str_of; cases r2.int_of
    obtain ⟨c, hl, hc, q⟩ := h
    exact .inr (.inr ⟨_, _, c, rfl, rfl, by rw [sv_len, LL_eq]; exact hl, by rw [sv_cps]; exact hc, hQ F _ _ M H Ext.rfl' V (.str _) q⟩)
  · obtain ⟨p, vs, rfl, hp, rs⟩ := r1.tup_of
    cases r2.int_of
    obtain ⟨d, hd, q⟩ := h
    obtain ⟨v, hv, rv⟩ := rs.atI hd
    exact .inr (.inl ⟨p, vs, _, v, rfl, rfl, SqT.sub V hp, hv, hQ F _ _ M H Ext.rfl' V rv q⟩)
  · cases r1.ref_of; cases r2.int_of
    obtain ⟨xs, d, hx, hd, q⟩ := h
    obtain ⟨vs, hp, rs⟩ := V.lz hx
    obtain ⟨v, hv, rv⟩ := rs.atI hd
    exact .inl ⟨_, vs, _, v, rfl, rfl, hp, hv, hQ F _ _ M H Ext.rfl' V rv q⟩
theorem de_idx (hz : Z.K = X.K) (ha : DE Z X W a Ta) (hb : DE Z X W b Tb) (hs : PlainIx b) : DE Z X W (.Subscript a b pos) (w2 pIdx Ta Tb) :=
  PE.imp (pe_ix ix_seq ha hb hs) (by rw [← hz]; exact w2_ok ref_idx)
/-- o[i] = e, a list -/
def pSetL (o i d : D) (M : Hm) (Q : Hm → Prop) : Prop := match o, i with
  | .ref p, .int i => ∃ xs j, M p = some (.lst xs) ∧ ixN xs.length i = some j ∧ Q (mup M p (.lst (xs.set j d)))
  | _, _ => False
theorem ref_setL : RefSet Z rSetL pSetL := by
  intro F H M o i d ov iv v QD Q V r1 r2 r3 h hQ
  cases o <;> cases i <;> first | exact h.elim | skip
  cases r1.ref_of; cases r2.int_of
  obtain ⟨xs, j, hx, hj, q⟩ := h
  obtain ⟨vs, hp, rs⟩ := V.lst hx
  exact ⟨_, vs, _, j, rfl, rfl, hp, by rw [← rs.length]; exact hj, hQ _ _ (V.put hx (show RM Z F (.lst (xs.set j d)) (.lst (vs.set j v)) from rs.set r3 j)) q⟩
/-- slices -/
abbrev DTO := SD → Hm → (Option Int → Hm → Prop) → DX → Prop
def oOf (Z : Zn) (W : WX) (T : DTO) : TO := fun τ H Q => ∃ F σ M QD ED, SRel Z F σ τ ∧ View Z F M H ∧ T σ M QD ED ∧ (∀ G o M' H', Ext F G → View Z G M' H' → QD o M' → Q o H') ∧ WE Z W F τ ED
abbrev DO (Z : Zn) (X : Cx) (W : WX) (e : Option Expr) (T : DTO) : Prop := PO X e (oOf Z W T)
theorem PO.imp {e : Option Expr} {t u : TO} (h : PO X e t) (i : ∀ σ H Q, u σ H Q → t σ H Q) : PO X e u := ⟨fun pins s σ H Q I q => h.run pins s σ H Q I (i σ H Q q)⟩
def wNo : DTO := fun _ M Q _ => Q none M
def wPart (T : DTE) : DTO := fun σ M Q E => T σ M (fun d M1 => ∃ i, d = .int i ∧ Q (some i) M1) E
theorem do_none : DO Z X W none wNo := PO.imp po_none fun τ H Q ⟨F, σ, M, QD, ED, S, V, h, hQ, hE⟩ => hQ F none M H Ext.rfl' V h
theorem do_some (h : DE Z X W e Ta) : DO Z X W (some e) (wPart Ta) := PO.imp (po_some h) fun τ H Q ⟨F, σ, M, QD, ED, S, V, h, hQ, hE⟩ => ⟨F, σ, M, _, ED, S, V, h, fun G d v M1 H1 e v1 r ⟨i, hd, q⟩ => by
  subst hd
  exact ⟨i, r.int_of, hQ G _ M1 H1 e v1 q⟩, hE⟩
def cutG {α : Type} (xs : List α) (lo hi : Option Int) : List α := (xs.drop (HT.sIx xs.length 0 lo)).take (HT.sIx xs.length xs.length hi - HT.sIx xs.length 0 lo)
theorem RDs.cut {ds : List D} {vs : List V} (r : RDs Z F ds vs) (lo hi : Option Int) : RDs Z F (cutG ds lo hi) (cutV vs lo hi) := by
  unfold cutG cutV
  rw [r.length]
  exact (r.drop _).take _
def pSl (x : D) (lo hi : Option Int) (M : Hm) (Q : DK) : Prop := match x with
  | .ref p => ∃ xs, Lz M p xs ∧ ∀ r, M r = none → Q (.ref r) (mup M r (.lst (cutG xs lo hi)))
  | .tup xs => Q (.tup (cutG xs lo hi)) M
  | .str x => x.length ≤ LL ∧ Q (.str (cutG x lo hi)) M
  | _ => False
abbrev rSlAny (K : PySem.W.Frag) : V → Option Int → Option Int → Hp → VK → Prop := fun x lo hi H Q => rSlL K x lo hi H Q ∨ rSlA K x lo hi H Q ∨ rSlS x lo hi H Q
theorem sl_any : SlR X (rSlAny X.K) := SlR.or sl_list (SlR.or sl_tupA sl_str)
theorem cutS_sv (x : Tx) (lo hi : Option Int) : cutS (sv x) lo hi = sv (cutG x lo hi) := by
  unfold cutS cutG
  rw [sv_cps, sv_len]
  rfl
theorem cut_whole {α : Type} {xs : List α} {lo hi : Option Int} (h : HT.sIx xs.length 0 lo = 0 ∧ HT.sIx xs.length xs.length hi = xs.length) : cutG xs lo hi = xs := by
  unfold cutG
  rw [h.1, h.2]
  simp
theorem ref_sl {x : D} {v : V} {lo hi : Option Int} {QD : DK} {Q : VK} (V0 : View Z F M H) (r : RD Z F x v) (h : pSl x lo hi M QD) (hQ : WQ Z F QD Q) : rSlAny Z.K v lo hi H Q := by
  cases x with
  | ref p =>
    cases r.ref_of
    obtain ⟨xs, hx, q⟩ := h
    obtain ⟨vs, hp, rs⟩ := V0.lz hx
    exact .inl ⟨p, vs, rfl, hp, fun r hr => hQ F _ _ _ _ Ext.rfl' (V0.newL hr (rs.cut lo hi)) (.ref r) (q r (V0.free hr).1)⟩
  | tup xs =>
    obtain ⟨p, vs, rfl, hp, rs⟩ := r.tup_of
    refine .inr (.inl ⟨p, vs, rfl, SqT.sub V0 hp, fun hw => ?_, fun _ r hr => ?_⟩)
    · have e : cutG xs lo hi = xs := cut_whole (by rw [rs.length]; exact hw)
      have h' : QD (.tup (cutG xs lo hi)) M := h
      rw [e] at h'
      exact hQ F _ _ M H Ext.rfl' V0 (.tup hp rs) h'
    · have e := Ext.new (o := .tup (cutV vs lo hi)) (V0.free hr).2
      exact hQ _ _ _ M _ e (V0.newT hr) (.tup (SqT.of upd_same) ((rs.cut lo hi).ext e)) h
  | str x =>
    cases r.str_of
    refine .inr (.inr ⟨_, rfl, by rw [sv_len, LL_eq]; exact h.1, ?_⟩)
    rw [cutS_sv]
    exact hQ F _ _ M H Ext.rfl' V0 (.str _) h.2
  | _ => exact h.elim
def wSlice (Ta : DTE) (Tl Th : DTO) : DTE := fun σ M Q E => Ta σ M (fun x M1 => Tl σ M1 (fun lo M2 => Th σ M2 (fun hi M3 => pSl x lo hi M3 Q) E) E) E
theorem de_slice {lo hi : Option Expr} {Tl Th : DTO} {p2 : Pos} (hz : Z.K = X.K) (ha : DE Z X W a Ta) (hl : DO Z X W lo Tl) (hh : DO Z X W hi Th) : DE Z X W (.Subscript a (.Slice lo hi none p2) pos) (wSlice Ta Tl Th) :=
  PE.imp (pe_slice sl_any ha hl hh) fun τ H Q ⟨F, σ, M, QD, ED, S, V, h, hQ, hE⟩ => ⟨F, σ, M, _, ED, S, V, h, fun G x v M1 H1 e1 v1 r1 q1 => ⟨G, σ, M1, _, ED, S.ext e1, v1, q1, fun G2 lo M2 H2 e2 v2 q2 => ⟨G2, σ, M2, _, ED, (S.ext e1).ext e2, v2, q2, fun G3 hi M3 H3 e3 v3 q3 => by
    rw [← hz]
    exact ref_sl v3 ((r1.ext e2).ext e3) q3 (hQ.ext ((e1.trans e2).trans e3)), (hE.ext e1).ext e2⟩, hE.ext e1⟩, hE⟩
def RefC (Z : Zn) (r : List V → Hp → VK → Prop) (P : List D → Hm → DK → Prop) : Prop := ∀ (F H : Hp) (M : Hm) (ds : List D) (vs : List V) (QD : DK) (Q : VK), View Z F M H → RDs Z F ds vs → P ds M QD → WQ Z F QD Q → r vs H Q
def wB1 (P : List D → Hm → DK → Prop) (Tr : DTA) : DTE := fun σ M Q E => Tr σ M (fun ds M1 => P ds M1 Q) E
variable {es : List Expr} {Tr : DTA} {x : Str} {p : Pos}
theorem de_builtin {r : List V → Hp → VK → Prop} {P : List D → Hm → DK → Prop} {id : String} (hc : CallR X (.builtin id) r) (hP : RefC Z r P) (hg : Gl X x) (hm : X.mg x = none) (hv : bootBuiltins x = some (.builtin id)) (ha : DA Z X W (e :: es) Tr)
    (hn : x ≠ "__name__") (hdb : (x == ("__debug__" : Str)) = false) (he : starEach (e :: es) X.env = (false, eval e X.env) :: starEach es X.env) (hpl : (backTo pos (starEach es X.env)).any (·.1) = false) : DE Z X W (.Call (.Name x p) (e :: es) [] pos) (wB1 P Tr) := by
  refine PE.imp (pe_callB hc hg hm hv ha hn hdb he hpl) fun τ H Q ⟨F, σ, M, QD, ED, S, V, h, hQ, hE⟩ => ⟨F, σ, M, _, ED, S, V, h, fun G ds vs M1 H1 e1 v1 r1 q1 => hP G H1 M1 ds vs QD Q v1 r1 q1 (hQ.ext e1), hE⟩
theorem de_btype {r : List V → Hp → VK → Prop} {P : List D → Hm → DK → Prop} {id : String} (hc : CallR X (.type id) r) (hP : RefC Z r P) (hg : Gl X x) (hm : X.mg x = none) (hv : bootBuiltins x = some (.type id)) (ha : DA Z X W (e :: es) Tr)
    (hn : x ≠ "__name__") (hdb : (x == ("__debug__" : Str)) = false) (he : starEach (e :: es) X.env = (false, eval e X.env) :: starEach es X.env) (hpl : (backTo pos (starEach es X.env)).any (·.1) = false) : DE Z X W (.Call (.Name x p) (e :: es) [] pos) (wB1 P Tr) := by
  refine PE.imp (pe_callTy hc hg hm hv ha hn hdb he hpl) fun τ H Q ⟨F, σ, M, QD, ED, S, V, h, hQ, hE⟩ => ⟨F, σ, M, _, ED, S, V, h, fun G ds vs M1 H1 e1 v1 r1 q1 => hP G H1 M1 ds vs QD Q v1 r1 q1 (hQ.ext e1), hE⟩
end
end DL
namespace DL
open PySem PySem.Spec PyProof.Rows L2
/-- the fields by which an own == goes -/
def selF (c f : String) : Bool := match c with
  | "Thing" => f == "text"
  | "Program" => f == "deeds"
  | "Stand" => f == "point" || f == "names"
  | "Run" => f == "word" || f == "steps" || f == "thing"
  | _ => false
/-- the fields that an instance has -/
def fieldsOf (c : String) : List String := match c with
  | "Thing" => ["left", "right", "many", "text", "marked"]
  | "Program" => ["deeds", "order"]
  | "Stand" => ["point", "names"]
  | "Run" => ["word", "steps", "thing"]
  | _ => []
mutual
def D.eq : D → D → Bool
  | .non, .non => true
  | .bl a, .bl b => a == b
  | .int i, .int j => i == j
  | .bl a, .int j => (if a then 1 else 0) == j
  | .int i, .bl b => i == (if b then 1 else 0)
  | .str x, .str y => x == y
  | .tup xs, .tup ys => D.eqs xs ys
  | .ins c fs, .ins d gs => c == d && D.eqf c fs gs
  | _, _ => false
def D.eqs : List D → List D → Bool
  | [], [] => true
  | x :: xs, y :: ys => D.eq x y && D.eqs xs ys
  | _, _ => false
def D.eqf (c : String) : List (String × D) → List (String × D) → Bool
  | [], [] => true
  | (f, x) :: fs, (_, y) :: gs => (if selF c f then D.eq x y else true) && D.eqf c fs gs
  | _, _ => false
end
-- no mutable object in it; its classes have an own ==
mutual
def D.pure (es : List String) : D → Bool
  | .non => true | .bl _ => true | .int _ => true | .str _ => true
  | .tup xs => D.pures es xs
  | .ins c fs => decide (c ∈ es) && (decide (fs.map (·.1) = fieldsOf c) && D.puref es fs)
  | _ => false
def D.pures (es : List String) : List D → Bool
  | [] => true
  | x :: xs => D.pure es x && D.pures es xs
def D.puref (es : List String) : List (String × D) → Bool
  | [] => true
  | (_, x) :: xs => D.pure es x && D.puref es xs
end
-- how deep == goes
mutual
def D.dp : D → Nat
  | .tup xs => 1 + D.dps xs
  | .ins c fs => 4 + D.dpf c fs
  | _ => 0
def D.dps : List D → Nat
  | [] => 0
  | x :: xs => max (D.dp x) (D.dps xs)
def D.dpf (c : String) : List (String × D) → Nat
  | [] => 0
  | (f, x) :: xs => max (if selF c f then D.dp x else 0) (D.dpf c xs)
end
theorem pures_get {es : List String} : ∀ {xs : List D} {i : Nat} {d : D}, D.pures es xs = true → xs[i]? = some d → D.pure es d = true
  | x :: xs, 0, d, h, e => by
    simp at e; subst e
    unfold D.pures at h
    exact (Bool.and_eq_true_iff.mp h).1
  | x :: xs, i + 1, d, h, e => by
    unfold D.pures at h
    exact pures_get (Bool.and_eq_true_iff.mp h).2 (by simpa using e)
theorem dps_get : ∀ {xs : List D} {i : Nat} {d : D}, xs[i]? = some d → d.dp ≤ D.dps xs
  | x :: xs, 0, d, e => by
    simp at e; subst e
    unfold D.dps
    exact Nat.le_max_left _ _
  | x :: xs, i + 1, d, e => by
    unfold D.dps
    exact Nat.le_trans (dps_get (xs := xs) (i := i) (by simpa using e)) (Nat.le_max_right _ _)
theorem eqs_iff : ∀ (xs ys : List D), D.eqs xs ys = ((List.range (min xs.length ys.length)).all (fun i => D.eq (xs.getD i .non) (ys.getD i .non)) && xs.length == ys.length)
  | [], [] => by simp [D.eqs]
  | [], y :: ys => by simp [D.eqs]
  | x :: xs, [] => by simp [D.eqs]
  | x :: xs, y :: ys => by
    unfold D.eqs
    rw [eqs_iff xs ys]
    have hm : min (x :: xs).length (y :: ys).length = min xs.length ys.length + 1 := by simp [Nat.succ_min_succ]
    have hl : ((x :: xs).length == (y :: ys).length) = (xs.length == ys.length) := by simp
    rw [hm, List.range_succ_eq_map, List.all_cons, List.all_map, hl, Bool.and_assoc]
    rfl
section
open PySem.SeqAt
open AutoSeq1 (wpAny_loadPart')
open MeetsSeq MeetsSeq2 MeetsSeq3 SeqRoads2
variable {prog : Program} {w : World} {A : Around} {R : Result → Shared → Prop}
def LstE (prog : Program) (w : World) (A : Around) (E : Value → Shared → Prop) (l b : Addr) (N : Nat) (e : Nat → Bool) (I : Shared → Prop) : Prop :=
  ∀ s, I s → ∃ (items items2 : Array Value) (n n2 : Nat), s.heap.get? l = some { cls := .type "list", data := .seq items n } ∧ s.heap.get? b = some { cls := .type "list", data := .seq items2 n2 } ∧ items.size = N ∧ items2.size = N ∧
    ∀ (i : Nat) (h1 : i < items.size) (h2 : i < items2.size), wpAny (model prog w) A.in1 (eqBool items[i] items2[i]) (fun r s' => r = e i ∧ I s') E s
theorem eq_loopE (l b : Addr) (N : Nat) (e : Nat → Bool) (I : Shared → Prop) (hl : LstE prog w A (fun e s' => R (.error e) s') l b N e I) (k : Nat) :
    ∀ i : Nat, N - i = k → i ≤ N → (∀ s, I s → R (.ok (.ret (.bool (((List.range N).drop i).all e)))) s) → ∀ s, I s →
      wpAny (model prog w) A.in1 (Builtin.«list.__eq__.loop» ⟨[.ref l, .ref b, rawInt i, rawInt 2], []⟩) (GQ.FinOf prog w A R) (fun e s' => R (.error e) s') s := by
  induction k with
  | zero =>
    intro i hk hi fin s h
    obtain ⟨items, items2, n, n2, hl1, hb1, hs1, hs2, _⟩ := hl _ h
    have hd : (List.range N).drop i = [] := by simp; omega
    have hR : R (.ok (.ret (.bool true))) s := by
      have := fin s h
      rw [hd] at this
      exact this
    obtain ⟨hp, g, d, tk, os⟩ := s
    wp_walk using wpAny_loadPart' hl1, wpAny_loadPart' hb1
    have hi1 : items[((i : Nat) : Int).toNat]? = none := by simp; omega
    have hi2 : items2[((i : Nat) : Int).toNat]? = none := by simp; omega
    rw [hi1, hi2]
    wp_walk using wpAny_loadPart' hl1, wpAny_loadPart' hb1
    show R (.ok (.ret (.bool (items.size == items2.size)))) _
    rw [hs1, hs2]
    simpa using hR
  | succ k ih =>
    intro i hk hi fin s h
    obtain ⟨items, items2, n, n2, hl1, hb1, hs1, hs2, turn⟩ := hl _ h
    have hlt : i < items.size := by omega
    have hlt2 : i < items2.size := by omega
    have ht := turn i hlt hlt2
    have hd : (List.range N).drop i = i :: (List.range N).drop (i + 1) := by
      rw [List.drop_eq_getElem_cons (by rw [List.length_range]; omega)]
      simp
    rw [hd, List.all_cons] at fin
    obtain ⟨hp, g, d, tk, os⟩ := s
    wp_walk using wpAny_loadPart' hl1, wpAny_loadPart' hb1
    have hi1 : items[((i : Nat) : Int).toNat]? = some items[i] := by simp [hlt]
    have hi2 : items2[((i : Nat) : Int).toNat]? = some items2[i] := by simp [hlt2]
    have hc : ((i : Int) + 1) = ((i + 1 : Nat) : Int) := by omega
    rw [hi1, hi2]
    refine wpAny_bind (wpAny_mono ht (fun r s2 h2 => ?_) fun _ _ x => x)
    obtain ⟨hr, h2⟩ := h2
    subst hr
    cases he : e i with
    | true =>
      rw [he] at fin
      have hrec := ih (i + 1) (by omega) (by omega) (fun s q => by simpa using fin s q) s2 h2
      obtain ⟨hp2, g2, d2, tk2, os2⟩ := s2
      wp_walk
      rw [hc]
      exact ⟨plainId_quiet plain_eq_loop _, codeAny_builtin entry_eq_loop (by
        rw [Around.under_plainId plain_eq_loop _]
        exact hrec)⟩
    | false =>
      rw [he] at fin
      have hR : R (.ok (.ret (.bool false))) s2 := by simpa using fin s2 h2
      obtain ⟨items', items2', n', n2', hl1', hb1', hs1', hs2', _⟩ := hl _ h2
      obtain ⟨hp2, g2, d2, tk2, os2⟩ := s2
      have hi1' : items'[((i : Nat) : Int).toNat]? = some (items'[i]'(by omega)) := by simp
      have hi2' : items2'[((i : Nat) : Int).toNat]? = some (items2'[i]'(by omega)) := by simp
      wp_walk using wpAny_loadPart' hl1', wpAny_loadPart' hb1'
      rw [hi1', hi2']
      wp_walk
      simpa using hR
theorem list_eqE (l b : Addr) (N : Nat) (e : Nat → Bool) (I : Shared → Prop) (hl : LstE prog w A (fun e s' => R (.error e) s') l b N e I)
    (fin : ∀ s, I s → R (.ok (.ret (.bool ((List.range N).all e)))) s) {s : Shared} (h : I s) :
    wpAny (model prog w) A.in1 (Builtin.«list.__eq__» ⟨[.ref l, .ref b], []⟩) (GQ.FinOf prog w A R) (fun e s' => R (.error e) s') s := by
  obtain ⟨items, items2, n, n2, hl1, hb1, hs1, hs2, _⟩ := hl _ h
  have hrec := eq_loopE (A := A) (R := R) l b N e I hl _ 0 rfl (Nat.zero_le _) (fun s q => by simpa using fin s q) s h
  obtain ⟨hp, g, d, tk, os⟩ := s
  have f3 := AutoSeq1.sub_list_list
  have hne : ¬ (items.size != items2.size) = true := by simp [hs1, hs2]
  wp_walk using wpAny_loadPart' hl1, wpAny_loadPart' hb1
  exact ⟨plainId_quiet plain_eq_loop _, codeAny_builtin entry_eq_loop (by
    rw [Around.under_plainId plain_eq_loop _]
    exact hrec)⟩
theorem tuple_eqE (l b : Addr) (items items2 : Array Value) (n n2 : Nat) (dd dd2 : Option Addr) (sl sl2 : Array (Option Value)) (e : Nat → Bool) (I : Shared → Prop)
    (turn : ∀ i (h1 : i < items.size) (h2 : i < items2.size) s, I s → wpAny (model prog w) A.in1 (eqBool items[i] items2[i]) (fun r s' => r = e i ∧ I s') (fun e s' => R (.error e) s') s)
    (fin : ∀ s, I s → R (.ok (.ret (.bool ((List.range (min items.size items2.size)).all e && items.size == items2.size)))) s) {s : Shared} (hl1 : s.heap.get? l = some { cls := .type "tuple", dict := dd, data := .seq items n, slots := sl }) (hb1 : s.heap.get? b = some { cls := .type "tuple", dict := dd2, data := .seq items2 n2, slots := sl2 }) (h : I s) :
    wpAny (model prog w) A.in1 (Builtin.«tuple.__eq__» ⟨[.ref l, .ref b], []⟩) (GQ.FinOf prog w A R) (fun e s' => R (.error e) s') s := by
  have f2 := AutoSeq1.sub_tuple_tuple
  have hZ : (items.toList.zip items2.toList).length = min items.size items2.size := by simp
  have h0 := h
  obtain ⟨hp, g, d, tk, os⟩ := s
  wp_walk using wpAny_loadPart' hl1, wpAny_loadPart' hb1, wpAny_forIn_list _ (fun rest b s' => b.1 = none ∧ ∃ i, rest = (items.toList.zip items2.toList).drop i ∧ I s' ∧
    (∀ s, I s → R (.ok (.ret (.bool (((List.range (min items.size items2.size)).drop i).all e && items.size == items2.size)))) s)) _
  case turn =>
    rintro ⟨y, x⟩ rest b s' ⟨hb', i, hz, hI, hR⟩
    have hlt : i < (items.toList.zip items2.toList).length := by
      rcases Nat.lt_or_ge i (items.toList.zip items2.toList).length with h' | h'
      · exact h'
      · rw [List.drop_of_length_le h'] at hz; cases hz
    have hm : i < min items.size items2.size := hZ ▸ hlt
    have h1 : i < items.size := Nat.lt_of_lt_of_le hm (Nat.min_le_left _ _)
    have h2 : i < items2.size := Nat.lt_of_lt_of_le hm (Nat.min_le_right _ _)
    rw [List.drop_eq_getElem_cons hlt] at hz
    injection hz with hyx hrest
    have hy : y = items[i] := by have := congrArg Prod.fst hyx; simpa using this
    have hx : x = items2[i] := by have := congrArg Prod.snd hyx; simpa using this
    subst hy hx
    have hd : (List.range (min items.size items2.size)).drop i = i :: (List.range (min items.size items2.size)).drop (i + 1) := by simp [List.drop_eq_getElem_cons, hm]
    rw [hd, List.all_cons] at hR
    refine wpAny_bind (wpAny_mono (turn i h1 h2 s' hI) (fun r s2 q2 => ?_) fun _ _ x => x)
    obtain ⟨hr, q2⟩ := q2
    subst hr
    cases hy : e i with
    | true =>
      rw [hy] at hR
      wp_walk
      exact ⟨rfl, i + 1, hrest, q2, fun s q => by simpa using hR s q⟩
    | false =>
      rw [hy] at hR
      have hR' : R (.ok (.ret (.bool false))) s2 := by simpa using hR s2 q2
      wp_walk
      first | exact hR' | exact ⟨_, rfl, hR'⟩ | simpa using hR'
  case fin =>
    rintro ⟨b1, b2⟩ s' ⟨hb', i, hz, hI, hR⟩
    simp only at hb'
    subst hb'
    have hge : min items.size items2.size ≤ i := by
      rcases Nat.lt_or_ge i (items.toList.zip items2.toList).length with h' | h'
      · rw [List.drop_eq_getElem_cons h'] at hz; cases hz
      · exact hZ ▸ h'
    have hR' := hR s' hI
    rw [List.drop_of_length_le (by simpa using hge)] at hR'
    wp_walk
    simpa [Builtin.Tuple.tupleCompareSizes] using hR'
  case h =>
    exact ⟨rfl, 0, rfl, h0, fun s q => by simpa using fin s q⟩
end
section
open GQ
variable {prog : Program} {w : World} {A : Around} {E : Value → Shared → Prop} {s : Shared}
theorem rc_listE {l b : Addr} {N : Nat} {e : Nat → Bool} {Q : Value → Shared → Prop} (hu : A.units < cLine) (I : Shared → Prop) (hl : LstE prog w A E l b N e I)
    (fin : ∀ s, I s → Q (.bool ((List.range N).all e)) s) (h : I s) : wpAny (model prog w) A (richCompare .Eq (.ref l) (.ref b)) Q E s := by
  obtain ⟨items, items2, n, n2, hl1, hb1, _, _, _⟩ := hl _ h
  refine PySem.wpAny_richCompare_same_room (op := .Eq) ⟨_, hl1, rfl⟩ ⟨_, hb1, rfl⟩ F.slot_list_eq (call_here F.slot_list_eq ⟨_, hl1, rfl⟩ F.entry_list_eq (F.args_list_eq_2 _ _) ?_) hu
  exact list_eqE (R := wants (fun v s' => v ≠ .notImplemented ∧ Q v s') E) l b N e I hl (fun s' q => ⟨(fun x => nomatch x), fin s' q⟩) h
theorem rc_tupE {l b : Addr} {items items2 : Array Value} {e : Nat → Bool} {Q : Value → Shared → Prop} (hu : A.units < cLine) (I : Shared → Prop)
    (hl : s.heap.IsTuple l items) (hb : s.heap.IsTuple b items2)
    (turn : ∀ i (h1 : i < items.size) (h2 : i < items2.size) s, I s → wpAny (model prog w) A.in1 (eqBool items[i] items2[i]) (fun r s' => r = e i ∧ I s') E s)
    (fin : ∀ s, I s → Q (.bool ((List.range (min items.size items2.size)).all e && items.size == items2.size)) s) (h : I s) : wpAny (model prog w) A (richCompare .Eq (.ref l) (.ref b)) Q E s := by
  obtain ⟨⟨cls, dd, data, sl⟩, ho, hc, n, hd⟩ := id hl
  obtain ⟨⟨cls2, dd2, data2, sl2⟩, ho2, hc2, n2, hd2⟩ := id hb
  simp only at hc hd hc2 hd2
  subst hc hd hc2 hd2
  refine PySem.wpAny_richCompare_same_room (op := .Eq) ⟨_, ho, rfl⟩ ⟨_, ho2, rfl⟩ F.slot_tuple_eq (call_here F.slot_tuple_eq ⟨_, ho, rfl⟩ F.entry_tuple_eq (F.args_tuple_eq_2 _ _) ?_) hu
  exact tuple_eqE (R := wants (fun v s' => v ≠ .notImplemented ∧ Q v s') E) l b items items2 n n2 dd dd2 sl sl2 e I turn (fun s' q => ⟨(fun x => nomatch x), fin s' q⟩) ho ho2 h
end
section
variable {Z : Zn} {X : Cx} {W : WX}
/-- the state has moved on, the view stands -/
def EqI (Z : Zn) (X : Cx) (pins : List (Addr × Obj)) (τ : L2.St) (F : Hp) (M : Hm) (s' : Shared) : Prop := ∃ G H', Ext F G ∧ View Z G M H' ∧ Inv X pins τ H' s'
/-- what an own == promises -/
def spEq (es : List String) (c : String) (j : Nat) : DSp := fun ds M Q _ => ∃ fs e, ds = [.ins c fs, e] ∧ D.pure es (.ins c fs) = true ∧ D.pure es e = true ∧ (D.ins c fs).dp ≤ j ∧ e.dp ≤ j ∧ Q (.bl (D.eq (.ins c fs) e)) M
def plainTs : List String := ["NoneType", "bool", "int", "str", "tuple", "list"]
structure EqCls (Z : Zn) (X : Cx) (c : String) : Prop where
  mem : c ∈ Z.cs
  mro : ∀ T ∈ plainTs, PySem.W.mroIn X.K (Z.ca c) (.type T) = some false
  ty : ∀ T ∈ plainTs, PySem.W.subIn X.K (.type T) (.ref (Z.ca c)) = some false
  own : ∀ d ∈ Z.es, PySem.W.notFirst X.K (Z.ca c) (.ref (Z.ca d)) = true
/-- its own == at the level j -/
def EqDef (Z : Zn) (X : Cx) (c : String) (j : Nat) : Prop := ∃ f fd ps, PySem.W.findIn X.K (.ref (Z.ca c)) "__eq__" = some (some (.ref f)) ∧ PySem.W.isFn X.K (.ref f) = true ∧ ps.length = 2 ∧ Binds X.K fd ps [] ∧ FnOk X.prog X.w X.K X.mg X.base (CX X.prog X.w) j f fd ps (spOf Z 2 (spEq Z.es c j))
def EqOk (Z : Zn) (X : Cx) (n : Nat) : Prop := ∀ (A : Around) (pins : List (Addr × Obj)) (s : Shared) (τ : L2.St) (F H : Hp) (M : Hm) (d e : D) (x y : V) (u v : Value), L2.Sub X n A → Inv X pins τ H s → View Z F M H → RD Z F d x → RD Z F e y → RelV x u → RelV y v →
  D.pure Z.es d = true → D.pure Z.es e = true → d.dp ≤ n → e.dp ≤ n → wpAny (model X.prog X.w) A (eqBool u v) (fun r s' => r = D.eq d e ∧ EqI Z X pins τ F M s') X.xe s
def RcOk (Z : Zn) (X : Cx) (n : Nat) : Prop := ∀ (A : Around) (pins : List (Addr × Obj)) (s : Shared) (τ : L2.St) (F H : Hp) (M : Hm) (d e : D) (x y : V) (u v : Value), L2.Sub X n A → Inv X pins τ H s → View Z F M H → RD Z F d x → RD Z F e y → RelV x u → RelV y v →
  D.pure Z.es d = true → D.pure Z.es e = true → d.dp ≤ n → e.dp ≤ n → wpAny (model X.prog X.w) A (richCompare .Eq u v) (fun r s' => r = .bool (D.eq d e) ∧ EqI Z X pins τ F M s') X.xe s
theorem EqI.now {pins : List (Addr × Obj)} {τ : L2.St} {F H : Hp} {M : Hm} {s : Shared} (V : View Z F M H) (I : Inv X pins τ H s) : EqI Z X pins τ F M s := ⟨F, H, Ext.rfl', V, I⟩
end
end DL
namespace PySem.SeqAt
open PySem
open MeetsSeq MeetsSeq2 MeetsSeq3 SeqRoads2
theorem int_declines_plain (b : Int) (u : Tok) (l : Addr) (c : Value) (dd : Option Addr) (sl : Array (Option Value)) :
    Meets (Builtin.«int.__eq__» ⟨[.int b u, .ref l], []⟩) (fun _ R s => s.heap.get? l = some { cls := c, dict := dd, data := .plain, slots := sl } ∧ R (.ok (.ret .notImplemented)) s) :=
  .of_wp fun prog w A R s h => by obtain ⟨hp, g, d, tk, os⟩ := s; obtain ⟨hl, h⟩ := h; wp_walk using AutoSeq1.wpAny_loadPart' hl, wpAny_load hl; exact ⟨_, rfl, h⟩
theorem bool_declines_plain (b : Bool) (l : Addr) (c : Value) (dd : Option Addr) (sl : Array (Option Value)) :
    Meets (Builtin.«int.__eq__» ⟨[.bool b, .ref l], []⟩) (fun _ R s => s.heap.get? l = some { cls := c, dict := dd, data := .plain, slots := sl } ∧ R (.ok (.ret .notImplemented)) s) :=
  .of_wp fun prog w A R s h => by obtain ⟨hp, g, d, tk, os⟩ := s; obtain ⟨hl, h⟩ := h; wp_walk using AutoSeq1.wpAny_loadPart' hl, wpAny_load hl; exact ⟨_, rfl, h⟩
theorem str_declines_plain (b : Str) (u : Tok) (l : Addr) (c : Value) (dd : Option Addr) (sl : Array (Option Value)) :
    Meets (Builtin.«str.__eq__» ⟨[.str b u, .ref l], []⟩) (fun _ R s => s.heap.get? l = some { cls := c, dict := dd, data := .plain, slots := sl } ∧ R (.ok (.ret .notImplemented)) s) :=
  .of_wp fun prog w A R s h => by obtain ⟨hp, g, d, tk, os⟩ := s; obtain ⟨hl, h⟩ := h; wp_walk using AutoSeq1.wpAny_loadPart' hl, wpAny_load hl; exact ⟨_, rfl, h⟩
open PySem.W in
theorem tuple_declines_own {prog : Program} {w : World} {A : Around} {R : Result → Shared → Prop} {K : Frag} {C l x dx : Addr} {od : Obj} {items : Array Value} {n : Nat} {dd : Option Addr} {sl : Array (Option Value)} {s : Shared} (KX : K.In s.heap) (I : InstAt s.heap x (instObj C dx) C (some od)) (hm : mroIn K C (.type "tuple") = some false)
    (hl : s.heap.get? l = some { cls := .type "tuple", dict := dd, data := .seq items n, slots := sl }) (h : R (.ok (.ret .notImplemented)) s) : wpAny (model prog w) A.in1 (Builtin.«tuple.__eq__» ⟨[.ref l, .ref x], []⟩) (GQ.FinOf prog w A R) (fun e s' => R (.error e) s') s := by
  have L : Looks (model prog w) s.heap (isInstance (.ref x) (.type "tuple")) false := I.type.andThen (looks_mroIn KX hm)
  obtain ⟨hp, g, d, tk, os⟩ := s
  wp_walk using AutoSeq1.wpAny_loadPart' hl, L.here
  exact h
end PySem.SeqAt
namespace DL
open PySem PySem.Spec PyProof.Rows L2
section
open PySem.W
variable {prog : Program} {w : World} {A : Around} {E : Value → Shared → Prop} {s : Shared} {K : Frag} {h₀ : Heap} {L : Addr} {m : Str → Option Value} {x C f : Addr} {ox : Obj} {od : Option Obj}
/-- a builtin thing that declines, then the instance's own == -/
theorem rc_mixed {a : Value} {Ta ida : String} {Q : Value → Shared → Prop} (ha : s.TypeIs a Ta) (h1 : Slot Ta (cmpInfo .Eq).2.1 ida) (hd : ∀ Q' : Value → Shared → Prop, Q' .notImplemented s → wpAny (model prog w) A (call (.builtin ida) [a, .ref x]) Q' E s)
    (hu : A.units < cLine) (F : Fr h₀ L s.heap m) (X₀ : K.In h₀) (I : InstAt s.heap x ox C od) (hm : mroIn K C (.type Ta) = some false)
    (hs : findIn K (.ref C) (cmpInfo .Eq).2.2 = some (some (.ref f))) (hf : isFn K (.ref f) = true)
    (h : wpAny (model prog w) A (call (.ref f) [.ref x, a]) (PySem.W.CmpBack Q) E s) : wpAny (model prog w) A (richCompare .Eq a (.ref x)) Q E s := by
  have X := X₀.keeps F.keep
  have one : wpAny (model prog w) A (tryCompare (.ref x) (cmpInfo .Eq).2.2 a) (fun r s' => ∃ v, r = some v ∧ Q v s') E s := by
    unfold tryCompare
    refine wpAny_bind (ifBound_K X I hs hf (wpAny_mono h (fun v s' hv => ?_) fun _ _ e => e))
    cases v <;> first | exact hv.elim | exact wpAny_pure ⟨_, rfl, hv⟩
  rcases hi : cmpInfo CmpOp.Eq with ⟨sym, f, r⟩
  rw [hi] at h1 one
  simp only [richCompare, hi, ha.oneThing_none]
  refine wpAny_holding (wpAny_bind (wpAny_cRoomFor hu ?_))
  refine wpAny_bind (wpAny_typeOf ha ?_)
  refine wpAny_bind (I.type.here ?_)
  have hne : (Value.type Ta != Value.ref C) = true := by simp
  simp only [hne, if_true]
  refine wpAny_bind ((looks_mroIn X hm).here ?_)
  simp only [Bool.false_eq_true, if_false, Bool.not_false, if_true]
  refine wpAny_bind (m := tryCompare a _ _) (wpAny_tryCompare_declines ha h1 (hd _ ⟨rfl, ?_⟩))
  refine wpAny_bind (m := tryCompare _ _ a) (wpAny_mono one (fun v s' hv => ?_) fun _ _ e => e)
  obtain ⟨v, rfl, q⟩ := hv
  exact wpAny_pure q
end
end DL
namespace DL
open PySem PySem.Spec PyProof.Rows L2
theorem RDf.inv {Z : Zn} {F : Hp} {es : List (String × D)} {ws : List (Str × V)} (h : RDf Z F es ws) : ∀ (k : Str) (v : V) (gs : List (Str × V)), ws = (k, v) :: gs → ∃ f d fs, es = (f, d) :: fs ∧ RD Z F d v ∧ RDf Z F fs gs := by
  cases h with
  | nil => intro k v gs e; cases e
  | cons h r =>
    intro k v gs e
    injection e with e1 e2
    injection e1 with e3 e4
    subst e4 e2
    exact ⟨_, _, _, rfl, h, r⟩
theorem RDf.inv0 {Z : Zn} {F : Hp} {es : List (String × D)} {ws : List (Str × V)} (h : RDf Z F es ws) : ws = [] → es = [] := by
  cases h with
  | nil => intro _; rfl
  | cons h r => intro e; cases e
mutual
theorem eq_same {Z : Zn} {F H : Hp} {X : Cx} {pins : List (Addr × Obj)} {τ : L2.St} {s : Shared} (I : Inv X pins τ H s) (hz : Z.K = X.K) (hF : Ext F H) (hca : ∀ c ∈ Z.cs, ∀ d ∈ Z.cs, Z.ca c = Z.ca d → c = d) : ∀ {d e : D} {x : V}, RD Z F d x → RD Z F e x → D.pure Z.es d = true → D.pure Z.es e = true → D.eq d e = true
  | _, _, _, .non, .non, _, _ => rfl
  | _, _, _, .bl b, .bl _, _, _ => by simp [D.eq]
  | _, _, _, .int i, .int _, _, _ => by simp [D.eq]
  | _, e, _, .str x, r, _, he => by
    cases e with
    | str y =>
      have := r.str_of
      injection this with h
      have := sv_inj h
      subst this
      simp [D.eq]
    | _ => cases r
  | _, e, _, @RD.tup _ _ ds a vs h r, r2, hd, he => by
    cases e with
    | tup es =>
      obtain ⟨a', vs', ea, h', r'⟩ := r2.tup_of
      cases ea
      have ev : vs = vs' := I.tuple_inj (by rw [← hz]; exact SqT.ext h hF) (by rw [← hz]; exact SqT.ext h' hF)
      subst ev
      unfold D.eq
      exact eqs_same I hz hF hca r r' (by simpa [D.pure] using hd) (by simpa [D.pure] using he)
    | ins c fs =>
      obtain ⟨a', dx, gs, ea, hm, h', r'⟩ := r2.ins_of
      cases ea
      have h1 := SqT.ext h hF
      have h2 := hF _ _ h'
      rcases h1 with (h1 | ⟨o, h1⟩) | ⟨o, its, n, hk, _⟩
      · rw [h1] at h2; cases h2
      · rw [h1] at h2; cases h2
      · rw [hz] at hk
        have h3 := (I.bs _ _ (I.ok.mod.kin _ _ hk)).2
        rw [h3] at h2; cases h2
    | ref b => simp [D.pure] at he
    | _ => cases r2
  | _, e, _, @RD.ins _ _ c fs a dx gs hm h r, r2, hd, he => by
    cases e with
    | ins c' fs' =>
      obtain ⟨a', dx', gs', ea, hm', h', r'⟩ := r2.ins_of
      cases ea
      rw [h] at h'
      injection h' with h'
      injection h' with a1 a2 a3
      subst a3
      have := hca c hm c' hm' a1
      subst this
      unfold D.pure at hd he
      rw [Bool.and_eq_true] at hd he
      unfold D.eq
      rw [beq_self_eq_true, Bool.true_and]
      exact eqf_same I hz hF hca r r' (Bool.and_eq_true_iff.mp hd.2).2 (Bool.and_eq_true_iff.mp he.2).2
    | tup es =>
      obtain ⟨a', vs', ea, h', r'⟩ := r2.tup_of
      cases ea
      have h1 := SqT.ext h' hF
      have h2 := hF _ _ h
      rcases h1 with (h1 | ⟨o, h1⟩) | ⟨o, its, n, hk, _⟩
      · rw [h1] at h2; cases h2
      · rw [h1] at h2; cases h2
      · rw [hz] at hk
        have h3 := (I.bs _ _ (I.ok.mod.kin _ _ hk)).2
        rw [h3] at h2; cases h2
    | ref b => simp [D.pure] at he
    | _ => cases r2
  | _, _, _, .ref a, _, hd, _ => by simp [D.pure] at hd
  | _, _, _, .ty n, _, hd, _ => by simp [D.pure] at hd
theorem eqs_same {Z : Zn} {F H : Hp} {X : Cx} {pins : List (Addr × Obj)} {τ : L2.St} {s : Shared} (I : Inv X pins τ H s) (hz : Z.K = X.K) (hF : Ext F H) (hca : ∀ c ∈ Z.cs, ∀ d ∈ Z.cs, Z.ca c = Z.ca d → c = d) : ∀ {ds es : List D} {vs : List V}, RDs Z F ds vs → RDs Z F es vs → D.pures Z.es ds = true → D.pures Z.es es = true → D.eqs ds es = true
  | _, _, _, .nil, .nil, _, _ => rfl
  | _, _, _, .cons h r, .cons h' r', hd, he => by
    unfold D.pures at hd he
    rw [Bool.and_eq_true] at hd he
    unfold D.eqs
    rw [eq_same I hz hF hca h h' hd.1 he.1, eqs_same I hz hF hca r r' hd.2 he.2]
    rfl
theorem eqf_same {Z : Zn} {F H : Hp} {X : Cx} {pins : List (Addr × Obj)} {τ : L2.St} {s : Shared} (I : Inv X pins τ H s) (hz : Z.K = X.K) (hF : Ext F H) (hca : ∀ c ∈ Z.cs, ∀ d ∈ Z.cs, Z.ca c = Z.ca d → c = d) {k : String} : ∀ {ds es : List (String × D)} {vs : List (Str × V)}, RDf Z F ds vs → RDf Z F es vs → D.puref Z.es ds = true → D.puref Z.es es = true → D.eqf k ds es = true
  | _, _, _, .nil, r2, _, _ => by
    rw [RDf.inv0 r2 rfl]
    rfl
  | _, _, _, .cons h r, r2, hd, he => by
    obtain ⟨f', d', fs', rfl, h', r'⟩ := RDf.inv r2 _ _ _ rfl
    unfold D.puref at hd he
    rw [Bool.and_eq_true] at hd he
    unfold D.eqf
    rw [eq_same I hz hF hca h h' hd.1 he.1, eqf_same I hz hF hca r r' hd.2 he.2]
    simp
end
section
open PySem.SeqAt MeetsSeq MeetsSeq2 MeetsSeq3 SeqRoads2
variable {Z : Zn} {X : Cx} {W : WX}
theorem EqI.trans {pins : List (Addr × Obj)} {τ : L2.St} {F G : Hp} {M : Hm} {s : Shared} (e : Ext F G) (h : EqI Z X pins τ G M s) : EqI Z X pins τ F M s :=
  let ⟨G', H', e', V, I⟩ := h; ⟨G', H', e.trans e', V, I⟩
/-- an instance's own == is called -/
theorem own_call {c : String} {n : Nat} (hD : EqDef Z X c n) (tk : Takes X W) {A : Around} {pins : List (Addr × Obj)} {s : Shared} {τ : L2.St} {F H : Hp} {M : Hm} {fs : List (String × D)} {e : D} {a : Addr} {y : V} {v : Value}
    (sb : L2.Sub X n A) (I : Inv X pins τ H s) (V0 : View Z F M H) (rd : RD Z F (.ins c fs) (.ref a)) (re : RD Z F e y) (rv : RelV y v) (hp : D.pure Z.es (.ins c fs) = true) (he : D.pure Z.es e = true) (hn : (D.ins c fs).dp ≤ n) (hn' : e.dp ≤ n) :
    ∃ f, PySem.W.findIn X.K (.ref (Z.ca c)) "__eq__" = some (some (.ref f)) ∧ PySem.W.isFn X.K (.ref f) = true ∧
      wpAny (model X.prog X.w) A (call (.ref f) [.ref a, v]) (PySem.W.CmpBack fun r s' => r = .bool (D.eq (.ins c fs) e) ∧ EqI Z X pins τ F M s') X.xe s := by
  obtain ⟨f, fd, ps, h1, h2, hl, hb, Fn⟩ := hD
  refine ⟨f, h1, h2, ?_⟩
  have hsp : spOf Z 2 (spEq Z.es c n) [.ref a, y] H (fun r H' => r = .bl (D.eq (.ins c fs) e) ∧ ∃ G, Ext F G ∧ View Z G M H') (L2.WE W τ) :=
    ⟨F, [.ins c fs, e], M, fun d N => d = .bl (D.eq (.ins c fs) e) ∧ N = M, fun _ _ => False, rfl, .cons rd (.cons re .nil), V0, ⟨fs, e, rfl, hp, he, hn, hn', rfl, rfl⟩, fun G d w N H' e' V' r' q => by
      obtain ⟨rfl, rfl⟩ := q
      exact ⟨r'.bl_of, G, e', V'⟩, fun _ _ _ _ _ _ _ _ _ z => z.elim⟩
  have e0 : Env0 X.prog X.w X.K X.mg X.base A X.stack s H := by
    have e := I.env0
    exact ⟨by rw [sb.fr]; exact e.frames, e.mod, e.bs, e.bsz, e.funs, e.frf, e.hok, e.bare⟩
  have r2 : Vals [V.ref a, y] [Value.ref a, v] := .cons rfl (.cons rv .nil)
  refine wpAny_call (codeAny_mono (Fn.run A X.stack s H ⟨[.ref a, v], []⟩ [.ref a, v] [.ref a, y] _ (L2.WE W τ) sb.room e0 (by
    have := hb s [.ref a, v] I.kIn (by simpa using hl.symm)
    simpa using this) r2 hsp) fun r s' hq => ?_)
  cases r with
  | error e => exact passAt tk τ pins H s e s' I hq
  | ok fl =>
    cases fl with
    | ret w =>
      obtain ⟨z, H', I', rz, ez, G, eG, VG⟩ := I.after hq
      subst ez
      cases rz
      exact ⟨rfl, G, H', eG, VG, I'⟩
    | next => exact False.elim hq
    | brk => exact False.elim hq
    | cont => exact False.elim hq
theorem sv_beq (x y : Tx) : (sv x == sv y) = (x == y) := by
  by_cases h : x = y
  · subst h; simp
  · have h2 : ¬ sv x = sv y := fun e => h (sv_inj e)
    rw [beq_eq_false_iff_ne.mpr h, beq_eq_false_iff_ne.mpr h2]
theorem cmpE1 : (cmpInfo .Eq).2.1 = "__eq__" := rfl
theorem cmpE2 : (cmpInfo .Eq).2.2 = "__eq__" := rfl
theorem dp_ins {c : String} {fs : List (String × D)} : (D.ins c fs).dp = 4 + D.dpf c fs := by unfold D.dp; rfl
theorem dp_tup {xs : List D} : (D.tup xs).dp = 1 + D.dps xs := by unfold D.dp; rfl
theorem eq_step (hc : ∀ c ∈ Z.es, EqCls Z X c) (hz : Z.K = X.K) (hca : ∀ c ∈ Z.cs, ∀ d ∈ Z.cs, Z.ca c = Z.ca d → c = d) (tk : Takes X W) {n : Nat} (hD : ∀ c ∈ Z.es, EqDef Z X c n) (ih : ∀ m, m < n → EqOk Z X m) : RcOk Z X n := by
  intro A pins s τ F H M d e x y u v sb I V0 rd re ru rv hd he hn hn'
  have hu := sb.room.units0
  have fin : ∀ {b : Bool}, (fun r s' => r = .bool b ∧ EqI Z X pins τ F M s') (Value.bool b) s := ⟨rfl, .now V0 I⟩
  have mixed : ∀ {Ta ida : String} {c' : String} {gs' : List (String × D)}, s.TypeIs u Ta → Slot Ta (cmpInfo .Eq).2.1 ida →
      (∀ (a : Addr) (dx : Addr) (Q' : Value → Shared → Prop), v = .ref a → s.heap.get? a = some (PySem.W.instObj (Z.ca c') dx) → Q' .notImplemented s → wpAny (model X.prog X.w) A (call (.builtin ida) [u, .ref a]) Q' X.xe s) → Ta ∈ plainTs → e = .ins c' gs' → D.eq d e = D.eq e d →
      wpAny (model X.prog X.w) A (richCompare .Eq u v) (fun r s' => r = .bool (D.eq d e) ∧ EqI Z X pins τ F M s') X.xe s := fun {Ta ida c' gs'} ht hs hdec hT ee hsym => by
    subst ee
    obtain ⟨b, dx', gs2, rfl, hm', hb, hr'⟩ := re.ins_of
    cases rv
    have hce' : c' ∈ Z.es := by
      unfold D.pure at he
      exact of_decide_eq_true (Bool.and_eq_true_iff.mp he).1
    obtain ⟨f, h1, h2, hcall⟩ := own_call (hD c' hce') tk sb I V0 re rd ru he hd hn' hn
    obtain ⟨mB, J', _⟩ := ins_get I.hok (V0.sub _ _ hb)
    obtain ⟨od', J', _⟩ := J'.look
    obtain ⟨m, hF⟩ := I.fr
    rw [hsym]
    exact rc_mixed ht hs (fun Q' q => hdec b _ Q' rfl J'.at_ q) hu hF I.ok.mod.kin J' ((hc c' hce').mro Ta hT) h1 h2 hcall
  cases d with
  | ref a => simp [D.pure] at hd
  | ty a => simp [D.pure] at hd
  | ins c fs =>
    obtain ⟨a, dx, gs, rfl, hm, ha, hr⟩ := rd.ins_of
    cases ru
    have hce : c ∈ Z.es := by
      unfold D.pure at hd
      exact of_decide_eq_true (Bool.and_eq_true_iff.mp hd).1
    have C := hc c hce
    obtain ⟨f, h1, h2, hcall⟩ := own_call (hD c hce) tk sb I V0 rd re rv hd he hn hn'
    obtain ⟨mA, J, _⟩ := ins_get I.hok (V0.sub _ _ ha)
    obtain ⟨od, J, _⟩ := J.look
    obtain ⟨m, hF⟩ := I.fr
    have go : ∀ {tb : Value}, PySem.W.Looks (model X.prog X.w) s.heap (typeOf v) tb → PySem.W.notFirst X.K (Z.ca c) tb = true → wpAny (model X.prog X.w) A (richCompare .Eq (.ref a) v) (fun r s' => r = .bool (D.eq (.ins c fs) e) ∧ EqI Z X pins τ F M s') X.xe s := fun {tb} hb hn =>
      PySem.W.cmp_K (op := .Eq) (tb := tb) hu hF I.ok.mod.kin J hb hn h1 h2 hcall
    have nf : ∀ T ∈ plainTs, PySem.W.notFirst X.K (Z.ca c) (.type T) = true := fun T hT => by
      unfold PySem.W.notFirst
      rw [C.ty T hT]
      simp
    cases e with
    | non => cases re.non_of; cases rv; exact go (.now) (nf _ (by simp [plainTs]))
    | bl b => cases re.bl_of; cases rv; exact go (.now) (nf _ (by simp [plainTs]))
    | int i => cases re.int_of; obtain ⟨t, rfl⟩ := rv; exact go (.now) (nf _ (by simp [plainTs]))
    | str i => cases re.str_of; obtain ⟨t, rfl⟩ := rv; exact go (.now) (nf _ (by simp [plainTs]))
    | tup es =>
      obtain ⟨b, vs, rfl, hb, rs⟩ := re.tup_of
      cases rv
      obtain ⟨its, rv', ⟨o, ho, hcl, _⟩, hz'⟩ := I.tuple (show SqT X.K H b vs by rw [← hz]; exact SqT.sub V0 hb)
      exact go (tb := .type "tuple") (hcl ▸ (PySem.W.Looks.ld ho).andThen .now) (nf _ (by simp [plainTs]))
    | ins c' gs' =>
      obtain ⟨b, dx', gs2, rfl, hm', hb, hr'⟩ := re.ins_of
      cases rv
      obtain ⟨mB, J', _⟩ := ins_get I.hok (V0.sub _ _ hb)
      obtain ⟨od', J', _⟩ := J'.look
      have hce' : c' ∈ Z.es := by
        unfold D.pure at he
        exact of_decide_eq_true (Bool.and_eq_true_iff.mp he).1
      exact go J'.type (C.own c' hce')
    | ref b => simp [D.pure] at he
    | ty b => simp [D.pure] at he
  | non =>
    cases rd.non_of; cases ru
    cases e with
    | non => cases re.non_of; cases rv; exact RcAt.none_none X.prog X.w X.xe _ fin
    | bl b => cases re.bl_of; cases rv; exact RcAt.none_bool b X.prog X.w X.xe _ fin
    | int i => cases re.int_of; obtain ⟨t, rfl⟩ := rv; exact RcAt.none_int i t X.prog X.w X.xe _ fin
    | str i => cases re.str_of; obtain ⟨t, rfl⟩ := rv; exact RcAt.none_str _ t X.prog X.w X.xe _ fin
    | tup es =>
      obtain ⟨b, vs, rfl, hb, rs⟩ := re.tup_of
      cases rv
      obtain ⟨its, rv', pl, hz'⟩ := I.tuple (show SqT X.K H b vs by rw [← hz]; exact SqT.sub V0 hb)
      exact RcAt.none_tuple pl hu X.prog X.w X.xe _ fin
    | ins c' gs' => exact mixed (c' := c') (gs' := gs') (Ta := "NoneType") rfl PySem.F.slot_NoneType_eq (fun a dx Q' _ _ q => call_gives PySem.F.slot_NoneType_eq rfl PySem.F.entry_NoneType_eq (PySem.F.args_NoneType_eq_2 _ _) (NoneType___eq___none_ref_0 a) q) (by simp [plainTs]) rfl (by simp [D.eq])
    | ref b => simp [D.pure] at he
    | ty b => simp [D.pure] at he
  | bl b0 =>
    cases rd.bl_of; cases ru
    cases e with
    | non => cases re.non_of; cases rv; exact RcAt.bool_none b0 X.prog X.w X.xe _ fin
    | bl b => cases re.bl_of; cases rv; exact RcAt.bool_bool b0 b X.prog X.w X.xe _ ⟨by simp [D.eq], EqI.now V0 I⟩
    | int i => cases re.int_of; obtain ⟨t, rfl⟩ := rv; exact RcAt.bool_int b0 i t X.prog X.w X.xe _ ⟨by simp [D.eq], EqI.now V0 I⟩
    | str i => cases re.str_of; obtain ⟨t, rfl⟩ := rv; exact RcAt.bool_str b0 _ t X.prog X.w X.xe _ fin
    | tup es =>
      obtain ⟨b, vs, rfl, hb, rs⟩ := re.tup_of
      cases rv
      obtain ⟨its, rv', pl, hz'⟩ := I.tuple (show SqT X.K H b vs by rw [← hz]; exact SqT.sub V0 hb)
      exact RcAt.bool_tuple b0 pl hu X.prog X.w X.xe _ fin
    | ins c' gs' => exact mixed (c' := c') (gs' := gs') (Ta := "bool") rfl PySem.F.slot_bool_eq (fun a dx Q' _ hg q => call_meets PySem.F.slot_bool_eq rfl PySem.F.entry_int_eq (PySem.F.args_int_eq_2 _ _) (bool_declines_plain b0 a _ _ _) ⟨hg, q⟩) (by simp [plainTs]) rfl (by simp [D.eq])
    | ref b => simp [D.pure] at he
    | ty b => simp [D.pure] at he
  | int i0 =>
    cases rd.int_of; obtain ⟨t0, rfl⟩ := ru
    cases e with
    | non => cases re.non_of; cases rv; exact RcAt.int_none i0 t0 X.prog X.w X.xe _ fin
    | bl b => cases re.bl_of; cases rv; exact RcAt.int_bool i0 t0 b X.prog X.w X.xe _ ⟨by simp [D.eq], EqI.now V0 I⟩
    | int i => cases re.int_of; obtain ⟨t, rfl⟩ := rv; exact RcAt.int_int i0 t0 i t X.prog X.w X.xe _ ⟨by simp [D.eq], EqI.now V0 I⟩
    | str i => cases re.str_of; obtain ⟨t, rfl⟩ := rv; exact RcAt.int_str i0 t0 _ t X.prog X.w X.xe _ fin
    | tup es =>
      obtain ⟨b, vs, rfl, hb, rs⟩ := re.tup_of
      cases rv
      obtain ⟨its, rv', pl, hz'⟩ := I.tuple (show SqT X.K H b vs by rw [← hz]; exact SqT.sub V0 hb)
      exact RcAt.int_tuple i0 t0 pl hu X.prog X.w X.xe _ fin
    | ins c' gs' => exact mixed (c' := c') (gs' := gs') (Ta := "int") (typeIs_int s i0 t0) PySem.F.slot_int_eq (fun a dx Q' _ hg q => call_meets PySem.F.slot_int_eq (typeIs_int s i0 t0) PySem.F.entry_int_eq (PySem.F.args_int_eq_2 _ _) (int_declines_plain i0 t0 a _ _ _) ⟨hg, q⟩) (by simp [plainTs]) rfl (by simp [D.eq])
    | ref b => simp [D.pure] at he
    | ty b => simp [D.pure] at he
  | str x0 =>
    cases rd.str_of; obtain ⟨t0, rfl⟩ := ru
    cases e with
    | non => cases re.non_of; cases rv; exact RcAt.str_none _ t0 X.prog X.w X.xe _ fin
    | bl b => cases re.bl_of; cases rv; exact RcAt.str_bool _ t0 b X.prog X.w X.xe _ fin
    | int i => cases re.int_of; obtain ⟨t, rfl⟩ := rv; exact RcAt.str_int _ t0 i t X.prog X.w X.xe _ fin
    | str i => cases re.str_of; obtain ⟨t, rfl⟩ := rv; exact RcAt.str_str _ t0 _ t X.prog X.w X.xe _ ⟨by rw [sv_beq]; simp [D.eq], EqI.now V0 I⟩
    | tup es =>
      obtain ⟨b, vs, rfl, hb, rs⟩ := re.tup_of
      cases rv
      obtain ⟨its, rv', pl, hz'⟩ := I.tuple (show SqT X.K H b vs by rw [← hz]; exact SqT.sub V0 hb)
      exact RcAt.str_tuple _ t0 pl hu X.prog X.w X.xe _ fin
    | ins c' gs' => exact mixed (c' := c') (gs' := gs') (Ta := "str") (typeIs_str s _ t0) PySem.F.slot_str_eq (fun a dx Q' _ hg q => call_meets PySem.F.slot_str_eq (typeIs_str s _ t0) PySem.F.entry_str_eq (PySem.F.args_str_eq_2 _ _) (str_declines_plain _ t0 a _ _ _) ⟨hg, q⟩) (by simp [plainTs]) rfl (by simp [D.eq])
    | ref b => simp [D.pure] at he
    | ty b => simp [D.pure] at he
  | tup ds =>
    obtain ⟨a, us, rfl, ha, ra⟩ := rd.tup_of
    cases ru
    obtain ⟨its, rv1, p1, hz1⟩ := I.tuple (show SqT X.K H a us by rw [← hz]; exact SqT.sub V0 ha)
    cases e with
    | non => cases re.non_of; cases rv; exact RcAt.tuple_none p1 hu X.prog X.w X.xe _ fin
    | bl b => cases re.bl_of; cases rv; exact RcAt.tuple_bool b p1 hu X.prog X.w X.xe _ fin
    | int i => cases re.int_of; obtain ⟨t, rfl⟩ := rv; exact RcAt.tuple_int i t p1 hu X.prog X.w X.xe _ fin
    | str i => cases re.str_of; obtain ⟨t, rfl⟩ := rv; exact RcAt.tuple_str _ t p1 hu X.prog X.w X.xe _ fin
    | tup es =>
      obtain ⟨b, vs, rfl, hb, rb⟩ := re.tup_of
      cases rv
      obtain ⟨its2, rv2, p2, hz2⟩ := I.tuple (show SqT X.K H b vs by rw [← hz]; exact SqT.sub V0 hb)
      have hds : D.pures Z.es ds = true := by simpa [D.pure] using hd
      have hes : D.pures Z.es es = true := by simpa [D.pure] using he
      rw [dp_tup] at hn hn'
      have e1 : D.eq (.tup ds) (.tup es) = ((List.range (min its.toArray.size its2.toArray.size)).all (fun i => D.eq (ds.getD i .non) (es.getD i .non)) && its.toArray.size == its2.toArray.size) := by
        show D.eqs ds es = _
        rw [eqs_iff, List.size_toArray, List.size_toArray, ← rv1.length, ← rv2.length, ra.length, rb.length]
      rw [e1]
      refine rc_tupE hu (EqI Z X pins τ F M) p1 p2 (fun i h1 h2 s' hI => ?_) (fun s' hI => ⟨rfl, hI⟩) (.now V0 I)
      obtain ⟨G, H', eG, VG, I'⟩ := hI
      have k1 : i < ds.length := by rw [ra.length, rv1.length]; simpa using h1
      have k2 : i < es.length := by rw [rb.length, rv2.length]; simpa using h2
      obtain ⟨w1, g1, q1⟩ := ra.get (List.getElem?_eq_getElem k1)
      obtain ⟨w2, g2, q2⟩ := rb.get (List.getElem?_eq_getElem k2)
      obtain ⟨u1, gu1, ru1⟩ := rv1.get g1
      obtain ⟨u2, gu2, ru2⟩ := rv2.get g2
      have a1 : its.toArray[i] = u1 := by
        have : its[i]? = some its.toArray[i] := by
          rw [List.getElem?_eq_getElem (by simpa using h1)]; simp
        rw [gu1] at this; exact (Option.some.inj this).symm
      have a2 : its2.toArray[i] = u2 := by
        have : its2[i]? = some its2.toArray[i] := by
          rw [List.getElem?_eq_getElem (by simpa using h2)]; simp
        rw [gu2] at this; exact (Option.some.inj this).symm
      rw [a1, a2]
      have d1 := dps_get (List.getElem?_eq_getElem k1)
      have d2 := dps_get (List.getElem?_eq_getElem k2)
      have := ih (n - 1) (by omega) A.in1 pins s' τ G H' M ds[i] es[i] w1 w2 u1 u2 (L2.Sub.in1 (by rw [show n - 1 + 1 = n by omega]; exact sb)) I' VG (q1.ext eG) (q2.ext eG) ru1 ru2
        (pures_get hds (List.getElem?_eq_getElem k1)) (pures_get hes (List.getElem?_eq_getElem k2)) (by omega) (by omega)
      refine wpAny_mono this (fun r s2 ⟨hr, hq⟩ => ⟨?_, hq.trans eG⟩) fun _ _ z => z
      rw [hr, List.getD_eq_getElem?_getD, List.getD_eq_getElem?_getD, List.getElem?_eq_getElem k1, List.getElem?_eq_getElem k2]
      rfl
    | ins c' gs' =>
      obtain ⟨⟨cls, dd, data, sl⟩, ho, hcl, n0, hdat⟩ := id p1
      simp only at hcl hdat
      subst hcl hdat
      have hce' : c' ∈ Z.es := by
        unfold D.pure at he
        exact of_decide_eq_true (Bool.and_eq_true_iff.mp he).1
      obtain ⟨b, dx', gs2, rfl, hm', hb, hr'⟩ := re.ins_of
      obtain ⟨mB, J', _⟩ := ins_get I.hok (V0.sub _ _ hb)
      obtain ⟨od', J', _⟩ := J'.look
      refine mixed (c' := c') (gs' := gs') (Ta := "tuple") ⟨_, ho, rfl⟩ PySem.F.slot_tuple_eq (fun a' dx Q' hv _ q => ?_) (by simp [plainTs]) rfl (by simp [D.eq])
      cases rv
      cases hv
      refine GQ.call_here PySem.F.slot_tuple_eq ⟨_, ho, rfl⟩ PySem.F.entry_tuple_eq (PySem.F.args_tuple_eq_2 _ _) ?_
      exact tuple_declines_own I.kIn J' ((hc c' hce').mro "tuple" (by simp [plainTs])) ho q
    | ref b => simp [D.pure] at he
    | ty b => simp [D.pure] at he
end
end DL
namespace DL
open PySem PySem.Spec PyProof.Rows L2
section
variable {prog : Program} {w : World} {A : Around} {E : Value → Shared → Prop} {s : Shared}
theorem eqBool_rcG {u v : Value} {Q : Bool → Shared → Prop} (hnf : ∀ x t, u ≠ .float x t) (hs : u = v → Q true s) (h : wpAny (model prog w) A (richCompare .Eq u v) (fun r s' => ∃ b, r = .bool b ∧ Q b s') E s) : wpAny (model prog w) A (eqBool u v) Q E s := by
  have h2 : wpAny (model prog w) A (richCompare .Eq u v) (fun r s' => wpAny (model prog w) A (truthOfDropped r) Q E s') E s := wpAny_mono h (fun r s' hv => by
    obtain ⟨b, rfl, q⟩ := hv
    exact wpAny_truthy_bool q) fun _ _ x => x
  unfold eqBool
  refine wpAny_holding ?_
  refine wpAny_ite_split (fun hab => wpAny_bind (wpAny_rule (wpAny_pure (hs (eq_of_beq hab))))) (fun _ => ?_)
  cases u <;> first
    | exact wpAny_bind h2
    | exact absurd rfl (hnf _ _)
end
section
variable {Z : Zn} {X : Cx} {W : WX}
theorem eq_of_rc (hz : Z.K = X.K) (hca : ∀ c ∈ Z.cs, ∀ d ∈ Z.cs, Z.ca c = Z.ca d → c = d) {n : Nat} (h : RcOk Z X n) : EqOk Z X n := by
  intro A pins s τ F H M d e x y u v sb I V0 rd re ru rv hd he hn hn'
  refine eqBool_rcG (fun z t q => ?_) (fun q => ?_) (wpAny_mono (h A pins s τ F H M d e x y u v sb I V0 rd re ru rv hd he hn hn') (fun r s' ⟨h1, h2⟩ => ⟨_, h1, rfl, h2⟩) fun _ _ z => z)
  · subst q
    cases rd <;> first | (cases ru; done) | (obtain ⟨t, q⟩ := ru; cases q)
  · subst q
    have := RelV.inj ru rv
    subst this
    exact ⟨(eq_same I hz V0.sub hca rd re hd he).symm, .now V0 I⟩
/-- all that own == wants, to the level N -/
structure EqAll (Z : Zn) (X : Cx) (N : Nat) : Prop where
  cls : ∀ c ∈ Z.es, EqCls Z X c
  dfn : ∀ c ∈ Z.es, ∀ j ≤ N, EqDef Z X c j
  inj : ∀ c ∈ Z.cs, ∀ d ∈ Z.cs, Z.ca c = Z.ca d → c = d
theorem EqAll.rc (h : EqAll Z X N) (hz : Z.K = X.K) (tk : Takes X W) : ∀ n ≤ N, RcOk Z X n := by
  intro n
  induction n using Nat.strongRecOn with
  | _ n ih => exact fun hn => eq_step h.cls hz h.inj tk (fun c hc => h.dfn c hc n hn) fun m hm => eq_of_rc hz h.inj (ih m hm (by omega))
theorem EqAll.eq (h : EqAll Z X N) (hz : Z.K = X.K) (tk : Takes X W) : ∀ n ≤ N, EqOk Z X n := fun n hn => eq_of_rc hz h.inj (h.rc hz tk n hn)
/-- what == asks: pure data, or two lists of such -/
def pEq (es : List String) (k : Nat) (neg : Bool) (x y : D) (M : Hm) (Q : DK) : Prop :=
  (D.pure es x = true ∧ D.pure es y = true ∧ x.dp ≤ k ∧ y.dp ≤ k ∧ Q (.bl (neg ^^ D.eq x y)) M) ∨
  (∃ a b xs ys, x = .ref a ∧ y = .ref b ∧ M a = some (.lst xs) ∧ M b = some (.lst ys) ∧ D.pures es xs = true ∧ D.pures es ys = true ∧ D.dps xs < k ∧ D.dps ys < k ∧ Q (.bl (neg ^^ D.eqs xs ys)) M)
theorem list_rc (h : EqAll Z X N) (hz : Z.K = X.K) (tk : Takes X W) {n : Nat} (hn : n ≤ N) {A : Around} {pins : List (Addr × Obj)} {s : Shared} {τ : L2.St} {F H : Hp} {M : Hm} {a b : Addr} {xs ys : List D}
    (sb : L2.Sub X n A) (I : Inv X pins τ H s) (V0 : View Z F M H) (hx : M a = some (.lst xs)) (hy : M b = some (.lst ys)) (px : D.pures Z.es xs = true) (py : D.pures Z.es ys = true) (dx : D.dps xs < n) (dy : D.dps ys < n) :
    wpAny (model X.prog X.w) A (richCompare .Eq (.ref a) (.ref b)) (fun r s' => r = .bool (D.eqs xs ys) ∧ EqI Z X pins τ F M s') X.xe s := by
  have hu := sb.room.units0
  obtain ⟨vs, ha, ra⟩ := V0.lst hx
  obtain ⟨us, hb, rb⟩ := V0.lst hy
  obtain ⟨z, its, k, r, e⟩ := I.hok a _ ha
  obtain ⟨z2, its2, k2, r2, e2⟩ := I.hok b _ hb
  by_cases hl : xs.length = ys.length
  · have e1 : D.eqs xs ys = (List.range xs.length).all (fun i => D.eq (xs.getD i .non) (ys.getD i .non)) := by
      rw [eqs_iff, ← hl, Nat.min_self]
      simp
    rw [e1]
    refine rc_listE hu (EqI Z X pins τ F M) (fun s' hI => ?_) (fun s' hI => ⟨rfl, hI⟩) (.now V0 I)
    obtain ⟨G, H', eG, VG, I'⟩ := hI
    obtain ⟨vs, ha, ra⟩ := VG.lst hx
    obtain ⟨us, hb, rb⟩ := VG.lst hy
    obtain ⟨z, its, k, rv1, e⟩ := I'.hok a _ ha
    obtain ⟨z2, its2, k2, rv2, e2⟩ := I'.hok b _ hb
    refine ⟨its.toArray, its2.toArray, k, k2, e, e2, by rw [List.size_toArray, ← rv1.length, ← ra.length], by rw [List.size_toArray, ← rv2.length, ← rb.length, hl], fun i h1 h2 => ?_⟩
    have k1 : i < xs.length := by rw [ra.length, rv1.length]; simpa using h1
    have k2 : i < ys.length := by rw [rb.length, rv2.length]; simpa using h2
    obtain ⟨w1, g1, q1⟩ := ra.get (List.getElem?_eq_getElem k1)
    obtain ⟨w2, g2, q2⟩ := rb.get (List.getElem?_eq_getElem k2)
    obtain ⟨u1, gu1, ru1⟩ := rv1.get g1
    obtain ⟨u2, gu2, ru2⟩ := rv2.get g2
    have a1 : its.toArray[i] = u1 := by
      have : its[i]? = some its.toArray[i] := by
        rw [List.getElem?_eq_getElem (by simpa using h1)]; simp
      rw [gu1] at this; exact (Option.some.inj this).symm
    have a2 : its2.toArray[i] = u2 := by
      have : its2[i]? = some its2.toArray[i] := by
        rw [List.getElem?_eq_getElem (by simpa using h2)]; simp
      rw [gu2] at this; exact (Option.some.inj this).symm
    rw [a1, a2]
    have d1 := dps_get (List.getElem?_eq_getElem k1)
    have d2 := dps_get (List.getElem?_eq_getElem k2)
    have := h.eq hz tk (n - 1) (by omega) A.in1 pins s' τ G H' M xs[i] ys[i] w1 w2 u1 u2 (L2.Sub.in1 (by rw [show n - 1 + 1 = n by omega]; exact sb)) I' VG q1 q2 ru1 ru2
      (pures_get px (List.getElem?_eq_getElem k1)) (pures_get py (List.getElem?_eq_getElem k2)) (by omega) (by omega)
    refine wpAny_mono this (fun r s2 ⟨hr, hq⟩ => ⟨?_, hq.trans eG⟩) fun _ _ z => z
    rw [hr, List.getD_eq_getElem?_getD, List.getD_eq_getElem?_getD, List.getElem?_eq_getElem k1, List.getElem?_eq_getElem k2]
    rfl
  · have e1 : D.eqs xs ys = false := by
      rw [eqs_iff]
      simp [hl]
    rw [e1]
    have l1 := r.length
    have l2 := r2.length
    have l3 := ra.length
    have l4 := rb.length
    exact SeqAt.RcAt.lists_lengths (s := s) ⟨_, e, rfl, k, rfl⟩ ⟨_, e2, rfl, k2, rfl⟩ (by rw [List.size_toArray, List.size_toArray, ← l1, ← l2, ← l3, ← l4]; simp [hl]) hu X.prog X.w X.xe _ ⟨rfl, .now V0 I⟩
theorem de_eq {a b : Expr} {pos : Pos} {Ta Tb : DTE} (h : EqAll Z X k) (hz : Z.K = X.K) (tk : Takes X W) (hr : Room k X.A) (ha : DE Z X W a Ta) (hb : DE Z X W b Tb) : DE Z X W (.Compare a [.Eq] [b] pos) (w2 (pEq Z.es k false) Ta Tb) := by
  refine ⟨fun pins s τ H Q I ⟨F, σ, M, QD, ED, S, V, hT, hQ, hE⟩ => ?_⟩
  refine wpAny_Compare1 ?_ (nobehind _ (by decide) (by decide))
  refine thn (ha.run pins s τ H (fun v1 H1 => ∃ F1 d1 M1, Ext F F1 ∧ View Z F1 M1 H1 ∧ RD Z F1 d1 v1 ∧ Tb σ M1 (fun y M2 => pEq Z.es k false d1 y M2 QD) ED) I ⟨F, σ, M, _, ED, S, V, hT, fun F1 d1 v1 M1 H1 e1 V1 r1 q1 => ⟨F1, d1, M1, e1, V1, r1, q1⟩, hE⟩) fun u s1 ⟨x, H1, I1, ru, F1, d1, M1, e1, V1, r1, q1⟩ => ?_
  refine thn (hb.run pins s1 τ H1 (fun v2 H2 => ∃ F2 d2 M2, Ext F1 F2 ∧ View Z F2 M2 H2 ∧ RD Z F2 d2 v2 ∧ pEq Z.es k false d1 d2 M2 QD) I1 ⟨F1, σ, M1, _, ED, S.ext e1, V1, q1, fun F2 d2 v2 M2 H2 e2 V2 r2 q2 => ⟨F2, d2, M2, e2, V2, r2, q2⟩, hE.ext e1⟩) fun v s2 ⟨y, H2, I2, rv, F2, d2, M2, e2, V2, r2, q2⟩ => ?_
  show wpAny (model X.prog X.w) X.A (richCompare .Eq u v) (EP X pins τ Q) X.xe s2
  rcases q2 with ⟨p1, p2, k1, k2, q2⟩ | ⟨a, b, xs, ys, rfl, rfl, hx, hy, px, py, dx, dy, q2⟩
  · refine wpAny_mono (h.rc hz tk k (Nat.le_refl _) X.A pins s2 τ F2 H2 M2 d1 d2 x y u v ⟨hr, rfl⟩ I2 V2 (r1.ext e2) r2 ru rv p1 p2 k1 k2) (fun r s' z => ?_) fun _ _ z => z
    obtain ⟨rfl, G, H', eG, VG, I'⟩ := z
    refine ⟨.bl (D.eq d1 d2), H', I', rfl, hQ G _ _ M2 H' ((e1.trans e2).trans eG) VG (.bl _) ?_⟩
    simpa using q2
  · cases r1.ref_of
    cases r2.ref_of
    cases ru
    cases rv
    refine wpAny_mono (list_rc h hz tk (Nat.le_refl _) ⟨hr, rfl⟩ I2 V2 hx hy px py dx dy) (fun r s' z => ?_) fun _ _ z => z
    obtain ⟨rfl, G, H', eG, VG, I'⟩ := z
    refine ⟨.bl (D.eqs xs ys), H', I', rfl, hQ G _ _ M2 H' ((e1.trans e2).trans eG) VG (.bl _) ?_⟩
    simpa using q2
end
end DL
namespace DL
open PySem PySem.Spec PyProof.Rows L2
section
open PySem.W
variable {prog : Program} {w : World} {A : Around} {E : Value → Shared → Prop} {s : Shared} {K : Frag} {h₀ : Heap} {L : Addr} {m : Str → Option Value} {x C f : Addr} {ox : Obj} {od : Option Obj} {b tb : Value}
theorem ifBound_B {M : Model} {name : Str} {id : String} {args : List Value} {Q : Option Value → Shared → Prop} (X : K.In s.heap) (I : InstAt s.heap x ox C od) (hs : findIn K (.ref C) name = some (some (.builtin id)))
    (hb : ∀ self, bindSpecial (.builtin id) self = pure (.builtin id, [self])) (h : wpAny M A (call (.builtin id) (.ref x :: args)) (fun v => Q (some v)) E s) : wpAny M A (callSpecialIfBound? (.ref x) name args) Q E s := by
  simp only [callSpecialIfBound?, bindSpecialIfBound?]
  refine wpAny_holding (wpAny_bind (wpAny_bind (wpAny_bind (I.type.here ((looks_findIn X hs).here ?_)))))
  refine wpAny_bind (wpAny_askSetting (wpAny_ite ?_))
  have fin : wpAny M A (call (.builtin id) ([.ref x] ++ args) >>= fun v => pure (some v)) Q E s := wpAny_bind (wpAny_mono h (fun v s' h' => wpAny_pure h') fun _ _ h' => h')
  split
  · rw [hb]
    exact wpAny_bind (wpAny_pure (wpAny_pure (by exact fin)))
  · rw [hb]
    exact wpAny_tryCatch (wpAny_bind (wpAny_pure (wpAny_pure (by exact fin))))
theorem bind_one : ∀ self, bindSpecial (.builtin "object.__ne__") self = pure (.builtin "object.__ne__", [self]) := fun self => PySem.F.cmp_object.ne.bind self
theorem ne_code {Q : Value → Shared → Prop} (hu : A.in1.units < cLine) (X : K.In s.heap) (I : InstAt s.heap x ox C od) (hm : mroIn K C (.type "object") = some true)
    (hs : findIn K (.ref C) "__eq__" = some (some (.ref f))) (hf : isFn K (.ref f) = true)
    (h : wpAny (model prog w) A.in1 (call (.ref f) [.ref x, b]) (fun v s' => ∃ k, v = .bool k ∧ Q (.bool (!k)) s') E s) : wpAny (model prog w) A (call (.builtin "object.__ne__") [.ref x, b]) Q E s := by
  refine wpAny_call (codeAny_call_builtin PySem.F.cmp_object.ne.plain PySem.F.cmpEntry_ne (check_slot (i := "object.__ne__") (owner := "object") (n := "__ne__") PySem.F.cmpKind_ne PySem.F.cmpSplit_ne (I.type.andThen (looks_mroIn X hm)) (PySem.F.cmpArgs_ne _ _) ?_))
  unfold Builtin.«object.__ne__»
  refine wpAny_bind (wpAny_of_eq (a := ((Value.ref x : Value), [b])) (by first | rfl | (simp only [slotArgs]; rfl)) ?_)
  show wpAny _ _ (do cRoomFor "comparison" [Value.ref x, b]; _) _ _ _
  refine wpAny_bind (wpAny_cRoomFor hu ?_)
  refine wpAny_bind (m := callSpecialIfBound? (.ref x) (Str.ofString "__eq__") [b]) (ifBound_K X I hs hf (wpAny_mono h (fun v s' hv => ?_) fun _ _ e => e))
  obtain ⟨k, rfl, hq⟩ := hv
  refine wpAny_bind (m := truthy (.bool k)) (wpAny_truthy_bool ?_)
  exact wpAny_pure hq
theorem cmp_neK {Q : Value → Shared → Prop} (hu : A.units < cLine) (hu1 : A.in1.units < cLine) (F : Fr h₀ L s.heap m) (X₀ : K.In h₀) (I : InstAt s.heap x ox C od) (hb : Looks (model prog w) s.heap (typeOf b) tb) (hn : notFirst K C tb = true) (hm : mroIn K C (.type "object") = some true)
    (hne : findIn K (.ref C) "__ne__" = some (some (.builtin "object.__ne__"))) (hs : findIn K (.ref C) "__eq__" = some (some (.ref f))) (hf : isFn K (.ref f) = true)
    (h : wpAny (model prog w) A.in1 (call (.ref f) [.ref x, b]) (fun v s' => ∃ k, v = .bool k ∧ Q (.bool (!k)) s') E s) : wpAny (model prog w) A (richCompare .NotEq (.ref x) b) Q E s := by
  have X := X₀.keeps F.keep
  have one : wpAny (model prog w) A (tryCompare (.ref x) (cmpInfo .NotEq).2.1 b) (fun r s' => ∃ v, r = some v ∧ Q v s') E s := by
    unfold tryCompare
    refine wpAny_bind (ifBound_B X I hne bind_one (ne_code (f := f) hu1 X I hm hs hf (wpAny_mono h (fun v s' hv => ?_) fun _ _ e => e)))
    obtain ⟨k, rfl, hq⟩ := hv
    exact ⟨k, rfl, wpAny_pure ⟨_, rfl, hq⟩⟩
  unfold richCompare
  simp only [oneThing_ref]
  refine wpAny_holding (wpAny_bind (wpAny_cRoomFor hu ?_))
  refine wpAny_bind (I.type.here (wpAny_bind (hb.here ?_)))
  split
  · rename_i q
    have e : subIn K tb (.ref C) = some false := by
      rcases Bool.or_eq_true_iff.mp hn with e | e
      · rw [beq_iff_eq.mp e] at q; simp at q
      · exact beq_iff_eq.mp e
    refine wpAny_bind ((looks_subIn X e).here ?_)
    simp only [Bool.false_eq_true, if_false]
    refine wpAny_bind (wpAny_mono one (fun r s' z => ?_) fun _ _ e => e)
    obtain ⟨v, rfl, hq⟩ := z
    exact wpAny_pure hq
  · refine wpAny_bind (wpAny_pure ?_)
    simp only [Bool.false_eq_true, if_false]
    refine wpAny_bind (wpAny_mono one (fun r s' z => ?_) fun _ _ e => e)
    obtain ⟨v, rfl, hq⟩ := z
    exact wpAny_pure hq
end
section
open PySem.SeqAt
open AutoSeq1 (wpAny_loadPart')
open MeetsSeq MeetsSeq2 MeetsSeq3 SeqRoads2
variable {prog : Program} {w : World} {A : Around} {R : Result → Shared → Prop}
theorem ne_loopE (l b : Addr) (N : Nat) (e : Nat → Bool) (I : Shared → Prop) (hl : LstE prog w A (fun e s' => R (.error e) s') l b N e I) (k : Nat) :
    ∀ i : Nat, N - i = k → i ≤ N → (∀ s, I s → R (.ok (.ret (.bool (!((List.range N).drop i).all e)))) s) → ∀ s, I s →
      wpAny (model prog w) A.in1 (Builtin.«list.__eq__.loop» ⟨[.ref l, .ref b, rawInt i, rawInt 3], []⟩) (GQ.FinOf prog w A R) (fun e s' => R (.error e) s') s := by
  induction k with
  | zero =>
    intro i hk hi fin s h
    obtain ⟨items, items2, n, n2, hl1, hb1, hs1, hs2, _⟩ := hl _ h
    have hd : (List.range N).drop i = [] := by simp; omega
    have hR : R (.ok (.ret (.bool false))) s := by
      have := fin s h
      rw [hd] at this
      exact this
    obtain ⟨hp, g, d, tk, os⟩ := s
    wp_walk using wpAny_loadPart' hl1, wpAny_loadPart' hb1
    have hi1 : items[((i : Nat) : Int).toNat]? = none := by simp; omega
    have hi2 : items2[((i : Nat) : Int).toNat]? = none := by simp; omega
    rw [hi1, hi2]
    wp_walk using wpAny_loadPart' hl1, wpAny_loadPart' hb1
    show R (.ok (.ret (.bool (items.size != items2.size)))) _
    rw [hs1, hs2]
    simpa using hR
  | succ k ih =>
    intro i hk hi fin s h
    obtain ⟨items, items2, n, n2, hl1, hb1, hs1, hs2, turn⟩ := hl _ h
    have hlt : i < items.size := by omega
    have hlt2 : i < items2.size := by omega
    have ht := turn i hlt hlt2
    have hd : (List.range N).drop i = i :: (List.range N).drop (i + 1) := by
      rw [List.drop_eq_getElem_cons (by rw [List.length_range]; omega)]
      simp
    rw [hd, List.all_cons] at fin
    obtain ⟨hp, g, d, tk, os⟩ := s
    wp_walk using wpAny_loadPart' hl1, wpAny_loadPart' hb1
    have hi1 : items[((i : Nat) : Int).toNat]? = some items[i] := by simp [hlt]
    have hi2 : items2[((i : Nat) : Int).toNat]? = some items2[i] := by simp [hlt2]
    have hc : ((i : Int) + 1) = ((i + 1 : Nat) : Int) := by omega
    rw [hi1, hi2]
    refine wpAny_bind (wpAny_mono ht (fun r s2 h2 => ?_) fun _ _ x => x)
    obtain ⟨hr, h2⟩ := h2
    subst hr
    cases he : e i with
    | true =>
      rw [he] at fin
      have hrec := ih (i + 1) (by omega) (by omega) (fun s q => by simpa using fin s q) s2 h2
      obtain ⟨hp2, g2, d2, tk2, os2⟩ := s2
      wp_walk
      rw [hc]
      exact ⟨plainId_quiet plain_eq_loop _, codeAny_builtin entry_eq_loop (by
        rw [Around.under_plainId plain_eq_loop _]
        exact hrec)⟩
    | false =>
      rw [he] at fin
      have hR : R (.ok (.ret (.bool true))) s2 := by simpa using fin s2 h2
      obtain ⟨items', items2', n', n2', hl1', hb1', hs1', hs2', _⟩ := hl _ h2
      obtain ⟨hp2, g2, d2, tk2, os2⟩ := s2
      have hi1' : items'[((i : Nat) : Int).toNat]? = some (items'[i]'(by omega)) := by simp
      have hi2' : items2'[((i : Nat) : Int).toNat]? = some (items2'[i]'(by omega)) := by simp
      wp_walk using wpAny_loadPart' hl1', wpAny_loadPart' hb1'
      rw [hi1', hi2']
      wp_walk
      simpa using hR
theorem list_neE (l b : Addr) (N : Nat) (e : Nat → Bool) (I : Shared → Prop) (hl : LstE prog w A (fun e s' => R (.error e) s') l b N e I)
    (fin : ∀ s, I s → R (.ok (.ret (.bool (!(List.range N).all e)))) s) {s : Shared} (h : I s) :
    wpAny (model prog w) A.in1 (Builtin.«list.__ne__» ⟨[.ref l, .ref b], []⟩) (GQ.FinOf prog w A R) (fun e s' => R (.error e) s') s := by
  obtain ⟨items, items2, n, n2, hl1, hb1, hs1, hs2, _⟩ := hl _ h
  have hrec := ne_loopE (A := A) (R := R) l b N e I hl _ 0 rfl (Nat.zero_le _) (fun s q => by simpa using fin s q) s h
  obtain ⟨hp, g, d, tk, os⟩ := s
  have f3 := AutoSeq1.sub_list_list
  have hne : ¬ (items.size != items2.size) = true := by simp [hs1, hs2]
  wp_walk using wpAny_loadPart' hl1, wpAny_loadPart' hb1
  exact ⟨plainId_quiet plain_eq_loop _, codeAny_builtin entry_eq_loop (by
    rw [Around.under_plainId plain_eq_loop _]
    exact hrec)⟩
theorem tuple_neE (l b : Addr) (items items2 : Array Value) (n n2 : Nat) (dd dd2 : Option Addr) (sl sl2 : Array (Option Value)) (e : Nat → Bool) (I : Shared → Prop)
    (turn : ∀ i (h1 : i < items.size) (h2 : i < items2.size) s, I s → wpAny (model prog w) A.in1 (eqBool items[i] items2[i]) (fun r s' => r = e i ∧ I s') (fun e s' => R (.error e) s') s)
    (fin : ∀ s, I s → R (.ok (.ret (.bool (!((List.range (min items.size items2.size)).all e && items.size == items2.size))))) s) {s : Shared} (hl1 : s.heap.get? l = some { cls := .type "tuple", dict := dd, data := .seq items n, slots := sl }) (hb1 : s.heap.get? b = some { cls := .type "tuple", dict := dd2, data := .seq items2 n2, slots := sl2 }) (h : I s) :
    wpAny (model prog w) A.in1 (Builtin.«tuple.__ne__» ⟨[.ref l, .ref b], []⟩) (GQ.FinOf prog w A R) (fun e s' => R (.error e) s') s := by
  have f2 := AutoSeq1.sub_tuple_tuple
  have hZ : (items.toList.zip items2.toList).length = min items.size items2.size := by simp
  have h0 := h
  obtain ⟨hp, g, d, tk, os⟩ := s
  wp_walk using wpAny_loadPart' hl1, wpAny_loadPart' hb1, wpAny_forIn_list _ (fun rest b s' => b.1 = none ∧ ∃ i, rest = (items.toList.zip items2.toList).drop i ∧ I s' ∧
    (∀ s, I s → R (.ok (.ret (.bool (!(((List.range (min items.size items2.size)).drop i).all e && items.size == items2.size))))) s)) _
  case turn =>
    rintro ⟨y, x⟩ rest b s' ⟨hb', i, hz, hI, hR⟩
    have hlt : i < (items.toList.zip items2.toList).length := by
      rcases Nat.lt_or_ge i (items.toList.zip items2.toList).length with h' | h'
      · exact h'
      · rw [List.drop_of_length_le h'] at hz; cases hz
    have hm : i < min items.size items2.size := hZ ▸ hlt
    have h1 : i < items.size := Nat.lt_of_lt_of_le hm (Nat.min_le_left _ _)
    have h2 : i < items2.size := Nat.lt_of_lt_of_le hm (Nat.min_le_right _ _)
    rw [List.drop_eq_getElem_cons hlt] at hz
    injection hz with hyx hrest
    have hy : y = items[i] := by have := congrArg Prod.fst hyx; simpa using this
    have hx : x = items2[i] := by have := congrArg Prod.snd hyx; simpa using this
    subst hy hx
    have hd : (List.range (min items.size items2.size)).drop i = i :: (List.range (min items.size items2.size)).drop (i + 1) := by simp [List.drop_eq_getElem_cons, hm]
    rw [hd, List.all_cons] at hR
    refine wpAny_bind (wpAny_mono (turn i h1 h2 s' hI) (fun r s2 q2 => ?_) fun _ _ x => x)
    obtain ⟨hr, q2⟩ := q2
    subst hr
    cases hy : e i with
    | true =>
      rw [hy] at hR
      wp_walk
      exact ⟨rfl, i + 1, hrest, q2, fun s q => by simpa using hR s q⟩
    | false =>
      rw [hy] at hR
      have hR' : R (.ok (.ret (.bool true))) s2 := by simpa using hR s2 q2
      wp_walk
      first | exact hR' | exact ⟨_, rfl, hR'⟩ | simpa using hR'
  case fin =>
    rintro ⟨b1, b2⟩ s' ⟨hb', i, hz, hI, hR⟩
    simp only at hb'
    subst hb'
    have hge : min items.size items2.size ≤ i := by
      rcases Nat.lt_or_ge i (items.toList.zip items2.toList).length with h' | h'
      · rw [List.drop_eq_getElem_cons h'] at hz; cases hz
      · exact hZ ▸ h'
    have hR' := hR s' hI
    rw [List.drop_of_length_le (by simpa using hge)] at hR'
    wp_walk
    first | (simpa [Builtin.Tuple.tupleCompareSizes, bne] using hR') | exact ⟨_, rfl, by simpa [Builtin.Tuple.tupleCompareSizes, bne] using hR'⟩
  case h =>
    exact ⟨rfl, 0, rfl, h0, fun s q => by simpa using fin s q⟩
end
section
open GQ
variable {prog : Program} {w : World} {A : Around} {E : Value → Shared → Prop} {s : Shared}
theorem rcne_listE {l b : Addr} {N : Nat} {e : Nat → Bool} {Q : Value → Shared → Prop} (hu : A.units < cLine) (I : Shared → Prop) (hl : LstE prog w A E l b N e I)
    (fin : ∀ s, I s → Q (.bool (!(List.range N).all e)) s) (h : I s) : wpAny (model prog w) A (richCompare .NotEq (.ref l) (.ref b)) Q E s := by
  obtain ⟨items, items2, n, n2, hl1, hb1, _, _, _⟩ := hl _ h
  refine PySem.wpAny_richCompare_same_room (op := .NotEq) ⟨_, hl1, rfl⟩ ⟨_, hb1, rfl⟩ F.slot_list_ne (call_here F.slot_list_ne ⟨_, hl1, rfl⟩ F.entry_list_ne (F.args_list_ne_2 _ _) ?_) hu
  exact list_neE (R := wants (fun v s' => v ≠ .notImplemented ∧ Q v s') E) l b N e I hl (fun s' q => ⟨(fun x => nomatch x), fin s' q⟩) h
theorem rcne_tupE {l b : Addr} {items items2 : Array Value} {e : Nat → Bool} {Q : Value → Shared → Prop} (hu : A.units < cLine) (I : Shared → Prop)
    (hl : s.heap.IsTuple l items) (hb : s.heap.IsTuple b items2)
    (turn : ∀ i (h1 : i < items.size) (h2 : i < items2.size) s, I s → wpAny (model prog w) A.in1 (eqBool items[i] items2[i]) (fun r s' => r = e i ∧ I s') E s)
    (fin : ∀ s, I s → Q (.bool (!((List.range (min items.size items2.size)).all e && items.size == items2.size))) s) (h : I s) : wpAny (model prog w) A (richCompare .NotEq (.ref l) (.ref b)) Q E s := by
  obtain ⟨⟨cls, dd, data, sl⟩, ho, hc, n, hd⟩ := id hl
  obtain ⟨⟨cls2, dd2, data2, sl2⟩, ho2, hc2, n2, hd2⟩ := id hb
  simp only at hc hd hc2 hd2
  subst hc hd hc2 hd2
  refine PySem.wpAny_richCompare_same_room (op := .NotEq) ⟨_, ho, rfl⟩ ⟨_, ho2, rfl⟩ F.slot_tuple_ne (call_here F.slot_tuple_ne ⟨_, ho, rfl⟩ F.entry_tuple_ne (F.args_tuple_ne_2 _ _) ?_) hu
  exact tuple_neE (R := wants (fun v s' => v ≠ .notImplemented ∧ Q v s') E) l b items items2 n n2 dd dd2 sl sl2 e I turn (fun s' q => ⟨(fun x => nomatch x), fin s' q⟩) ho ho2 h
end
end DL
namespace DL
open PySem PySem.Spec PyProof.Rows L2
def D.isIns : D → Bool
  | .ins _ _ => true
  | _ => false
section
variable {Z : Zn} {X : Cx} {W : WX}
structure NeCls (Z : Zn) (X : Cx) (c : String) : Prop where
  ob : PySem.W.mroIn X.K (Z.ca c) (.type "object") = some true
  ne : PySem.W.findIn X.K (.ref (Z.ca c)) "__ne__" = some (some (.builtin "object.__ne__"))
theorem ne_step (hc : ∀ c ∈ Z.es, EqCls Z X c) (hn0 : ∀ c ∈ Z.es, NeCls Z X c) (hz : Z.K = X.K) (tk : Takes X W) {n : Nat} (hD : ∀ c ∈ Z.es, EqDef Z X c n) (ih : ∀ m, m < n + 1 → EqOk Z X m) {A : Around} {pins : List (Addr × Obj)} {s : Shared} {τ : L2.St} {F H : Hp} {M : Hm} {d e : D} {x y : V} {u v : Value}
    (sb : L2.Sub X (n + 1) A) (I : Inv X pins τ H s) (V0 : View Z F M H) (rd : RD Z F d x) (re : RD Z F e y) (ru : RelV x u) (rv : RelV y v) (hd : D.pure Z.es d = true) (he : D.pure Z.es e = true) (hn : d.dp ≤ n) (hn' : e.dp ≤ n) (hmix : e.isIns = true → d.isIns = true) :
    wpAny (model X.prog X.w) A (richCompare .NotEq u v) (fun r s' => r = .bool (!D.eq d e) ∧ EqI Z X pins τ F M s') X.xe s := by
  have hu := sb.room.units0
  have fin : ∀ {b : Bool}, (fun r s' => r = .bool b ∧ EqI Z X pins τ F M s') (Value.bool b) s := ⟨rfl, .now V0 I⟩
  cases d with
  | ref a => simp [D.pure] at hd
  | ty a => simp [D.pure] at hd
  | ins c fs =>
    obtain ⟨a, dx, gs, rfl, hm, ha, hr⟩ := rd.ins_of
    cases ru
    have hce : c ∈ Z.es := by
      unfold D.pure at hd
      exact of_decide_eq_true (Bool.and_eq_true_iff.mp hd).1
    have C := hc c hce
    obtain ⟨f, h1, h2, hcall⟩ := own_call (hD c hce) tk (L2.Sub.in1 sb) I V0 rd re rv hd he hn hn'
    obtain ⟨mA, J, _⟩ := ins_get I.hok (V0.sub _ _ ha)
    obtain ⟨od, J, _⟩ := J.look
    obtain ⟨m, hF⟩ := I.fr
    have go : ∀ {tb : Value}, PySem.W.Looks (model X.prog X.w) s.heap (typeOf v) tb → PySem.W.notFirst X.K (Z.ca c) tb = true → wpAny (model X.prog X.w) A (richCompare .NotEq (.ref a) v) (fun r s' => r = .bool (!D.eq (.ins c fs) e) ∧ EqI Z X pins τ F M s') X.xe s := fun {tb} hb hn =>
      cmp_neK (tb := tb) hu (L2.Sub.in1 sb).room.units0 hF I.ok.mod.kin J hb hn (hn0 c hce).ob (hn0 c hce).ne h1 h2 (wpAny_mono hcall (fun r s' hq => by
        have hq' : r = .bool (D.eq (.ins c fs) e) ∧ EqI Z X pins τ F M s' := by
          cases r <;> first | exact hq.elim | exact hq
        obtain ⟨rfl, hI⟩ := hq'
        exact ⟨_, rfl, rfl, hI⟩) fun _ _ z => z)
    have nf : ∀ T ∈ plainTs, PySem.W.notFirst X.K (Z.ca c) (.type T) = true := fun T hT => by
      unfold PySem.W.notFirst
      rw [C.ty T hT]
      simp
    cases e with
    | non => cases re.non_of; cases rv; exact go (.now) (nf _ (by simp [plainTs]))
    | bl b => cases re.bl_of; cases rv; exact go (.now) (nf _ (by simp [plainTs]))
    | int i => cases re.int_of; obtain ⟨t, rfl⟩ := rv; exact go (.now) (nf _ (by simp [plainTs]))
    | str i => cases re.str_of; obtain ⟨t, rfl⟩ := rv; exact go (.now) (nf _ (by simp [plainTs]))
    | tup es =>
      obtain ⟨b, vs, rfl, hb, rs⟩ := re.tup_of
      cases rv
      obtain ⟨its, rv', ⟨o, ho, hcl, _⟩, hz'⟩ := I.tuple (show SqT X.K H b vs by rw [← hz]; exact SqT.sub V0 hb)
      exact go (tb := .type "tuple") (hcl ▸ (PySem.W.Looks.ld ho).andThen .now) (nf _ (by simp [plainTs]))
    | ins c' gs' =>
      obtain ⟨b, dx', gs2, rfl, hm', hb, hr'⟩ := re.ins_of
      cases rv
      obtain ⟨mB, J', _⟩ := ins_get I.hok (V0.sub _ _ hb)
      obtain ⟨od', J', _⟩ := J'.look
      have hce' : c' ∈ Z.es := by
        unfold D.pure at he
        exact of_decide_eq_true (Bool.and_eq_true_iff.mp he).1
      exact go J'.type (C.own c' hce')
    | ref b => simp [D.pure] at he
    | ty b => simp [D.pure] at he
  | non =>
    cases rd.non_of; cases ru
    cases e with
    | non => cases re.non_of; cases rv; exact SeqAt.RcNeAt.none_none X.prog X.w X.xe _ fin
    | bl b => cases re.bl_of; cases rv; exact SeqAt.RcNeAt.none_bool b X.prog X.w X.xe _ fin
    | int i => cases re.int_of; obtain ⟨t, rfl⟩ := rv; exact SeqAt.RcNeAt.none_int i t X.prog X.w X.xe _ fin
    | str i => cases re.str_of; obtain ⟨t, rfl⟩ := rv; exact SeqAt.RcNeAt.none_str _ t X.prog X.w X.xe _ fin
    | tup es =>
      obtain ⟨b, vs, rfl, hb, rs⟩ := re.tup_of
      cases rv
      obtain ⟨its, rv', pl, hz'⟩ := I.tuple (show SqT X.K H b vs by rw [← hz]; exact SqT.sub V0 hb)
      exact SeqAt.RcNeAt.none_tuple pl hu X.prog X.w X.xe _ fin
    | ins c' gs' => exact absurd (hmix rfl) (by simp [D.isIns])
    | ref b => simp [D.pure] at he
    | ty b => simp [D.pure] at he
  | bl b0 =>
    cases rd.bl_of; cases ru
    cases e with
    | non => cases re.non_of; cases rv; exact SeqAt.RcNeAt.bool_none b0 X.prog X.w X.xe _ fin
    | bl b => cases re.bl_of; cases rv; exact SeqAt.RcNeAt.bool_bool b0 b X.prog X.w X.xe _ ⟨by simp [D.eq], EqI.now V0 I⟩
    | int i => cases re.int_of; obtain ⟨t, rfl⟩ := rv; exact SeqAt.RcNeAt.bool_int b0 i t X.prog X.w X.xe _ ⟨by simp [D.eq], EqI.now V0 I⟩
    | str i => cases re.str_of; obtain ⟨t, rfl⟩ := rv; exact SeqAt.RcNeAt.bool_str b0 _ t X.prog X.w X.xe _ fin
    | tup es =>
      obtain ⟨b, vs, rfl, hb, rs⟩ := re.tup_of
      cases rv
      obtain ⟨its, rv', pl, hz'⟩ := I.tuple (show SqT X.K H b vs by rw [← hz]; exact SqT.sub V0 hb)
      exact SeqAt.RcNeAt.bool_tuple b0 pl hu X.prog X.w X.xe _ fin
    | ins c' gs' => exact absurd (hmix rfl) (by simp [D.isIns])
    | ref b => simp [D.pure] at he
    | ty b => simp [D.pure] at he
  | int i0 =>
    cases rd.int_of; obtain ⟨t0, rfl⟩ := ru
    cases e with
    | non => cases re.non_of; cases rv; exact SeqAt.RcNeAt.int_none i0 t0 X.prog X.w X.xe _ fin
    | bl b => cases re.bl_of; cases rv; exact SeqAt.RcNeAt.int_bool i0 t0 b X.prog X.w X.xe _ ⟨by simp [D.eq], EqI.now V0 I⟩
    | int i => cases re.int_of; obtain ⟨t, rfl⟩ := rv; exact SeqAt.RcNeAt.int_int i0 t0 i t X.prog X.w X.xe _ ⟨by simp [D.eq], EqI.now V0 I⟩
    | str i => cases re.str_of; obtain ⟨t, rfl⟩ := rv; exact SeqAt.RcNeAt.int_str i0 t0 _ t X.prog X.w X.xe _ fin
    | tup es =>
      obtain ⟨b, vs, rfl, hb, rs⟩ := re.tup_of
      cases rv
      obtain ⟨its, rv', pl, hz'⟩ := I.tuple (show SqT X.K H b vs by rw [← hz]; exact SqT.sub V0 hb)
      exact SeqAt.RcNeAt.int_tuple i0 t0 pl hu X.prog X.w X.xe _ fin
    | ins c' gs' => exact absurd (hmix rfl) (by simp [D.isIns])
    | ref b => simp [D.pure] at he
    | ty b => simp [D.pure] at he
  | str x0 =>
    cases rd.str_of; obtain ⟨t0, rfl⟩ := ru
    cases e with
    | non => cases re.non_of; cases rv; exact SeqAt.RcNeAt.str_none _ t0 X.prog X.w X.xe _ fin
    | bl b => cases re.bl_of; cases rv; exact SeqAt.RcNeAt.str_bool _ t0 b X.prog X.w X.xe _ fin
    | int i => cases re.int_of; obtain ⟨t, rfl⟩ := rv; exact SeqAt.RcNeAt.str_int _ t0 i t X.prog X.w X.xe _ fin
    | str i => cases re.str_of; obtain ⟨t, rfl⟩ := rv; exact SeqAt.RcNeAt.str_str _ t0 _ t X.prog X.w X.xe _ ⟨by rw [sv_beq]; simp [D.eq], EqI.now V0 I⟩
    | tup es =>
      obtain ⟨b, vs, rfl, hb, rs⟩ := re.tup_of
      cases rv
      obtain ⟨its, rv', pl, hz'⟩ := I.tuple (show SqT X.K H b vs by rw [← hz]; exact SqT.sub V0 hb)
      exact SeqAt.RcNeAt.str_tuple _ t0 pl hu X.prog X.w X.xe _ fin
    | ins c' gs' => exact absurd (hmix rfl) (by simp [D.isIns])
    | ref b => simp [D.pure] at he
    | ty b => simp [D.pure] at he
  | tup ds =>
    obtain ⟨a, us, rfl, ha, ra⟩ := rd.tup_of
    cases ru
    obtain ⟨its, rv1, p1, hz1⟩ := I.tuple (show SqT X.K H a us by rw [← hz]; exact SqT.sub V0 ha)
    cases e with
    | non => cases re.non_of; cases rv; exact SeqAt.RcNeAt.tuple_none p1 hu X.prog X.w X.xe _ fin
    | bl b => cases re.bl_of; cases rv; exact SeqAt.RcNeAt.tuple_bool b p1 hu X.prog X.w X.xe _ fin
    | int i => cases re.int_of; obtain ⟨t, rfl⟩ := rv; exact SeqAt.RcNeAt.tuple_int i t p1 hu X.prog X.w X.xe _ fin
    | str i => cases re.str_of; obtain ⟨t, rfl⟩ := rv; exact SeqAt.RcNeAt.tuple_str _ t p1 hu X.prog X.w X.xe _ fin
    | tup es =>
      obtain ⟨b, vs, rfl, hb, rb⟩ := re.tup_of
      cases rv
      obtain ⟨its2, rv2, p2, hz2⟩ := I.tuple (show SqT X.K H b vs by rw [← hz]; exact SqT.sub V0 hb)
      have hds : D.pures Z.es ds = true := by simpa [D.pure] using hd
      have hes : D.pures Z.es es = true := by simpa [D.pure] using he
      rw [dp_tup] at hn hn'
      have e1 : D.eq (.tup ds) (.tup es) = ((List.range (min its.toArray.size its2.toArray.size)).all (fun i => D.eq (ds.getD i .non) (es.getD i .non)) && its.toArray.size == its2.toArray.size) := by
        show D.eqs ds es = _
        rw [eqs_iff, List.size_toArray, List.size_toArray, ← rv1.length, ← rv2.length, ra.length, rb.length]
      rw [e1]
      refine rcne_tupE hu (EqI Z X pins τ F M) p1 p2 (fun i h1 h2 s' hI => ?_) (fun s' hI => ⟨rfl, hI⟩) (.now V0 I)
      obtain ⟨G, H', eG, VG, I'⟩ := hI
      have k1 : i < ds.length := by rw [ra.length, rv1.length]; simpa using h1
      have k2 : i < es.length := by rw [rb.length, rv2.length]; simpa using h2
      obtain ⟨w1, g1, q1⟩ := ra.get (List.getElem?_eq_getElem k1)
      obtain ⟨w2, g2, q2⟩ := rb.get (List.getElem?_eq_getElem k2)
      obtain ⟨u1, gu1, ru1⟩ := rv1.get g1
      obtain ⟨u2, gu2, ru2⟩ := rv2.get g2
      have a1 : its.toArray[i] = u1 := by
        have : its[i]? = some its.toArray[i] := by
          rw [List.getElem?_eq_getElem (by simpa using h1)]; simp
        rw [gu1] at this; exact (Option.some.inj this).symm
      have a2 : its2.toArray[i] = u2 := by
        have : its2[i]? = some its2.toArray[i] := by
          rw [List.getElem?_eq_getElem (by simpa using h2)]; simp
        rw [gu2] at this; exact (Option.some.inj this).symm
      rw [a1, a2]
      have d1 := dps_get (List.getElem?_eq_getElem k1)
      have d2 := dps_get (List.getElem?_eq_getElem k2)
      have := ih n (by omega) A.in1 pins s' τ G H' M ds[i] es[i] w1 w2 u1 u2 (L2.Sub.in1 sb) I' VG (q1.ext eG) (q2.ext eG) ru1 ru2
        (pures_get hds (List.getElem?_eq_getElem k1)) (pures_get hes (List.getElem?_eq_getElem k2)) (by omega) (by omega)
      refine wpAny_mono this (fun r s2 ⟨hr, hq⟩ => ⟨?_, hq.trans eG⟩) fun _ _ z => z
      rw [hr, List.getD_eq_getElem?_getD, List.getD_eq_getElem?_getD, List.getElem?_eq_getElem k1, List.getElem?_eq_getElem k2]
      rfl
    | ins c' gs' => exact absurd (hmix rfl) (by simp [D.isIns])
    | ref b => simp [D.pure] at he
    | ty b => simp [D.pure] at he
end
end DL
namespace DL
open PySem PySem.Spec PyProof.Rows L2
section
variable {Z : Zn} {X : Cx} {W : WX} {e a b c tg : Expr} {pos p : Pos} {Ta Tb Tc : DTE} {F H : Hp} {M : Hm} {es : List Expr} {Tr : DTA} {x : Str}
theorem SqL.inj' {K : PySem.W.Frag} {X : Cx} {pins : List (Addr × Obj)} {σ : L2.St} {s : Shared} {p : Addr} {xs ys : List V} (I : Inv X pins σ H s) (h : SqL X.K H p xs) (h' : SqL X.K H p ys) : xs = ys := I.list_inj h h'
def dIter (d : D) (M : Hm) (Q : List D → (Hm → Prop) → Hm → Prop) : Prop := match d with
  | .ref a => ∃ xs, Lz M a xs ∧ Q xs (fun M' => Lz M' a xs) M
  | .tup xs => Q xs (fun _ => True) M
  | .str x => Q (x.map fun c => .str [c]) (fun _ => True) M
  | _ => False
def wItV (T : DTE) : DTI := fun σ M Q E => T σ M (fun d M1 => dIter d M1 Q) E
/-- the iterators of data -/
theorem iter_run {pins : List (Addr × Obj)} {σ : L2.St} {s : Shared} {R : It → Hp → Prop} {d : D} {v : V} {u : Value} {QD : List D → (Hm → Prop) → Hm → Prop} (hz : Z.K = X.K) (I : Inv X pins σ H s) (V0 : View Z F M H) (rd : RD Z F d v) (ru : RelV v u) (h : dIter d M QD)
    (hR : ∀ G J xs st M' H', Ext F G → View Z G M' H' → RefIt Z G J xs st → QD xs st M' → R J H') : wpAny (model X.prog X.w) X.A (pyIter u) (PIE X pins σ tg R) X.xe s := by
  cases d with
  | ref a =>
    cases rd.ref_of
    cases ru
    obtain ⟨xs, hx, q⟩ := h
    obtain ⟨vs, hq, rs⟩ := V0.lz hx
    rw [hz] at hq
    have q2 : R (Itl X.K a) H := hR F (Itl X.K a) xs _ M H Ext.rfl' V0 ⟨fun i d G H' M' e v' st hi => by
      obtain ⟨vs', hq', rs'⟩ := v'.lz st
      obtain ⟨w, h1, h2⟩ := rs'.get hi
      rw [hz] at hq'
      refine ⟨⟨vs', w, hq', h1⟩, fun x H'' y => ?_⟩
      obtain ⟨rfl, y⟩ := y
      have := y vs' hq'
      rw [h1] at this; cases this
      exact ⟨G, Ext.rfl', v', h2⟩, fun G H' M' e v' st => by
        obtain ⟨vs', hq', rs'⟩ := v'.lz st
        rw [hz] at hq'
        exact ⟨vs', hq', by rw [rs'.length]; exact Nat.le_refl _⟩⟩ q
    obtain ⟨its, rv, p, _⟩ := I.list hq
    refine wpAny_pyIter_list p.isList ?_
    refine ⟨s.heap.objs.size, [s.heap.objs.size], _, _, H, rfl, I.kept (t' := s.toks) fun b o e => Heap.get?_push_of_some _ e, turn_list a _, ⟨_, Heap.get?_push_size _ rfl, rfl, rfl⟩, fun b hb => ?_, q2⟩
    have e : b = s.heap.objs.size := by simpa using hb
    subst e
    exact I.fpOk (Nat.le_refl _) (I.hok.fresh (Nat.le_refl _))
  | tup xs =>
    obtain ⟨a, vs, rfl, ha, rs⟩ := rd.tup_of
    cases ru
    have q2 : R (Itt X.K a) H := hR F (Itt X.K a) xs _ M H Ext.rfl' V0 ⟨fun i d G H' M' e v' st hi => by
      obtain ⟨w, h1, h2⟩ := rs.get hi
      have ha' := SqT.sub v' (SqT.ext ha e)
      rw [hz] at ha'
      refine ⟨⟨vs, w, ha', h1⟩, fun x H'' y => ?_⟩
      obtain ⟨rfl, y⟩ := y
      have := y vs ha'
      rw [h1] at this; cases this
      exact ⟨G, Ext.rfl', v', h2.ext e⟩, fun G H' M' e v' st => by
        have ha' := SqT.sub v' (SqT.ext ha e)
        rw [hz] at ha'
        exact ⟨vs, ha', by rw [rs.length]; exact Nat.le_refl _⟩⟩ h
    have ha0 := SqT.sub V0 ha
    rw [hz] at ha0
    obtain ⟨its, rv, p, _⟩ := I.tuple ha0
    refine wpAny_pyIter_tuple (show s.heap.IsTuple a its.toArray from p) ?_
    refine ⟨s.heap.objs.size, [s.heap.objs.size], _, _, H, rfl, I.kept (t' := s.toks) fun b o e => Heap.get?_push_of_some _ e, turn_tuple a _, ⟨_, Heap.get?_push_size _ rfl, rfl, rfl⟩, fun b hb => ?_, q2⟩
    have e : b = s.heap.objs.size := by simpa using hb
    subst e
    exact I.fpOk (Nat.le_refl _) (I.hok.fresh (Nat.le_refl _))
  | str x =>
    cases rd.str_of
    obtain ⟨t, rfl⟩ := ru
    have hcp : (sv x).cps = x.toArray := rfl
    have q2 : R (Its (sv x)) H := hR F (Its (sv x)) _ _ M H Ext.rfl' V0 ⟨fun i d G H' M' e v' st hi => by
      rw [List.getElem?_map] at hi
      cases e1 : x[i]? with
      | none => rw [e1] at hi; cases hi
      | some c =>
        rw [e1] at hi; cases hi
        have hlt := (List.getElem?_eq_some_iff.mp e1).1
        refine ⟨(by show i < (sv x).cps.size; rw [hcp]; simpa using hlt), fun y H'' yy => ?_⟩
        obtain ⟨rfl, c', h1, rfl⟩ := yy
        rw [hcp] at h1
        have : c' = c := by
          have : x[i]? = some c' := by simpa using h1
          rw [e1] at this; exact (Option.some.inj this).symm
        subst this
        exact ⟨G, Ext.rfl', v', .str [c']⟩, fun G H' M' e v' st => by show (sv x).cps.size ≤ _; rw [hcp]; simp⟩ h
    cases ha : (sv x).cps.all (· < 128)
    · exact wpAny_pyIter_wide ha (pi_one (tk := s.toks) I _ (turn_str _ (sv x) t "str_iterator" (.inr rfl)) ⟨_, Heap.get?_push_size _ rfl, rfl, rfl⟩ q2)
    · exact wpAny_pyIter_ascii ha (pi_one (tk := s.toks) I _ (turn_str _ (sv x) t "str_ascii_iterator" (.inl rfl)) ⟨_, Heap.get?_push_size _ rfl, rfl, rfl⟩ q2)
  | _ => exact h.elim
theorem di_val (hz : Z.K = X.K) (h : DE Z X W e Ta) : DI Z X W tg e (wItV Ta) := by
  refine ⟨fun pins s τ H R I ⟨F, σ, M, QD, ED, S, V0, hT, hQ, hE⟩ => ?_⟩
  refine thn (h.run pins s τ H (fun v1 H1 => ∃ F1 d1 M1, Ext F F1 ∧ View Z F1 M1 H1 ∧ RD Z F1 d1 v1 ∧ dIter d1 M1 QD) I ⟨F, σ, M, _, ED, S, V0, hT, fun F1 d1 v1 M1 H1 e1 V1 r1 q1 => ⟨F1, d1, M1, e1, V1, r1, q1⟩, hE⟩) fun u s1 ⟨v, H1, I1, ru, F1, d1, M1, e1, V1, r1, q1⟩ => ?_
  exact iter_run hz I1 V1 r1 ru q1 fun G J xs st M' H' e' v' hi q' => hQ G J xs st M' H' (e1.trans e') v' hi q'
/-- range -/
def intsFrom (lo : Int) (n : Nat) : List D := (List.range n).map fun i => .int (lo + (i : Nat))
theorem refIt_range {lo : Int} {n : Nat} : RefIt Z F (Itr lo n) (intsFrom lo n) (fun _ => True) := by
  refine ⟨fun i d G H M e v _ hi => ?_, fun G H M e v _ => ?_⟩
  · unfold intsFrom at hi
    rw [List.getElem?_map] at hi
    cases e1 : (List.range n)[i]? with
    | none => rw [e1] at hi; cases hi
    | some c =>
      rw [e1] at hi; cases hi
      obtain ⟨hlt, hc⟩ := List.getElem?_eq_some_iff.mp e1
      rw [List.getElem_range] at hc
      subst hc
      refine ⟨(by have : i < n := by simpa using hlt
                  exact this), fun x H' y => ?_⟩
      obtain ⟨rfl, rfl⟩ := y
      exact ⟨G, Ext.rfl', v, .int _⟩
  · show n ≤ _
    unfold intsFrom
    simp
abbrev R62 : Int := 4611686018427387904
def wRng1 (Tr : DTA) : DTI := fun σ M Q E => Tr σ M (fun ds M1 => ∃ j : Int, ds = [.int j] ∧ -R62 ≤ j ∧ j < R62 ∧ Q (intsFrom 0 j.toNat) (fun _ => True) M1) E
def wRng2 (Tr : DTA) : DTI := fun σ M Q E => Tr σ M (fun ds M1 => ∃ i j : Int, ds = [.int i, .int j] ∧ (-R62 ≤ i ∧ i < R62 ∧ -R62 ≤ j ∧ j < R62) ∧ Q (intsFrom i (j - i).toNat) (fun _ => True) M1) E
theorem RDs.int1 {ds : List D} {vs : List V} (r : RDs Z F ds vs) {i : Int} (h : ds = [.int i]) : vs = [.int i] := by
  subst h
  cases r with | cons r t => cases t; cases r; rfl
theorem RDs.int2 {ds : List D} {vs : List V} (r : RDs Z F ds vs) {i j : Int} (h : ds = [.int i, .int j]) : vs = [.int i, .int j] := by
  subst h
  cases r with | cons r t => cases t with | cons r2 t => cases t; cases r; cases r2; rfl
theorem di_range1 (hg : Gl X "range") (hm : X.mg "range" = none) (ha : DA Z X W [a] Tr) (hs : starEach [a] X.env = [(false, eval a X.env)]) : DI Z X W tg (.Call (.Name "range" p) [a] [] pos) (wRng1 Tr) := by
  refine PI.imp (pi_range1 hg hm ha hs) fun τ H R ⟨F, σ, M, QD, ED, S, V0, hT, hQ, hE⟩ => ⟨F, σ, M, _, ED, S, V0, hT, fun G ds vs M1 H1 e1 V1 r1 ⟨j, hj, h1, h2, q⟩ => ?_, hE⟩
  exact ⟨j, r1.int1 hj, by simpa using h1, by simpa using h2, hQ G _ _ _ M1 H1 e1 V1 refIt_range q⟩
theorem di_range2 (hg : Gl X "range") (hm : X.mg "range" = none) (ha : DA Z X W [a, b] Tr) (hs : starEach [a, b] X.env = [(false, eval a X.env), (false, eval b X.env)]) (hs2 : starEach [b] X.env = [(false, eval b X.env)]) : DI Z X W tg (.Call (.Name "range" p) [a, b] [] pos) (wRng2 Tr) := by
  refine PI.imp (pi_range2 hg hm ha hs hs2) fun τ H R ⟨F, σ, M, QD, ED, S, V0, hT, hQ, hE⟩ => ⟨F, σ, M, _, ED, S, V0, hT, fun G ds vs M1 H1 e1 V1 r1 ⟨i, j, hj, ⟨h1, h2, h3, h4⟩, q⟩ => ?_, hE⟩
  exact ⟨i, j, r1.int2 hj, ⟨by simpa using h1, by simpa using h2, by simpa using h3, by simpa using h4⟩, hQ G _ _ _ M1 H1 e1 V1 refIt_range q⟩
def pInt (ds : List D) (M : Hm) (Q : DK) : Prop := match ds with
  | [.int i] => Q (.int i) M
  | [.bl k] => Q (.int (if k then 1 else 0)) M
  | _ => False
theorem ref_int : RefC Z (fun xs H Q => (∃ i, xs = [.int i] ∧ Q (.int i) H) ∨ ∃ k, xs = [.bl k] ∧ Q (.int (if k then 1 else 0)) H) pInt := by
  intro F H M ds vs QD Q V0 r h hQ
  unfold pInt at h
  split at h
  · cases r with | cons r t => cases t; cases r; exact .inl ⟨_, rfl, hQ F _ _ M H Ext.rfl' V0 (.int _) h⟩
  · cases r with | cons r t => cases t; cases r; exact .inr ⟨_, rfl, hQ F _ _ M H Ext.rfl' V0 (.int _) h⟩
  · exact h.elim
def pBool (ds : List D) (M : Hm) (Q : DK) : Prop := match ds with
  | [.int i] => Q (.bl (i != 0)) M
  | [.bl k] => Q (.bl k) M
  | _ => False
theorem ref_bool : RefC Z (fun xs H Q => (∃ i, xs = [.int i] ∧ Q (.bl (i != 0)) H) ∨ ∃ k, xs = [.bl k] ∧ Q (.bl k) H) pBool := by
  intro F H M ds vs QD Q V0 r h hQ
  unfold pBool at h
  split at h
  · cases r with | cons r t => cases t; cases r; exact .inl ⟨_, rfl, hQ F _ _ M H Ext.rfl' V0 (.bl _) h⟩
  · cases r with | cons r t => cases t; cases r; exact .inr ⟨_, rfl, hQ F _ _ M H Ext.rfl' V0 (.bl _) h⟩
  · exact h.elim
def pAbs (ds : List D) (M : Hm) (Q : DK) : Prop := match ds with
  | [.int i] => Q (.int (if i < 0 then -i else i)) M
  | _ => False
theorem ref_abs : RefC Z (fun xs H Q => ∃ i, xs = [.int i] ∧ Q (.int (if i < 0 then -i else i)) H) pAbs := by
  intro F H M ds vs QD Q V0 r h hQ
  unfold pAbs at h
  split at h
  · cases r with | cons r t => cases t; cases r; exact ⟨_, rfl, hQ F _ _ M H Ext.rfl' V0 (.int _) h⟩
  · exact h.elim
def pMax2 (ds : List D) (M : Hm) (Q : DK) : Prop := match ds with
  | [.int i, .int j] => Q (.int (if j > i then j else i)) M
  | _ => False
theorem ref_max2 : RefC Z (fun xs H Q => ∃ i j, xs = [.int i, .int j] ∧ Q (.int (if j > i then j else i)) H) pMax2 := by
  intro F H M ds vs QD Q V0 r h hQ
  unfold pMax2 at h
  split at h
  · exact ⟨_, _, r.int2 rfl, hQ F _ _ M H Ext.rfl' V0 (.int _) h⟩
  · exact h.elim
def pMin2 (ds : List D) (M : Hm) (Q : DK) : Prop := match ds with
  | [.int i, .int j] => Q (.int (if j < i then j else i)) M
  | _ => False
theorem ref_min2 : RefC Z (fun xs H Q => ∃ i j, xs = [.int i, .int j] ∧ Q (.int (if j < i then j else i)) H) pMin2 := by
  intro F H M ds vs QD Q V0 r h hQ
  unfold pMin2 at h
  split at h
  · exact ⟨_, _, r.int2 rfl, hQ F _ _ M H Ext.rfl' V0 (.int _) h⟩
  · exact h.elim
/-- all, any of a list of truths -/
def pAll (ds : List D) (M : Hm) (Q : DK) : Prop := match ds with
  | [.ref a] => ∃ bs : List Bool, Lz M a (bs.map .bl) ∧ Q (.bl (bs.all id)) M
  | _ => False
def pAny (ds : List D) (M : Hm) (Q : DK) : Prop := match ds with
  | [.ref a] => ∃ bs : List Bool, Lz M a (bs.map .bl) ∧ Q (.bl (bs.any id)) M
  | _ => False
theorem RDs.bls : ∀ {bs : List Bool} {vs : List V}, RDs Z F (bs.map .bl) vs → vs = bs.map .bl
  | [], _, .nil => rfl
  | b :: bs, _, .cons r t => by cases r; rw [RDs.bls t]; rfl
theorem ref_all : RefC Z (rAll Z.K) pAll := by
  intro F H M ds vs QD Q V0 r h hQ
  unfold pAll at h
  split at h
  · obtain ⟨bs, hl, h⟩ := h
    cases r with | cons r t => cases t; cases r.ref_of; exact (by
      obtain ⟨vs, hq, rs⟩ := V0.lz hl
      cases rs.bls
      exact ⟨_, bs, rfl, hq, hQ F _ _ M H Ext.rfl' V0 (.bl _) h⟩)
  · exact h.elim
theorem ref_any : RefC Z (rAny Z.K) pAny := by
  intro F H M ds vs QD Q V0 r h hQ
  unfold pAny at h
  split at h
  · obtain ⟨bs, hl, h⟩ := h
    cases r with | cons r t => cases t; cases r.ref_of; exact (by
      obtain ⟨vs, hq, rs⟩ := V0.lz hl
      cases rs.bls
      exact ⟨_, bs, rfl, hq, hQ F _ _ M H Ext.rfl' V0 (.bl _) h⟩)
  · exact h.elim
end
end DL
namespace DL
open PySem PySem.Spec PyProof.Rows L2
section
open PySem.SeqAt
open AutoSeq1 (wpAny_loadPart')
open MeetsSeq MeetsSeq2 MeetsSeq3 SeqRoads2
variable {prog : Program} {w : World} {A : Around} {R : Result → Shared → Prop}
def ConE (prog : Program) (w : World) (A : Around) (E : Value → Shared → Prop) (l : Addr) (x : Value) (N : Nat) (e : Nat → Bool) (I : Shared → Prop) : Prop :=
  ∀ s, I s → ∃ (items : Array Value) (n : Nat), s.heap.get? l = some { cls := .type "list", data := .seq items n } ∧ items.size = N ∧
    ∀ (i : Nat) (h1 : i < items.size), wpAny (model prog w) A.in1 (eqBool items[i] x) (fun r s' => r = e i ∧ I s') E s
theorem con_loopE (l : Addr) (x : Value) (N : Nat) (e : Nat → Bool) (I : Shared → Prop) (hl : ConE prog w A (fun e s' => R (.error e) s') l x N e I) (k : Nat) :
    ∀ i : Nat, N - i = k → i ≤ N → (∀ s, I s → R (.ok (.ret (.bool (((List.range N).drop i).any e)))) s) → ∀ s, I s →
      wpAny (model prog w) A.in1 (Builtin.«list.__contains__.loop» ⟨[.ref l, x, rawInt i], []⟩) (GQ.FinOf prog w A R) (fun e s' => R (.error e) s') s := by
  induction k with
  | zero =>
    intro i hk hi fin s h
    obtain ⟨items, n, hl1, hs1, _⟩ := hl _ h
    have hd : (List.range N).drop i = [] := by simp; omega
    have hR : R (.ok (.ret (.bool false))) s := by
      have := fin s h
      rw [hd] at this
      exact this
    obtain ⟨hp, g, d, tk, os⟩ := s
    wp_walk using wpAny_loadPart' hl1
    have hi1 : items[((i : Nat) : Int).toNat]? = none := by simp; omega
    rw [hi1]
    wp_walk
    exact hR
  | succ k ih =>
    intro i hk hi fin s h
    obtain ⟨items, n, hl1, hs1, turn⟩ := hl _ h
    have hlt : i < items.size := by omega
    have ht := turn i hlt
    have hd : (List.range N).drop i = i :: (List.range N).drop (i + 1) := by
      rw [List.drop_eq_getElem_cons (by rw [List.length_range]; omega)]
      simp
    rw [hd, List.any_cons] at fin
    obtain ⟨hp, g, d, tk, os⟩ := s
    wp_walk using wpAny_loadPart' hl1
    have hi1 : items[((i : Nat) : Int).toNat]? = some items[i] := by simp [hlt]
    have hc : ((i : Int) + 1) = ((i + 1 : Nat) : Int) := by omega
    rw [hi1]
    refine wpAny_bind (wpAny_mono ht (fun r s2 h2 => ?_) fun _ _ x => x)
    obtain ⟨hr, h2⟩ := h2
    subst hr
    cases he : e i with
    | true =>
      rw [he] at fin
      have hR : R (.ok (.ret (.bool true))) s2 := by simpa using fin s2 h2
      obtain ⟨hp2, g2, d2, tk2, os2⟩ := s2
      wp_walk
      exact hR
    | false =>
      rw [he] at fin
      have hrec := ih (i + 1) (by omega) (by omega) (fun s q => by simpa using fin s q) s2 h2
      obtain ⟨hp2, g2, d2, tk2, os2⟩ := s2
      wp_walk
      rw [hc]
      exact ⟨plainId_quiet plain_contains_loop _, codeAny_builtin entry_contains_loop (by
        rw [Around.under_plainId plain_contains_loop _]
        exact hrec)⟩
theorem list_conE (l : Addr) (x : Value) (N : Nat) (e : Nat → Bool) (I : Shared → Prop) (hl : ConE prog w A (fun e s' => R (.error e) s') l x N e I)
    (fin : ∀ s, I s → R (.ok (.ret (.bool ((List.range N).any e)))) s) {s : Shared} (h : I s) :
    wpAny (model prog w) A.in1 (Builtin.«list.__contains__» ⟨[.ref l, x], []⟩) (GQ.FinOf prog w A R) (fun e s' => R (.error e) s') s := by
  obtain ⟨items, n, hl1, hs1, _⟩ := hl _ h
  have hrec := con_loopE (A := A) (R := R) l x N e I hl _ 0 rfl (Nat.zero_le _) (fun s q => by simpa using fin s q) s h
  obtain ⟨hp, g, d, tk, os⟩ := s
  wp_walk using wpAny_loadPart' hl1
  exact ⟨plainId_quiet plain_contains_loop _, codeAny_builtin entry_contains_loop (by
    rw [Around.under_plainId plain_contains_loop _]
    exact hrec)⟩
theorem tuple_conE (l : Addr) (x : Value) (items : Array Value) (n : Nat) (dd : Option Addr) (sl : Array (Option Value)) (e : Nat → Bool) (I : Shared → Prop)
    (turn : ∀ i (h1 : i < items.size) s, I s → wpAny (model prog w) A.in1 (eqBool items[i] x) (fun r s' => r = e i ∧ I s') (fun e s' => R (.error e) s') s)
    (fin : ∀ s, I s → R (.ok (.ret (.bool ((List.range items.size).any e)))) s) {s : Shared} (hl1 : s.heap.get? l = some { cls := .type "tuple", dict := dd, data := .seq items n, slots := sl }) (h : I s) :
    wpAny (model prog w) A.in1 (Builtin.«tuple.__contains__» ⟨[.ref l, x], []⟩) (GQ.FinOf prog w A R) (fun e s' => R (.error e) s') s := by
  have h0 := h
  obtain ⟨hp, g, d, tk, os⟩ := s
  wp_walk using wpAny_loadPart' hl1, wpAny_forIn_array _ (fun rest b s' => b.1 = none ∧ ∃ i, rest = items.toList.drop i ∧ I s' ∧ (∀ s, I s → R (.ok (.ret (.bool (((List.range items.size).drop i).any e)))) s)) _
  case turn =>
    rintro y rest b s' ⟨hb', i, hz, hI, hR⟩
    have hlt : i < items.toList.length := by
      rcases Nat.lt_or_ge i items.toList.length with h' | h'
      · exact h'
      · rw [List.drop_of_length_le h'] at hz; cases hz
    have hm : i < items.size := by simpa using hlt
    rw [List.drop_eq_getElem_cons hlt] at hz
    injection hz with hyx hrest
    have hy : y = items[i] := by simpa using hyx
    subst hy
    have hd : (List.range items.size).drop i = i :: (List.range items.size).drop (i + 1) := by simp [List.drop_eq_getElem_cons, hm]
    rw [hd, List.any_cons] at hR
    refine wpAny_bind (wpAny_mono (turn i hm s' hI) (fun r s2 q2 => ?_) fun _ _ x => x)
    obtain ⟨hr, q2⟩ := q2
    subst hr
    cases hy : e i with
    | false =>
      rw [hy] at hR
      wp_walk
      exact ⟨rfl, i + 1, hrest, q2, fun s q => by simpa using hR s q⟩
    | true =>
      rw [hy] at hR
      have hR' : R (.ok (.ret (.bool true))) s2 := by simpa using hR s2 q2
      wp_walk
      first | exact hR' | exact ⟨_, rfl, hR'⟩ | simpa using hR'
  case fin =>
    rintro ⟨b1, b2⟩ s' ⟨hb', i, hz, hI, hR⟩
    simp only at hb'
    subst hb'
    have hge : items.size ≤ i := by
      rcases Nat.lt_or_ge i items.toList.length with h' | h'
      · rw [List.drop_eq_getElem_cons h'] at hz; cases hz
      · simpa using h'
    have hR' := hR s' hI
    rw [List.drop_of_length_le (by simpa using hge)] at hR'
    wp_walk
    first | exact hR' | exact ⟨_, rfl, hR'⟩ | simpa using hR'
  case h =>
    exact ⟨rfl, 0, rfl, h0, fun s q => by simpa using fin s q⟩
end
section
open GQ
variable {prog : Program} {w : World} {A : Around} {E : Value → Shared → Prop} {s : Shared}
theorem con_slot {c x : Value} {Q : Value → Shared → Prop} {neg : Bool} (h : wpAny (model prog w) A (contains c x) (fun b s' => Q (.bool (neg ^^ b)) s') E s) : wpAny (model prog w) A (compareOp (if neg then .NotIn else .In) x c) Q E s := by
  cases neg
  · show wpAny _ A (do return .bool (← contains c x)) Q E s
    refine wpAny_bind (wpAny_mono h (fun b s' hq => wpAny_pure (by simpa using hq)) fun _ _ e => e)
  · show wpAny _ A (do return .bool (!(← contains c x))) Q E s
    refine wpAny_bind (wpAny_mono h (fun b s' hq => wpAny_pure (by simpa using hq)) fun _ _ e => e)
theorem con_list {l : Addr} {x : Value} {N : Nat} {e : Nat → Bool} {Q : Bool → Shared → Prop} (I : Shared → Prop) (hl : ConE prog w A E l x N e I)
    (fin : ∀ s, I s → Q ((List.range N).any e) s) (h : I s) : wpAny (model prog w) A (contains (.ref l) x) Q E s := by
  obtain ⟨items, n, hl1, _⟩ := hl _ h
  have key : wpAny (model prog w) A (call (.builtin "list.__contains__") [.ref l, x]) (fun v s' => ∃ b, v = .bool b ∧ Q b s') E s := by
    refine call_here F.slot_list_contains ⟨_, hl1, rfl⟩ F.entry_list_contains (F.args_list_contains_2 _ _) ?_
    exact list_conE (R := wants (fun v s' => ∃ b, v = .bool b ∧ Q b s') E) l x N e I hl (fun s' q => ⟨_, rfl, fin s' q⟩) h
  refine wpAny_contains_slot ⟨_, hl1, rfl⟩ F.slot_list_contains (wpAny_mono key (fun v s' hv => ?_) fun _ _ e => e)
  obtain ⟨b, rfl, hq⟩ := hv
  exact wpAny_truthy_bool hq
theorem con_tuple {l : Addr} {x : Value} {items : Array Value} {e : Nat → Bool} {Q : Bool → Shared → Prop} (I : Shared → Prop) (hl : s.heap.IsTuple l items)
    (turn : ∀ i (h1 : i < items.size) s, I s → wpAny (model prog w) A.in1 (eqBool items[i] x) (fun r s' => r = e i ∧ I s') E s)
    (fin : ∀ s, I s → Q ((List.range items.size).any e) s) (h : I s) : wpAny (model prog w) A (contains (.ref l) x) Q E s := by
  obtain ⟨⟨cls, dd, data, sl⟩, ho, hc, n, hd⟩ := id hl
  simp only at hc hd
  subst hc hd
  have key : wpAny (model prog w) A (call (.builtin "tuple.__contains__") [.ref l, x]) (fun v s' => ∃ b, v = .bool b ∧ Q b s') E s := by
    refine call_here F.slot_tuple_contains ⟨_, ho, rfl⟩ F.entry_tuple_contains (F.args_tuple_contains_2 _ _) ?_
    exact tuple_conE (R := wants (fun v s' => ∃ b, v = .bool b ∧ Q b s') E) l x items n dd sl e I turn (fun s' q => ⟨_, rfl, fin s' q⟩) ho h
  refine wpAny_contains_slot ⟨_, ho, rfl⟩ F.slot_tuple_contains (wpAny_mono key (fun v s' hv => ?_) fun _ _ e => e)
  obtain ⟨b, rfl, hq⟩ := hv
  exact wpAny_truthy_bool hq
end
def rOf (Z : Zn) (P : D → D → Hm → DK → Prop) : R2 := fun x y H Q => ∃ F M d e QD, View Z F M H ∧ RD Z F d x ∧ RD Z F e y ∧ P d e M QD ∧ WQ Z F QD Q
theorem ref_of {Z : Zn} {P : D → D → Hm → DK → Prop} : Ref2 Z (rOf Z P) P := fun F H M d e x y QD Q V r1 r2 h hQ => ⟨F, M, d, e, QD, V, r1, r2, h, hQ⟩
section
variable {Z : Zn} {X : Cx} {W : WX} {k : Nat}
theorem op_eqO (h : EqAll Z X k) (hz : Z.K = X.K) (tk : Takes X W) (hr : Room k X.A) : OpR X (compareOp .Eq) (rOf Z (pEq Z.es k false)) := by
  rintro pins s τ H x y v u Q I rx ry ⟨F, M, d, e, QD, V0, r1, r2, q, hQ⟩
  show wpAny (model X.prog X.w) X.A (richCompare .Eq v u) (EP X pins τ Q) X.xe s
  rcases q with ⟨p1, p2, k1, k2, q2⟩ | ⟨a, b, xs, ys, rfl, rfl, hx, hy, px, py, dx, dy, q2⟩
  · refine wpAny_mono (h.rc hz tk k (Nat.le_refl _) X.A pins s τ F H M d e x y v u ⟨hr, rfl⟩ I V0 r1 r2 rx ry p1 p2 k1 k2) (fun r s' z => ?_) fun _ _ z => z
    obtain ⟨rfl, G, H', eG, VG, I'⟩ := z
    exact ⟨.bl (D.eq d e), H', I', rfl, hQ G _ _ M H' eG VG (.bl _) (by simpa using q2)⟩
  · cases r1.ref_of
    cases r2.ref_of
    cases rx
    cases ry
    refine wpAny_mono (list_rc h hz tk (Nat.le_refl _) ⟨hr, rfl⟩ I V0 hx hy px py dx dy) (fun r s' z => ?_) fun _ _ z => z
    obtain ⟨rfl, G, H', eG, VG, I'⟩ := z
    exact ⟨.bl (D.eqs xs ys), H', I', rfl, hQ G _ _ M H' eG VG (.bl _) (by simpa using q2)⟩
/-- what != asks -/
def pNe (es : List String) (k : Nat) (x y : D) (M : Hm) (Q : DK) : Prop :=
  (D.pure es x = true ∧ D.pure es y = true ∧ x.dp ≤ k ∧ y.dp ≤ k ∧ (y.isIns = true → x.isIns = true) ∧ Q (.bl (!D.eq x y)) M) ∨
  (∃ a b xs ys, x = .ref a ∧ y = .ref b ∧ M a = some (.lst xs) ∧ M b = some (.lst ys) ∧ D.pures es xs = true ∧ D.pures es ys = true ∧ D.dps xs ≤ k ∧ D.dps ys ≤ k ∧ Q (.bl (!D.eqs xs ys)) M)
/-- the items of a list at a, seen as data -/
theorem lst_at {pins : List (Addr × Obj)} {s : Shared} {τ : L2.St} {F H : Hp} {M : Hm} {a : Addr} {xs : List D} (I : Inv X pins τ H s) (V0 : View Z F M H) (hx : M a = some (.lst xs)) :
    ∃ (its : List Value) (n : Nat), s.heap.get? a = some { cls := .type "list", data := .seq its.toArray n } ∧ its.length = xs.length ∧ ∀ (i : Nat) (d : D), xs[i]? = some d → ∃ v u, its[i]? = some u ∧ RelV v u ∧ RD Z F d v := by
  obtain ⟨vs, ha, ra⟩ := V0.lst hx
  obtain ⟨z, its, k, r, e⟩ := I.hok a _ ha
  refine ⟨its, k, e, by rw [← r.length, ← ra.length], fun i d hd => ?_⟩
  obtain ⟨v, g1, q1⟩ := ra.get hd
  obtain ⟨u, gu, ru⟩ := r.get g1
  exact ⟨v, u, gu, ru, q1⟩
theorem arr_at {its : List Value} {i : Nat} {u : Value} (h1 : i < its.toArray.size) (h : its[i]? = some u) : its.toArray[i] = u := by
  have : its[i]? = some its.toArray[i] := by
    rw [List.getElem?_eq_getElem (by simpa using h1)]; simp
  rw [h] at this; exact (Option.some.inj this).symm
theorem list_rcne (h : EqAll Z X k) (hz : Z.K = X.K) (tk : Takes X W) {A : Around} {pins : List (Addr × Obj)} {s : Shared} {τ : L2.St} {F H : Hp} {M : Hm} {a b : Addr} {xs ys : List D}
    (sb : L2.Sub X (k + 1) A) (I : Inv X pins τ H s) (V0 : View Z F M H) (hx : M a = some (.lst xs)) (hy : M b = some (.lst ys)) (px : D.pures Z.es xs = true) (py : D.pures Z.es ys = true) (dx : D.dps xs ≤ k) (dy : D.dps ys ≤ k) :
    wpAny (model X.prog X.w) A (richCompare .NotEq (.ref a) (.ref b)) (fun r s' => r = .bool (!D.eqs xs ys) ∧ EqI Z X pins τ F M s') X.xe s := by
  have hu := sb.room.units0
  obtain ⟨its, n, e, l1, _⟩ := lst_at I V0 hx
  obtain ⟨its2, n2, e2, l2, _⟩ := lst_at I V0 hy
  by_cases hl : xs.length = ys.length
  · have e1 : D.eqs xs ys = (List.range xs.length).all (fun i => D.eq (xs.getD i .non) (ys.getD i .non)) := by
      rw [eqs_iff, ← hl, Nat.min_self]
      simp
    rw [e1]
    refine rcne_listE hu (EqI Z X pins τ F M) (fun s' hI => ?_) (fun s' hI => ⟨rfl, hI⟩) (.now V0 I)
    obtain ⟨G, H', eG, VG, I'⟩ := hI
    obtain ⟨its, n, e, l1, at1⟩ := lst_at I' VG hx
    obtain ⟨its2, n2, e2, l2, at2⟩ := lst_at I' VG hy
    refine ⟨its.toArray, its2.toArray, n, n2, e, e2, by simpa using l1, by rw [List.size_toArray, l2, hl], fun i h1 h2 => ?_⟩
    have k1 : i < xs.length := by rw [← l1]; simpa using h1
    have k2 : i < ys.length := by rw [← l2]; simpa using h2
    obtain ⟨w1, u1, g1, ru1, q1⟩ := at1 i _ (List.getElem?_eq_getElem k1)
    obtain ⟨w2, u2, g2, ru2, q2⟩ := at2 i _ (List.getElem?_eq_getElem k2)
    rw [arr_at h1 g1, arr_at h2 g2]
    have d1 := dps_get (List.getElem?_eq_getElem k1)
    have d2 := dps_get (List.getElem?_eq_getElem k2)
    refine wpAny_mono (h.eq hz tk k (Nat.le_refl _) A.in1 pins s' τ G H' M xs[i] ys[i] w1 w2 u1 u2 (L2.Sub.in1 sb) I' VG q1 q2 ru1 ru2
      (pures_get px (List.getElem?_eq_getElem k1)) (pures_get py (List.getElem?_eq_getElem k2)) (by omega) (by omega)) (fun r s2 ⟨hr, hq⟩ => ⟨?_, hq.trans eG⟩) fun _ _ z => z
    rw [hr, List.getD_eq_getElem?_getD, List.getD_eq_getElem?_getD, List.getElem?_eq_getElem k1, List.getElem?_eq_getElem k2]
    rfl
  · have e1 : D.eqs xs ys = false := by
      rw [eqs_iff]
      simp [hl]
    rw [e1]
    exact SeqAt.RcNeAt.lists_lengths (s := s) ⟨_, e, rfl, n, rfl⟩ ⟨_, e2, rfl, n2, rfl⟩ (by rw [List.size_toArray, List.size_toArray, l1, l2]; simp [hl]) hu X.prog X.w X.xe _ ⟨rfl, .now V0 I⟩
theorem op_neO (h : EqAll Z X k) (hn0 : ∀ c ∈ Z.es, NeCls Z X c) (hz : Z.K = X.K) (tk : Takes X W) (hr : Room (k + 1) X.A) : OpR X (compareOp .NotEq) (rOf Z (pNe Z.es k)) := by
  rintro pins s τ H x y v u Q I rx ry ⟨F, M, d, e, QD, V0, r1, r2, q, hQ⟩
  show wpAny (model X.prog X.w) X.A (richCompare .NotEq v u) (EP X pins τ Q) X.xe s
  rcases q with ⟨p1, p2, k1, k2, hm, q2⟩ | ⟨a, b, xs, ys, rfl, rfl, hx, hy, px, py, dx, dy, q2⟩
  · refine wpAny_mono (ne_step h.cls hn0 hz tk (fun c hc => h.dfn c hc k (Nat.le_refl _)) (fun m hm => h.eq hz tk m (by omega)) ⟨hr, rfl⟩ I V0 r1 r2 rx ry p1 p2 k1 k2 hm) (fun r s' z => ?_) fun _ _ z => z
    obtain ⟨rfl, G, H', eG, VG, I'⟩ := z
    exact ⟨.bl (!D.eq d e), H', I', rfl, hQ G _ _ M H' eG VG (.bl _) q2⟩
  · cases r1.ref_of
    cases r2.ref_of
    cases rx
    cases ry
    refine wpAny_mono (list_rcne h hz tk ⟨hr, rfl⟩ I V0 hx hy px py dx dy) (fun r s' z => ?_) fun _ _ z => z
    obtain ⟨rfl, G, H', eG, VG, I'⟩ := z
    exact ⟨.bl (!D.eqs xs ys), H', I', rfl, hQ G _ _ M H' eG VG (.bl _) q2⟩
/-- x in y: a tuple or a list of pure data; a text -/
def subT (x y : Tx) : Bool := !(Builtin.Str.occurrences (sv y) (sv x) 0 (sv y).length 1).isEmpty
def pIn (es : List String) (k : Nat) (neg : Bool) (x y : D) (M : Hm) (Q : DK) : Prop :=
  (D.pure es x = true ∧ x.dp ≤ k ∧ ((∃ ys, y = .tup ys ∧ D.pures es ys = true ∧ D.dps ys ≤ k ∧ Q (.bl (neg ^^ ys.any (fun z => D.eq z x))) M) ∨
    (∃ b ys, y = .ref b ∧ M b = some (.lst ys) ∧ D.pures es ys = true ∧ D.dps ys ≤ k ∧ Q (.bl (neg ^^ ys.any (fun z => D.eq z x))) M))) ∨
  (∃ a b, x = .str a ∧ y = .str b ∧ Q (.bl (neg ^^ subT a b)) M)
theorem any_range {α : Type} (xs : List α) (f : α → Bool) (g : Nat → Bool) (h : ∀ i (hi : i < xs.length), g i = f xs[i]) : (List.range xs.length).any g = xs.any f := by
  rw [Bool.eq_iff_iff, List.any_eq_true, List.any_eq_true]
  constructor
  · rintro ⟨i, hi, hg⟩
    rw [List.mem_range] at hi
    exact ⟨xs[i], List.getElem_mem hi, by rw [← h i hi]; exact hg⟩
  · rintro ⟨x, hx, hf⟩
    obtain ⟨i, hi, rfl⟩ := List.getElem_of_mem hx
    exact ⟨i, List.mem_range.mpr hi, by rw [h i hi]; exact hf⟩
theorem op_inO {neg : Bool} (h : EqAll Z X k) (hz : Z.K = X.K) (tk : Takes X W) (hr : Room (k + 1) X.A) : OpR X (compareOp (if neg then .NotIn else .In)) (rOf Z (pIn Z.es k neg)) := by
  rintro pins s τ H x y v u Q I rx ry ⟨F, M, d, e, QD, V0, r1, r2, q, hQ⟩
  have sb : L2.Sub X (k + 1) X.A := ⟨hr, rfl⟩
  rcases q with ⟨p1, k1, q⟩ | ⟨a, b, rfl, rfl, q⟩
  · refine con_slot ?_
    rcases q with ⟨ys, rfl, py, dy, q⟩ | ⟨b, ys, rfl, hy, py, dy, q⟩
    · obtain ⟨b, us, rfl, hb, rb⟩ := r2.tup_of
      cases ry
      obtain ⟨its, rv, p2, hz2⟩ := I.tuple (show SqT X.K H b us by rw [← hz]; exact SqT.sub V0 hb)
      have hlen : its.toArray.size = ys.length := by rw [List.size_toArray, ← rv.length, ← rb.length]
      refine con_tuple (e := fun i => D.eq (ys.getD i .non) d) (EqI Z X pins τ F M) p2 (fun i h1 s' hI => ?_) (fun s' hI => ?_) (.now V0 I)
      · obtain ⟨G, H', eG, VG, I'⟩ := hI
        have k2 : i < ys.length := by rw [← hlen]; exact h1
        obtain ⟨w2, g2, q2⟩ := rb.get (List.getElem?_eq_getElem k2)
        obtain ⟨u2, gu2, ru2⟩ := rv.get g2
        rw [arr_at h1 gu2]
        have d2 := dps_get (List.getElem?_eq_getElem k2)
        refine wpAny_mono (h.eq hz tk k (Nat.le_refl _) X.A.in1 pins s' τ G H' M ys[i] d w2 x u2 v (L2.Sub.in1 sb) I' VG (q2.ext eG) (r1.ext eG) ru2 rx (pures_get py (List.getElem?_eq_getElem k2)) p1 (by omega) k1) (fun r s2 ⟨hr, hq⟩ => ⟨?_, hq.trans eG⟩) fun _ _ z => z
        rw [hr]
        show _ = D.eq (ys.getD i .non) d
        rw [List.getD_eq_getElem?_getD, List.getElem?_eq_getElem k2]
        rfl
      · obtain ⟨G, H', eG, VG, I'⟩ := hI
        rw [hlen, any_range ys (fun z => D.eq z d) _ (fun i hi => by rw [List.getD_eq_getElem?_getD, List.getElem?_eq_getElem hi]; rfl)]
        exact ⟨.bl _, H', I', rfl, hQ G _ _ M H' eG VG (.bl _) q⟩
    · cases r2.ref_of
      cases ry
      refine con_list (N := ys.length) (e := fun i => D.eq (ys.getD i .non) d) (EqI Z X pins τ F M) (fun s' hI => ?_) (fun s' hI => ?_) (.now V0 I)
      · obtain ⟨G, H', eG, VG, I'⟩ := hI
        obtain ⟨its, n, e, l1, at1⟩ := lst_at I' VG hy
        refine ⟨its.toArray, n, e, by simpa using l1, fun i h1 => ?_⟩
        have k2 : i < ys.length := by rw [← l1]; simpa using h1
        obtain ⟨w2, u2, gu2, ru2, q2⟩ := at1 i _ (List.getElem?_eq_getElem k2)
        rw [arr_at h1 gu2]
        have d2 := dps_get (List.getElem?_eq_getElem k2)
        refine wpAny_mono (h.eq hz tk k (Nat.le_refl _) X.A.in1 pins s' τ G H' M ys[i] d w2 x u2 v (L2.Sub.in1 sb) I' VG q2 (r1.ext eG) ru2 rx (pures_get py (List.getElem?_eq_getElem k2)) p1 (by omega) k1) (fun r s2 ⟨hr, hq⟩ => ⟨?_, hq.trans eG⟩) fun _ _ z => z
        rw [hr]
        show _ = D.eq (ys.getD i .non) d
        rw [List.getD_eq_getElem?_getD, List.getElem?_eq_getElem k2]
        rfl
      · obtain ⟨G, H', eG, VG, I'⟩ := hI
        rw [any_range ys (fun z => D.eq z d) _ (fun i hi => by rw [List.getD_eq_getElem?_getD, List.getElem?_eq_getElem hi]; rfl)]
        exact ⟨.bl _, H', I', rfl, hQ G _ _ M H' eG VG (.bl _) q⟩
  · cases r1.str_of
    cases r2.str_of
    cases neg
    · exact op_in_str pins s τ H _ _ v u Q I rx ry ⟨_, _, rfl, rfl, hQ F _ _ M H Ext.rfl' V0 (.bl _) (by simpa [subT] using q)⟩
    · exact op_notin_str pins s τ H _ _ v u Q I rx ry ⟨_, _, rfl, rfl, hQ F _ _ M H Ext.rfl' V0 (.bl _) (by simpa [subT] using q)⟩
end
end DL
namespace DL
open PySem PySem.Spec PyProof.Rows L2
section
variable {Z : Zn} {X : Cx} {W : WX} {k : Nat}
/-- a method m of the class c without arguments, at the level k -/
def OwnM (Z : Zn) (X : Cx) (k : Nat) (m : Str) (c : String) (S : DSp) : Prop := ∃ f fd ps, PySem.W.findIn X.K (.ref (Z.ca c)) m = some (some (.ref f)) ∧ PySem.W.isFn X.K (.ref f) = true ∧ ps.length = 1 ∧ Binds X.K fd ps [] ∧ FnOk X.prog X.w X.K X.mg X.base (CX X.prog X.w) k f fd ps (spOf Z 1 S)
theorem own_call1 {c : String} {m : Str} {S : DSp} (hD : OwnM Z X k m c S) (tk : Takes X W) {A : Around} {pins : List (Addr × Obj)} {s : Shared} {τ : L2.St} {F H : Hp} {M : Hm} {d : D} {v : V} {u : Value} {QD : DK} {ED : DX} {Q : VK}
    (sb : L2.Sub X k A) (I : Inv X pins τ H s) (V0 : View Z F M H) (rd : RD Z F d v) (rv : RelV v u) (h : S [d] M QD ED) (hQ : WQ Z F QD Q) (hE : WE Z W F τ ED) :
    ∃ f, PySem.W.findIn X.K (.ref (Z.ca c)) m = some (some (.ref f)) ∧ PySem.W.isFn X.K (.ref f) = true ∧ wpAny (model X.prog X.w) A (call (.ref f) [u]) (EP X pins τ Q) X.xe s := by
  obtain ⟨f, fd, ps, h1, h2, hl, hb, Fn⟩ := hD
  refine ⟨f, h1, h2, ?_⟩
  have hsp : spOf Z 1 S [v] H Q (L2.WE W τ) := ⟨F, [d], M, QD, ED, rfl, .cons rd .nil, V0, h, hQ, hE⟩
  have e0 : Env0 X.prog X.w X.K X.mg X.base A X.stack s H := by
    have e := I.env0
    exact ⟨by rw [sb.fr]; exact e.frames, e.mod, e.bs, e.bsz, e.funs, e.frf, e.hok, e.bare⟩
  have r2 : Vals [v] [u] := .cons rv .nil
  refine wpAny_call (codeAny_mono (Fn.run A X.stack s H ⟨[u], []⟩ [u] [v] _ (L2.WE W τ) sb.room e0 (by
    have := hb s [u] I.kIn (by simpa using hl.symm)
    simpa using this) r2 hsp) fun r s' hq => ?_)
  cases r with
  | error e => exact passAt tk τ pins H s e s' I hq
  | ok fl =>
    cases fl with
    | ret w => exact I.after hq
    | next => exact False.elim hq
    | brk => exact False.elim hq
    | cont => exact False.elim hq
/-- the instance at the machine -/
theorem ins_at {pins : List (Addr × Obj)} {s : Shared} {τ : L2.St} {F H : Hp} {M : Hm} {c : String} {fs : List (String × D)} {v : V} {u : Value} (I : Inv X pins τ H s) (V0 : View Z F M H) (rd : RD Z F (.ins c fs) v) (rv : RelV v u) :
    ∃ a ox od, u = .ref a ∧ v = .ref a ∧ PySem.W.InstAt s.heap a ox (Z.ca c) od := by
  obtain ⟨a, dx, gs, rfl, hm, ha, hr⟩ := rd.ins_of
  cases rv
  obtain ⟨mA, J, _⟩ := ins_get I.hok (V0.sub _ _ ha)
  obtain ⟨od, J, _⟩ := J.look
  exact ⟨a, _, od, rfl, rfl, J⟩
abbrev botS : DSp := fun _ _ _ _ => False
/-- r: what room the way to the method takes -/
abbrev OwnMs (Z : Zn) (X : Cx) (r : Nat) (m : Str) (Ss : List (String × DSp)) : Prop := ∀ c S, Ss.lookup c = some S → S = botS ∨ ∃ j, Room (j + r) X.A ∧ OwnM Z X j m c S
/-- a builtin of values that may call -/
def CallD (Z : Zn) (X : Cx) (W : WX) (fv : Value) (P : List D → Hm → DK → DX → Prop) : Prop := ∀ (pins : List (Addr × Obj)) (s : Shared) (τ : L2.St) (F H : Hp) (M : Hm) (ds : List D) (vs : List V) (us : List Value) (QD : DK) (ED : DX) (Q : VK),
  Inv X pins τ H s → View Z F M H → RDs Z F ds vs → Vals vs us → P ds M QD ED → WQ Z F QD Q → WE Z W F τ ED → wpAny (model X.prog X.w) X.A (call fv us) (EP X pins τ Q) X.xe s
theorem CallD.ofR {fv : Value} {r : List V → Hp → VK → Prop} {P : List D → Hm → DK → Prop} (hc : CallR X fv r) (hP : RefC Z r P) : CallD Z X W fv (fun ds M Q _ => P ds M Q) :=
  fun pins s τ F H M ds vs us QD ED Q I V0 r rv h hQ _ => hc pins s τ H vs us Q I rv (hP F H M ds vs QD Q V0 r h hQ)
def wCallP (P : List D → Hm → DK → DX → Prop) (Tr : DTA) : DTE := fun σ M Q E => Tr σ M (fun ds M1 => P ds M1 Q E) E
section
variable {P : List D → Hm → DK → DX → Prop} {id : String} {x : Str} {p pos : Pos} {e : Expr} {es : List Expr} {Tr : DTA}
theorem de_callB (hc : CallD Z X W (.builtin id) P) (hg : Gl X x) (hm : X.mg x = none) (hv : bootBuiltins x = some (.builtin id)) (ha : DA Z X W (e :: es) Tr)
    (hn : x ≠ "__name__") (hdb : (x == ("__debug__" : Str)) = false) (he : starEach (e :: es) X.env = (false, eval e X.env) :: starEach es X.env) (hpl : (backTo pos (starEach es X.env)).any (·.1) = false) : DE Z X W (.Call (.Name x p) (e :: es) [] pos) (wCallP P Tr) := by
  refine ⟨fun pins s τ H Q I ⟨F, σ, M, QD, ED, S, V0, hT, hQ, hE⟩ => ?_⟩
  refine wpAny_Call_Name_kw (ld_blt I hg hm hv ?_ hn hdb)
  refine PyProof.Rows.callWith_builtin1 (thn (ha.run pos pins s τ H (fun vs H1 => ∃ F1 ds M1, Ext F F1 ∧ View Z F1 M1 H1 ∧ RDs Z F1 ds vs ∧ P ds M1 QD ED) I ⟨F, σ, M, _, ED, S, V0, hT, fun F1 ds v1 M1 H1 e1 V1 r1 q1 => ⟨F1, ds, M1, e1, V1, r1, q1⟩, hE⟩) fun us s1 ⟨vs, H1, I1, ru, F1, ds, M1, e1, V1, r1, q1⟩ => ?_) he hpl
  exact hc pins s1 τ F1 H1 M1 ds vs us QD ED Q I1 V1 r1 ru q1 (hQ.ext e1) (hE.ext e1)
theorem de_callT (hc : CallD Z X W (.type id) P) (hg : Gl X x) (hm : X.mg x = none) (hv : bootBuiltins x = some (.type id)) (ha : DA Z X W (e :: es) Tr)
    (hn : x ≠ "__name__") (hdb : (x == ("__debug__" : Str)) = false) (he : starEach (e :: es) X.env = (false, eval e X.env) :: starEach es X.env) (hpl : (backTo pos (starEach es X.env)).any (·.1) = false) : DE Z X W (.Call (.Name x p) (e :: es) [] pos) (wCallP P Tr) := by
  refine ⟨fun pins s τ H Q I ⟨F, σ, M, QD, ED, S, V0, hT, hQ, hE⟩ => ?_⟩
  refine wpAny_Call_Name_kw (ld_blt I hg hm hv ?_ hn hdb)
  refine PyProof.Rows.callWith_type1 (thn (ha.run pos pins s τ H (fun vs H1 => ∃ F1 ds M1, Ext F F1 ∧ View Z F1 M1 H1 ∧ RDs Z F1 ds vs ∧ P ds M1 QD ED) I ⟨F, σ, M, _, ED, S, V0, hT, fun F1 ds v1 M1 H1 e1 V1 r1 q1 => ⟨F1, ds, M1, e1, V1, r1, q1⟩, hE⟩) fun us s1 ⟨vs, H1, I1, ru, F1, ds, M1, e1, V1, r1, q1⟩ => ?_) he hpl
  exact hc pins s1 τ F1 H1 M1 ds vs us QD ED Q I1 V1 r1 ru q1 (hQ.ext e1) (hE.ext e1)
end
theorem one_of {F : Hp} {d : D} {vs : List V} {us : List Value} (r : RDs Z F [d] vs) (rv : Vals vs us) : ∃ v u, vs = [v] ∧ us = [u] ∧ RD Z F d v ∧ RelV v u := by
  cases r with | cons r t => cases t; cases rv with | cons rv t => cases t; exact ⟨_, _, rfl, rfl, r, rv⟩
def pStr (Ss : List (String × DSp)) (ds : List D) (M : Hm) (Q : DK) (E : DX) : Prop := match ds with
  | [.str x] => Q (.str x) M
  | [.ins c fs] => ∃ S, Ss.lookup c = some S ∧ S [.ins c fs] M (fun y M1 => ∃ t, y = .str t ∧ Q y M1) E
  | _ => False
theorem cd_str {Ss : List (String × DSp)} (tk : Takes X W) (hS : OwnMs Z X 2 "__str__" Ss) : CallD Z X W (.type "str") (pStr Ss) := by
  intro pins s τ F H M ds vs us QD ED Q I V0 r rv h hQ hE
  unfold pStr at h
  split at h
  · obtain ⟨v, u, rfl, rfl, rd, ru⟩ := one_of r rv
    cases rd.str_of
    exact SkE.call_str_str pins s τ H _ [u] Q I (.cons ru .nil) ⟨_, rfl, hQ F _ _ M H Ext.rfl' V0 (.str _) h⟩
  · obtain ⟨v, u, rfl, rfl, rd, ru⟩ := one_of r rv
    obtain ⟨S, hc, q⟩ := h
    obtain ⟨a, ox, od, rfl, rfl, J⟩ := ins_at I V0 rd ru
    rcases hS _ S hc with rfl | ⟨k, hr, hS⟩
    · exact q.elim
    have sb : L2.Sub X k X.A.in1.in1 := L2.Sub.in1 (L2.Sub.in1 ⟨hr, rfl⟩)
    obtain ⟨f, h1, h2, hcall⟩ := own_call1 hS tk sb I V0 rd ru q (Q := fun y H1 => ∃ t, y = .str t ∧ Q y H1) (fun G y w M1 H1 e1 V1 r1 ⟨t, ht, q1⟩ => by
      subst ht
      exact ⟨sv t, r1.str_of, hQ G _ _ M1 H1 e1 V1 r1 q1⟩) hE
    refine PySem.W.kso_call sb.room.units0 I.kIn J h1 h2 (wpAny_mono hcall (fun r s' z => ?_) fun _ _ z => z)
    obtain ⟨y, H1, I1, ry, ⟨t, rfl, q1⟩⟩ := z
    obtain ⟨tk', rfl⟩ := ry
    exact ⟨.str t, H1, I1, ⟨tk', rfl⟩, q1⟩
  · exact h.elim
def pRepr (Ss : List (String × DSp)) (ds : List D) (M : Hm) (Q : DK) (E : DX) : Prop := match ds with
  | [.ins c fs] => ∃ S, Ss.lookup c = some S ∧ S [.ins c fs] M (fun y M1 => ∃ t, y = .str t ∧ Q y M1) E
  | _ => False
theorem cd_repr {Ss : List (String × DSp)} (tk : Takes X W) (hS : OwnMs Z X 1 "__repr__" Ss) : CallD Z X W (.builtin "repr") (pRepr Ss) := by
  intro pins s τ F H M ds vs us QD ED Q I V0 r rv h hQ hE
  unfold pRepr at h
  split at h
  · obtain ⟨v, u, rfl, rfl, rd, ru⟩ := one_of r rv
    obtain ⟨S, hc, q⟩ := h
    obtain ⟨a, ox, od, rfl, rfl, J⟩ := ins_at I V0 rd ru
    rcases hS _ S hc with rfl | ⟨k, hr, hS⟩
    · exact q.elim
    have sb : L2.Sub X k X.A.in1 := L2.Sub.in1 ⟨hr, rfl⟩
    obtain ⟨f, h1, h2, hcall⟩ := own_call1 hS tk sb I V0 rd ru q (Q := fun y H1 => ∃ t, y = .str t ∧ Q y H1) (fun G y w M1 H1 e1 V1 r1 ⟨t, ht, q1⟩ => by
      subst ht
      exact ⟨sv t, r1.str_of, hQ G _ _ M1 H1 e1 V1 r1 q1⟩) hE
    obtain ⟨m, hF⟩ := I.fr
    refine PySem.W.repr_K sb.room.units0 hF I.ok.mod.kin J h1 h2 (wpAny_mono hcall (fun r s' z => ?_) fun _ _ z => z)
    obtain ⟨y, H1, I1, ry, ⟨t, rfl, q1⟩⟩ := z
    obtain ⟨tk', rfl⟩ := ry
    exact ⟨.str t, H1, I1, ⟨tk', rfl⟩, q1⟩
  · exact h.elim
/-- len: of a list, a tuple, a text, an own instance -/
def pLen (Ss : List (String × DSp)) (ds : List D) (M : Hm) (Q : DK) (E : DX) : Prop := match ds with
  | [.ref a] => ∃ xs, Lz M a xs ∧ Q (.int xs.length) M
  | [.tup xs] => Q (.int xs.length) M
  | [.str x] => x.length ≤ LL ∧ Q (.int x.length) M
  | [.ins c fs] => ∃ S, Ss.lookup c = some S ∧ S [.ins c fs] M (fun y M1 => ∃ n : Int, y = .int n ∧ 0 ≤ n ∧ n < 9223372036854775808 ∧ Q y M1) E
  | _ => False
theorem cd_len {Ss : List (String × DSp)} (hz : Z.K = X.K) (tk : Takes X W) (hS : OwnMs Z X 1 "__len__" Ss) : CallD Z X W (.builtin "len") (pLen Ss) := by
  intro pins s τ F H M ds vs us QD ED Q I V0 r rv h hQ hE
  unfold pLen at h
  split at h
  · obtain ⟨v, u, rfl, rfl, rd, ru⟩ := one_of r rv
    cases rd.ref_of
    obtain ⟨xs, hx, q⟩ := h
    obtain ⟨ys, hy, rs⟩ := V0.lz hx
    rw [rs.length] at q
    exact call_len_seq pins s τ H _ [u] Q I (.cons ru .nil) ⟨_, ys, rfl, .inl (by rw [← hz]; exact hy), hQ F _ _ M H Ext.rfl' V0 (.int _) q⟩
  · obtain ⟨v, u, rfl, rfl, rd, ru⟩ := one_of r rv
    obtain ⟨a, ys, rfl, ha, rs⟩ := rd.tup_of
    rw [rs.length] at h
    exact call_len_seq pins s τ H _ [u] Q I (.cons ru .nil) ⟨_, ys, rfl, .inr (by rw [← hz]; exact SqT.sub V0 ha), hQ F _ _ M H Ext.rfl' V0 (.int _) h⟩
  · obtain ⟨v, u, rfl, rfl, rd, ru⟩ := one_of r rv
    cases rd.str_of
    exact call_len_str pins s τ H _ [u] Q I (.cons ru .nil) ⟨_, rfl, by rw [sv_len, LL_eq]; exact h.1, by rw [sv_len]; exact hQ F _ _ M H Ext.rfl' V0 (.int _) h.2⟩
  · obtain ⟨v, u, rfl, rfl, rd, ru⟩ := one_of r rv
    obtain ⟨S, hc, q⟩ := h
    obtain ⟨a, ox, od, rfl, rfl, J⟩ := ins_at I V0 rd ru
    rcases hS _ S hc with rfl | ⟨k, hr, hS⟩
    · exact q.elim
    have sb : L2.Sub X k X.A.in1 := L2.Sub.in1 ⟨hr, rfl⟩
    obtain ⟨f, h1, h2, hcall⟩ := own_call1 hS tk sb I V0 rd ru q (Q := fun y H1 => ∃ n : Int, y = .int n ∧ 0 ≤ n ∧ n < 9223372036854775808 ∧ Q y H1) (fun G y w M1 H1 e1 V1 r1 ⟨n, hn, h0, h1, q1⟩ => by
      subst hn
      exact ⟨n, r1.int_of, h0, h1, hQ G _ _ M1 H1 e1 V1 r1 q1⟩) hE
    obtain ⟨m, hF⟩ := I.fr
    refine PySem.W.len_K hF I.ok.mod.kin J h1 h2 (wpAny_mono hcall (fun r s' z => ?_) fun _ _ z => z)
    obtain ⟨y, H1, I1, ry, ⟨n, rfl, h0, h1, q1⟩⟩ := z
    obtain ⟨tk', rfl⟩ := ry
    exact ⟨⟨h0, by simpa using h1⟩, .int n, H1, I1.tok _, ⟨_, rfl⟩, q1⟩
  · exact h.elim
end
end DL
namespace DL
open PySem PySem.Spec PyProof.Rows L2
section
variable {Z : Zn} {X : Cx} {W : WX} {k : Nat}
/-- the type's name: own? -/
def tyD (d : D) (M : Hm) : Option (Bool × String) := match d with
  | .non => some (false, "NoneType") | .bl _ => some (false, "bool") | .int _ => some (false, "int") | .str _ => some (false, "str") | .tup _ => some (false, "tuple") | .ins c _ => some (true, c)
  | .ref a => (match M a with
    | some (.lst _) => some (false, "list")
    | some (.frl _) => some (false, "list")
    | some (.ins c _) => some (true, c)
    | some (.xd _) => none
    | some (.dct _) => none
    | some (.dci _) => none
    | some (.dtk _) => none
    | none => none)
  | .ty _ => none
def tyV0 (Z : Zn) (t : Bool × String) : Value := if t.1 then .ref (Z.ca t.2) else .type t.2
structure IsiF (Z : Zn) (X : Cx) : Prop where
  tt : ∀ T ∈ plainTs, ∀ U ∈ plainTs, PySem.W.kitOne X.K (.type T) (.type U) = some (T == U || (T == "bool" && U == "int"))
  to_ : ∀ T ∈ plainTs, ∀ c ∈ Z.cs, PySem.W.kitOne X.K (.type T) (.ref (Z.ca c)) = some false
  ot : ∀ c ∈ Z.cs, ∀ U ∈ plainTs, PySem.W.kitOne X.K (.ref (Z.ca c)) (.type U) = some false
  oo : ∀ c ∈ Z.cs, ∀ d ∈ Z.cs, PySem.W.kitOne X.K (.ref (Z.ca c)) (.ref (Z.ca d)) = some (c == d)
  cl : ∀ c ∈ Z.cs, Cls X.K (Z.ca c) ∧ PySem.W.findIn X.K (.ref (Z.ca c)) "__class__" = some (some (.builtin "object.__class__")) ∧ PySem.W.mroIn X.K (Z.ca c) (.type "object") = some true
  gt : PySem.W.specialIn X.K (.builtin "object.__class__") "__get__" = some (some (.builtin "getset_descriptor.__get__")) ∧ PySem.W.takesIn X.K (.builtin "object.__class__") = some true
theorem tyD_mem {F H : Hp} {M : Hm} {d : D} {v : V} {t : Bool × String} (V0 : View Z F M H) (rd : RD Z F d v) (h : tyD d M = some t) : if t.1 then t.2 ∈ Z.cs else t.2 ∈ plainTs := by
  cases d with
  | ref a =>
    unfold tyD at h
    simp only at h
    cases e : M a with
    | none => rw [e] at h; cases h
    | some m =>
      rw [e] at h
      cases m with
      | lst xs => cases h; simp [plainTs]
      | frl xs => cases h; simp [plainTs]
      | xd fs => cases h
      | dct kvs => cases h
      | dci kvs => cases h
      | dtk kvs => cases h
      | ins c fs =>
        cases h
        obtain ⟨dx, gs, hm, _⟩ := V0.ins e
        simpa using hm
  | ins c fs =>
    cases h
    obtain ⟨a, dx, gs, rfl, hm, _⟩ := rd.ins_of
    simpa using hm
  | ty n => cases h
  | _ => cases h; simp [plainTs]
theorem tyX_of (F0 : IsiF Z X) (hz : Z.K = X.K) {F H : Hp} {M : Hm} {d : D} {v : V} {t : Bool × String} (V0 : View Z F M H) (rd : RD Z F d v) (h : tyD d M = some t) : TyX X.K H v (tyV0 Z t) := by
  have hm := tyD_mem V0 rd h
  have own : ∀ {a dx : Addr} {c : String} {gs : List (Str × V)}, c ∈ Z.cs → H a = some (.ins (Z.ca c) dx gs) → TyX X.K H (.ref a) (.ref (Z.ca c)) := fun hc ha =>
    .base (.ins ha (F0.cl _ hc).1 (F0.cl _ hc).2.1 F0.gt.1 F0.gt.2 (F0.cl _ hc).2.2)
  cases d with
  | non => cases rd.non_of; cases h; exact .base .non
  | bl b => cases rd.bl_of; cases h; exact .base (.bl b)
  | int i => cases rd.int_of; cases h; exact .base (.int i)
  | str x => cases rd.str_of; cases h; exact .base (.str _)
  | tup ds =>
    obtain ⟨a, vs, rfl, ha, rs⟩ := rd.tup_of
    cases h
    have ha := SqT.sub V0 ha
    rw [hz] at ha
    rcases ha with (ha | ⟨o, ha⟩) | ha
    · exact .base (.tup ha)
    · exact .fTuple ha
    · obtain ⟨o, its, n, e, hc, _⟩ := ha
      exact .kTuple e hc
  | ins c fs =>
    obtain ⟨a, dx, gs, rfl, hc, ha, hr⟩ := rd.ins_of
    cases h
    exact own hc (V0.sub _ _ ha)
  | ty n => cases h
  | ref a =>
    cases rd.ref_of
    unfold tyD at h
    simp only at h
    cases e : M a with
    | none => rw [e] at h; cases h
    | some m =>
      rw [e] at h
      cases m with
      | xd fs => cases h
      | dct kvs => cases h
      | dci kvs => cases h
      | dtk kvs => cases h
      | lst xs =>
        cases h
        obtain ⟨vs, ha, _⟩ := V0.lst e
        exact .base (.lst ha)
      | frl xs =>
        cases h
        obtain ⟨_, o, h2, h3⟩ := V0.mt a _ e
        cases o with
        | frz ob u =>
          cases u with
          | lst vs => exact .base (.frz h2)
          | _ => exact h3.elim
        | _ => exact h3.elim
      | ins c fs =>
        cases h
        obtain ⟨dx, gs, hm, ha, _⟩ := V0.ins e
        exact own hm ha
/-- isinstance(x, a builtin type | an own class) -/
def wIsi (own : Bool) (n : String) (T : DTE) : DTE := fun σ M Q E => T σ M (fun d M1 => ∃ t, tyD d M1 = some t ∧ Q (.bl (t.1 == own && (t.2 == n || (own == false && t.2 == "bool" && n == "int")))) M1) E
theorem de_isi {own : Bool} {n : String} {a : Expr} {x y : Str} {p p2 pos : Pos} {Ta : DTE} (F0 : IsiF Z X) (hz : Z.K = X.K) (hcl : if own then n ∈ Z.cs else n ∈ plainTs)
    (hg : Gl X x) (hm : X.mg x = none) (hv : bootBuiltins x = some (.builtin "isinstance")) (ha : DE Z X W a Ta) (hy : PE X (.Name y p2) (tC (if own then .ref (Z.ca n) else .ty n)))
    (hn : x ≠ "__name__") (hdb : (x == ("__debug__" : Str)) = false) (he : starEach [a, .Name y p2] X.env = (false, eval a X.env) :: starEach [.Name y p2] X.env) (he2 : starEach [.Name y p2] X.env = (false, eval (.Name y p2) X.env) :: starEach [] X.env) (hpl : (backTo pos (starEach [.Name y p2] X.env)).any (·.1) = false) :
    DE Z X W (.Call (.Name x p) [a, .Name y p2] [] pos) (wIsi own n Ta) := by
  refine PE.imp (pe_callB call_isi hg hm hv (pa_cons ha (pa_cons hy pa_nil he2) he) hn hdb he hpl) fun τ H Q ⟨F, σ, M, QD, ED, S, V0, hT, hQ, hE⟩ => ?_
  refine ⟨F, σ, M, _, ED, S, V0, hT, fun F1 d v M1 H1 e1 V1 r1 ⟨t, ht, q⟩ => ?_, hE⟩
  show rIsi X.K [v, _] H1 Q
  have hm1 := tyD_mem V1 r1 ht
  refine ⟨v, _, _, tyV0 Z (own, n), _, rfl, ?_, tyX_of F0 hz V1 r1 ht, ?_, hQ F1 _ _ M1 H1 e1 V1 (.bl _) q⟩
  · cases own
    · exact .ty n
    · exact .own _
  · obtain ⟨to, tn⟩ := t
    cases to <;> cases own <;> simp only [tyV0, Bool.false_eq_true, if_false, if_true] at hm1 hcl ⊢
    · rw [F0.tt _ hm1 _ hcl]; simp
    · rw [F0.to_ _ hm1 _ hcl]; simp
    · rw [F0.ot _ hm1 _ hcl]; simp
    · rw [F0.oo _ hm1 _ hcl]; simp
def itx (i : Int) : Tx := (toString i).toList.map Char.toNat
def pFmt (d : D) (M : Hm) (Q : DK) : Prop := match d with
  | .str x => x.length ≤ LL ∧ Q (.str x) M
  | .int i => i.natAbs.log2 < 1920 ∧ Q (.str (tx (toString i))) M
  | _ => False
def wFmt (T : DTE) : DTE := fun σ M Q E => T σ M (fun d M1 => pFmt d M1 Q) E
theorem de_fmt {e : Expr} {Ta : DTE} {pos : Pos} (h : DE Z X W e Ta) : DE Z X W (.FormattedValue e (-1) none pos) (wFmt Ta) :=
  PE.imp (pe_fmt h) fun τ H Q ⟨F, σ, M, QD, ED, S, V0, hT, hQ, hE⟩ => ⟨F, σ, M, _, ED, S, V0, hT, fun F1 d v M1 H1 e1 V1 r1 q => by
    cases d with
    | str x =>
      cases r1.str_of
      exact .inl ⟨_, rfl, by rw [sv_len, LL_eq]; exact q.1, hQ F1 _ _ M1 H1 e1 V1 (.str _) q.2⟩
    | int i =>
      cases r1.int_of
      refine .inr ⟨_, rfl, q.1, ?_⟩
      have := hQ F1 _ _ M1 H1 e1 V1 (.str (tx (toString i))) q.2
      rw [sv_tx] at this
      exact this
    | _ => exact q.elim, hE⟩
/-- the parts' judgements -/
inductive DJ (Z : Zn) (X : Cx) (W : WX) : List Expr → List DTE → Prop where
  | nil : DJ Z X W [] []
  | cons {e : Expr} {t : DTE} {es : List Expr} {ts : List DTE} (h : DE Z X W e t) (r : DJ Z X W es ts) : DJ Z X W (e :: es) (t :: ts)
theorem DJ.pj : ∀ {es : List Expr} {ts : List DTE}, DJ Z X W es ts → PJ X es (ts.map (tOf Z W))
  | _, _, .nil => .nil
  | _, _, .cons h r => .cons h r.pj
def wJs : List DTE → Tx → DTE
  | [], acc => fun σ M Q E => Q (.str acc) M
  | t :: ts, acc => fun σ M Q E => t σ M (fun d M1 => ∃ y, d = .str y ∧ acc.length + y.length ≤ LL ∧ wJs ts (acc ++ y) σ M1 Q E) E
theorem wJs_ok : ∀ (ts : List DTE) (acc : Tx) (F H : Hp) (σ : SD) (τ : L2.St) (M : Hm) (QD : DK) (ED : DX) (Q : VK), SRel Z F σ τ → View Z F M H → wJs ts acc σ M QD ED → WQ Z F QD Q → WE Z W F τ ED → tJs (ts.map (tOf Z W)) (sv acc) τ H (fun out H1 => Q (.str out) H1)
  | [], acc, F, H, σ, τ, M, QD, ED, Q, S, V0, h, hQ, hE => hQ F _ _ M H Ext.rfl' V0 (.str acc) h
  | t :: ts, acc, F, H, σ, τ, M, QD, ED, Q, S, V0, h, hQ, hE => ⟨F, σ, M, _, ED, S, V0, h, fun F1 d v M1 H1 e1 V1 r1 ⟨y, hy, hl, q⟩ => by
    subst hy
    refine ⟨sv y, r1.str_of, ?_, ?_⟩
    · rw [sv_app, sv_len, List.length_append, LL_eq]; exact hl
    · rw [sv_app]
      exact wJs_ok ts (acc ++ y) F1 H1 σ τ M1 QD ED Q (S.ext e1) V1 q (hQ.ext e1) (hE.ext e1), hE⟩
theorem de_joined {v1 v2 : Expr} {rest : List Expr} {ts : List DTE} {pos : Pos} (h : DJ Z X W (v1 :: v2 :: rest) ts) : DE Z X W (.JoinedStr (v1 :: v2 :: rest) pos) (wJs ts []) :=
  PE.imp (pe_joined h.pj) fun τ H Q ⟨F, σ, M, QD, ED, S, V0, hT, hQ, hE⟩ => wJs_ok ts [] F H σ τ M QD ED Q S V0 hT hQ hE
theorem de_joined1 {e : Expr} {Ta : DTE} {pos : Pos} (h : DE Z X W e Ta) : DE Z X W (.JoinedStr [e] pos) Ta := pe_joined1 h
def wipeD (σ : SD) : List Nat → SD
  | [] => σ
  | v :: vs => (wipeD σ vs).set v none
theorem wipeD_length (σ : SD) : ∀ vs, (wipeD σ vs).length = σ.length
  | [] => rfl
  | v :: vs => by unfold wipeD; rw [List.length_set]; exact wipeD_length σ vs
theorem SRel.unset {F : Hp} {σ : SD} {τ : L2.St} (s : SRel Z F σ τ) (i : Nat) : SRel Z F (σ.set i none) (τ.set i none) := by
  refine ⟨by simp [s.len], fun j e h => ?_⟩
  by_cases q : i = j
  · subst q
    by_cases hl : i < σ.length
    · rw [List.getElem?_set_self hl] at h; cases h
    · rw [List.getElem?_eq_none (by simpa using hl)] at h; cases h
  · rw [List.getElem?_set_ne q] at h ⊢
    exact s.at_ j e h
theorem SRel.wipe {F : Hp} {σ : SD} {τ : L2.St} (s : SRel Z F σ τ) : ∀ vs, SRel Z F (wipeD σ vs) (wipe τ vs)
  | [] => s
  | v :: vs => (s.wipe vs).unset v
/-- a target that stores names of a block alone -/
def CG (Z : Zn) (X : Cx) (vs : List Nat) (gV : TG) (gD : DTG) : Prop := ∀ (F H : Hp) (M : Hm) (σ : SD) (τ : L2.St) (d : D) (v : V) (QD : SD → Hm → Prop) (ED : DX) (Q : L2.St → Hp → Prop), View Z F M H → SRel Z F σ τ → RD Z F d v → gD d σ M QD ED →
  (∀ σ' τ', SRel Z F σ' τ' → L2.wipe τ' vs = L2.wipe τ vs → QD σ' M → Q τ' H) → gV v τ H Q
theorem wipe_set {τ : L2.St} {i : Nat} {v : Option V} : ∀ {vs : List Nat}, i ∈ vs → L2.wipe (τ.set i v) vs = L2.wipe τ vs
  | [], h => by cases h
  | j :: vs, h => by
    show (L2.wipe (τ.set i v) vs).set j none = (L2.wipe τ vs).set j none
    by_cases q : i ∈ vs
    · rw [wipe_set q]
    · have hj : i = j := by
        rcases List.mem_cons.mp h with e | e
        · exact e
        · exact absurd e q
      subst hj
      have : ∀ ws : List Nat, i ∉ ws → L2.wipe (τ.set i v) ws = (L2.wipe τ ws).set i v := by
        intro ws hw
        induction ws with
        | nil => rfl
        | cons w ws ih =>
          have h1 : w ≠ i := fun e => hw (by rw [e]; exact List.mem_cons_self)
          have h2 : i ∉ ws := fun e => hw (List.mem_cons_of_mem _ e)
          show (L2.wipe (τ.set i v) ws).set w none = ((L2.wipe τ ws).set w none).set i v
          rw [ih h2, List.set_comm _ _ h1.symm]
      rw [this vs q, List.set_set]
theorem wipe_get (τ : L2.St) : ∀ (vs : List Nat) (i : Nat), (L2.wipe τ vs)[i]? = if i ∈ vs then (τ[i]?).map (fun _ => none) else τ[i]?
  | [], i => by simp [L2.wipe]
  | v :: vs, i => by
    show ((L2.wipe τ vs).set v none)[i]? = _
    by_cases q : v = i
    · subst q
      rw [if_pos List.mem_cons_self]
      by_cases hl : v < (L2.wipe τ vs).length
      · rw [List.getElem?_set_self hl]
        rw [L2.wipe_length] at hl
        rw [List.getElem?_eq_getElem hl]
        rfl
      · rw [List.getElem?_eq_none (by simpa using hl)]
        rw [L2.wipe_length] at hl
        rw [List.getElem?_eq_none (by simpa using hl)]
        rfl
    · rw [List.getElem?_set_ne q, wipe_get τ vs i]
      by_cases h : i ∈ vs
      · rw [if_pos h, if_pos (List.mem_cons_of_mem _ h)]
      · rw [if_neg h, if_neg (fun e => by rcases List.mem_cons.mp e with e | e; exact q e.symm; exact h e)]
theorem wipe_wipe (τ : L2.St) (vs : List Nat) : L2.wipe (L2.wipe τ vs) vs = L2.wipe τ vs := by
  apply List.ext_getElem?
  intro i
  rw [wipe_get, wipe_get]
  by_cases h : i ∈ vs
  · rw [if_pos h, if_pos h]
    cases τ[i]? <;> rfl
  · rw [if_neg h, if_neg h]
theorem cg_one {i : Nat} {vs : List Nat} (hi : i ∈ vs) : CG Z X vs (gName i) (wName i) := fun F H M σ τ d v QD ED Q V0 S r h hQ => hQ _ _ (S.set r i) (wipe_set hi) h
/-- the turns -/
def wCompL (G : DTG) (B : DTT) (Te : DTE) (vs : List Nat) (p : Addr) (st : Hm → Prop) (Q : Hm → Prop) : List D → SD → Hm → Prop
  | [], σ, M => st M ∧ Q M
  | x :: xs, σ, M => st M ∧ G x (wipeD σ vs) M (fun σ2 M2 => B σ2 M2 (fun b M3 => if b = true then Te σ2 M3 (fun y M4 => ∃ acc, M4 p = some (.lst acc) ∧ acc.length < LL ∧ wCompL G B Te vs p st Q xs σ (mup M4 p (.lst (acc ++ [y])))) (fun _ _ => False)
      else wCompL G B Te vs p st Q xs σ M3) (fun _ _ => False)) (fun _ _ => False)
def wComp (T : DTI) (G : DTG) (B : DTT) (Te : DTE) (vs : List Nat) : DTE := fun σ M Q E => T σ M (fun xs st M1 => ∀ p, M1 p = none → wCompL G B Te vs p st (Q (.ref p)) xs σ (mup M1 p (.lst []))) E
abbrev NX : WX := fun _ _ _ _ => False
theorem wComp_ok {T : DTI} {G : DTG} {gV : TG} {B : DTT} {Te : DTE} {vs : List Nat} (hg : CG Z X vs gV G) : ∀ τ H Q, tOf Z W (wComp T G B Te vs) τ H Q → tLc (iOf Z W T) gV (bOf Z NX B) (tOf Z NX Te) vs τ H Q := by
  rintro τ H Q ⟨F, σ, M, QD, ED, S, V0, hT, hQ, hE⟩
  refine ⟨F, σ, M, _, ED, S, V0, hT, fun G0 J xs st M1 H1 e0 V1 ⟨hgo, hst⟩ q p hp => ?_, hE⟩
  have q1 := q p (V1.free hp).1
  have V2 := V1.newL hp (ds := []) (vs := []) .nil
  refine ⟨fun i m H => m = xs.length - i ∧ ∃ G1 M2, Ext G0 G1 ∧ View Z G1 M2 H ∧ i ≤ xs.length ∧ wCompL G B Te vs p st (QD (.ref p)) (xs.drop i) σ M2, ⟨xs.length, rfl, G0, _, Ext.rfl', V2, Nat.zero_le _, q1⟩, ?_⟩
  rintro i m H2 ⟨rfl, G1, M2, e1, V3, hi', q2⟩
  by_cases hlt : i < xs.length
  · rw [List.drop_eq_getElem_cons hlt] at q2
    obtain ⟨s2, q3⟩ := q2
    obtain ⟨go, yl⟩ := hgo i xs[i] G1 H2 M2 e1 V3 s2 (List.getElem?_eq_getElem hlt)
    refine .inr ⟨go, _, fun _ z => z, fun x H3 y => ?_⟩
    obtain ⟨G2, e2, V4, r3⟩ := yl x H3 y
    have ee : Ext F G2 := (e0.trans e1).trans e2
    refine hg G2 H3 M2 (wipeD σ vs) (L2.wipe τ vs) xs[i] x _ _ _ V4 ((S.ext ee).wipe vs) r3 q3 fun σ' τ' S' hw q4 => ⟨?_, ?_⟩
    · rw [hw]
      exact wipe_wipe τ vs
    · refine ⟨G2, σ', M2, _, _, S', V4, q4, fun G3 b M3 H4 e3 V5 q5 => ?_, fun _ _ _ _ _ _ _ _ _ z => z.elim⟩
      cases b with
      | false => exact ⟨xs.length - (i + 1), by omega, rfl, G3, M3, (e1.trans e2).trans e3, V5, hlt, q5⟩
      | true =>
        refine ⟨G3, σ', M3, _, _, S'.ext e3, V5, q5, fun G4 d v M4 H5 e4 V6 r4 ⟨acc, ha, hl, q6⟩ => ?_, fun _ _ _ _ _ _ _ _ _ z => z.elim⟩
        obtain ⟨us, hu, ru⟩ := V6.lst ha
        refine ⟨us, hu, by rw [← ru.length, LL_eq]; exact hl, xs.length - (i + 1), by omega, rfl, G4, _, ((e1.trans e2).trans e3).trans e4, V6.put ha (show RM Z G4 (.lst (acc ++ [d])) (.lst (us ++ [v])) from ru.append (.cons r4 .nil)), hlt, q6⟩
  · have hi2 : i = xs.length := by omega
    subst hi2
    rw [List.drop_length] at q2
    obtain ⟨s2, q3⟩ := q2
    exact .inl ⟨hst G1 H2 M2 e1 V3 s2, hQ G1 _ _ M2 H2 (e0.trans e1) V3 (.ref p) q3⟩
end
end DL
namespace DL
open PySem PySem.Spec PyProof.Rows L2
section
variable {Z : Zn} {X : Cx} {W : WX} {k : Nat}
abbrev DTs (Z : Zn) (X : Cx) (W : WX) (ifs : List Expr) (B : DTT) : Prop := PTs X ifs (bOf Z W B)
def wYes : DTT := fun _ M Q _ => Q true M
theorem dts_nil : DTs Z X W [] wYes := ⟨fun pins s τ H Q I ⟨F, σ, M, QD, ED, S, V0, h, hQ, hE⟩ => pts_nil.run pins s τ H Q I (hQ F true M H Ext.rfl' V0 h)⟩
theorem dts_one {c : Expr} {B : DTT} (h : DB Z X W c B) : DTs Z X W [c] B := pts_one h
/-- within a comprehension's block nothing is let out -/
theorem takesN {X : Cx} : Takes X NX := fun _ _ x => by
  obtain ⟨_, _, _, _, _, _, _, _, _, _, _, _, _, _, _, _, z⟩ := x
  exact z.elim
theorem de_lc {elt tg iter : Expr} {ifs : List Expr} {scope : Scope} {own : List (Str × Nat)} {vs : List Nat} {pos : Pos} {T : DTI} {G : DTG} {gV : TG} {B : DTT} {Te : DTE} (hc : X.calm = true) (hN : X.N.Nodup) (hi : DI Z X W tg iter T) (ok : BlkOk X.N X.env.scope scope own) (hv : own.map (·.2) = vs) (hG : CG Z X vs gV G)
    (hg : ∀ (s : Shared) (H : Hp) (C : Addr) (cl : List (Str × Addr)) (fp : List Addr), PG (X.blk s H scope (compEnvC scope cl C X.env) fp) tg gV) (ht : ∀ (s : Shared) (H : Hp) (C : Addr) (cl : List (Str × Addr)) (fp : List Addr), DTs Z (X.blk s H scope (compEnvC scope cl C X.env) fp) NX ifs B)
    (he : ∀ (s : Shared) (H : Hp) (C : Addr) (cl : List (Str × Addr)) (fp : List Addr), DE Z (X.blk s H scope (compEnvC scope cl C X.env) fp) NX elt Te) (hs : ∀ x, foldedSetIterable iter X.env x = pure x) :
    DE Z X W (.ListComp elt [⟨tg, iter, ifs, 0⟩] scope pos) (wComp T G B Te vs) := by
  subst hv
  exact PE.imp (pe_lc hc hN hi ok hg ht he hs) (wComp_ok hG)
theorem ds_setLc {i : Nat} {y : Str} {py : Pos} {elt tg iter : Expr} {ifs : List Expr} {scope : Scope} {own : List (Str × Nat)} {vs : List Nat} {pos spos : Pos} {T : DTI} {G : DTG} {gV : TG} {B : DTT} {Te : DTE} (hc : X.calm = true) (hN : X.N.Nodup) (hy : X.N[i]? = some y) (hyl : X.env.scope.names.lookup y = some .local)
    (hsw : swapsWith (.ListComp elt [⟨tg, iter, ifs, 0⟩] scope pos) (some (.Name y py)) spos.line X.env = pure true) (hi : DI Z X W tg iter T) (ok : BlkOk X.N X.env.scope scope own) (hv : own.map (·.2) = vs) (hG : CG Z X vs gV G)
    (hg : ∀ (s : Shared) (H : Hp) (C : Addr) (cl : List (Str × Addr)) (fp : List Addr), PG (X.blk s H scope (compEnvC scope cl C X.env) fp) tg gV) (ht : ∀ (s : Shared) (H : Hp) (C : Addr) (cl : List (Str × Addr)) (fp : List Addr), DTs Z (X.blk s H scope (compEnvC scope cl C X.env) fp) NX ifs B)
    (he : ∀ (s : Shared) (H : Hp) (C : Addr) (cl : List (Str × Addr)) (fp : List Addr), DE Z (X.blk s H scope (compEnvC scope cl C X.env) fp) NX elt Te) (hs : ∀ x, foldedSetIterable iter X.env x = pure x) :
    DS Z X W (.Assign [.Name y py] (.ListComp elt [⟨tg, iter, ifs, 0⟩] scope pos) spos) (wAsg (wComp T G B Te vs) (wName i)) := by
  subst hv
  refine PS.imp (ps_setLc hc hN hy hyl hsw hi ok hg ht he hs) fun K τ H ⟨F, σ, M, KD, S, V, h, k⟩ => ?_
  exact wComp_ok hG τ H _ ⟨F, σ, M, _, _, S, V, h, fun G1 d v M1 H1 e v1 r q => k.nx G1 _ _ M1 H1 e ((S.ext e).set r i) v1 q, k.we S⟩
def wSetSl (To : DTE) (Tl Th : DTO) : DTG := fun d σ M Q E => To σ M (fun o M1 => Tl σ M1 (fun lo M2 => Th σ M2 (fun hi M3 => ∃ p b xs ys a c, o = .ref p ∧ d = .ref b ∧ p ≠ b ∧ M3 p = some (.lst xs) ∧ M3 b = some (.lst ys) ∧ lo = some a ∧ hi = some c ∧ 0 ≤ a ∧ a ≤ c ∧ c ≤ xs.length ∧ xs.length + ys.length ≤ LL ∧
  Q σ (mup M3 p (.lst (xs.take a.toNat ++ ys ++ xs.drop c.toNat)))) E) E) E
theorem pg_setSl {o : Expr} {lo hi : Option Expr} {p2 pos : Pos} {to : TE} {tl th : TO} (ho : PE X o to) (hl : PO X lo tl) (hh : PO X hi th)
    (ha : ∀ v, assign (.Subscript o (.Slice lo hi none p2) pos) X.env v = (do
      let ov ← holding [v] (eval o X.env)
      let iv ← holding [v, ov] (eval (.Slice lo hi none p2) X.env)
      standAt pos
      holding [v, ov, iv] (setItem ov iv v)
      release [iv, v, ov] [])) : PG X (.Subscript o (.Slice lo hi none p2) pos) (fun v σ H Q => to σ H fun x H1 => tl σ H1 fun l H2 => th σ H2 fun u H3 => ∃ p b xs ys a c, x = .ref p ∧ v = .ref b ∧ p ≠ b ∧ H3 p = some (.lst xs) ∧ H3 b = some (.lst ys) ∧ l = some a ∧ u = some c ∧ 0 ≤ a ∧ a ≤ c ∧ c ≤ xs.length ∧ xs.length + ys.length ≤ sizeLine ∧
      Q σ (upd H3 p (.lst (xs.take a.toNat ++ ys ++ xs.drop c.toNat)))) := by
  refine ⟨fun pins s σ H v u Q I r h => ?_⟩
  rw [ha]
  refine wpAny_bind (wpAny_holding (thn (ho.run pins s σ H _ I h) fun ov s1 ⟨x, H1, I1, r1, q1⟩ => ?_))
  refine wpAny_bind (wpAny_holding ?_)
  refine wpAny_Slice (thn (hl.run pins s1 σ H1 _ I1 q1) fun vl s2 ⟨l, H2, I2, pl, q2⟩ => thn (hh.run pins s2 σ H2 _ I2 q2) fun vu s3 ⟨w, H3, I3, pu, q3⟩ => ?_)
  rw [evalPart_none]
  refine wpAny_pure ?_
  have I4 : Inv X pins σ H3 { s3 with heap := s3.heap.push { cls := .type "slice", data := .fields #[vl, vu, .none] } } := I3.kept (t' := s3.toks) fun b ob q => Heap.get?_push_of_some _ q
  obtain ⟨p, b, xs, ys, a, c, rfl, rfl, hne, hp, hb, rfl, rfl, h0, hac, hcl, hz, q⟩ := q3
  cases r1
  cases r
  cases pl with
  | int a ta =>
    cases pu with
    | int c tc =>
      refine wpAny_bind (wpAny_standAt (wpAny_bind (wpAny_holding (set_slice (vl := .int a ta) (vu := .int c tc) I4 hp hb hne (Heap.IsSliceOf.new ..) ⟨ta, rfl⟩ ⟨tc, rfl⟩ h0 hac hcl hz fun s5 I5 => ?_))))
      exact wpAny_release ⟨σ, _, I5, q⟩
theorem dg_setSl {o : Expr} {lo hi : Option Expr} {p2 pos : Pos} {To : DTE} {Tl Th : DTO} (ho : DE Z X W o To) (hl : DO Z X W lo Tl) (hh : DO Z X W hi Th)
    (ha : ∀ v, assign (.Subscript o (.Slice lo hi none p2) pos) X.env v = (do
      let ov ← holding [v] (eval o X.env)
      let iv ← holding [v, ov] (eval (.Slice lo hi none p2) X.env)
      standAt pos
      holding [v, ov, iv] (setItem ov iv v)
      release [iv, v, ov] [])) : DG Z X W (.Subscript o (.Slice lo hi none p2) pos) (wSetSl To Tl Th) := by
  refine PG.imp (pg_setSl ho hl hh ha) fun v τ H Q ⟨F, σ, M, d, QD, ED, S, V0, r, h, hQ, hE⟩ => ?_
  refine ⟨F, σ, M, _, ED, S, V0, h, fun G1 x w M1 H1 e1 V1 r1 q1 => ⟨G1, σ, M1, _, ED, S.ext e1, V1, q1, fun G2 l M2 H2 e2 V2 q2 => ⟨G2, σ, M2, _, ED, (S.ext e1).ext e2, V2, q2, fun G3 u M3 H3 e3 V3 q3 => ?_, (hE.ext e1).ext e2⟩, hE.ext e1⟩, hE⟩
  obtain ⟨p, b, xs, ys, a, c, rfl, rfl, hne, hp, hb, rfl, rfl, h0, hac, hcl, hz, q⟩ := q3
  cases r1.ref_of
  cases r.ref_of
  obtain ⟨us, hu, ru⟩ := V3.lst hp
  obtain ⟨ws, hw, rw'⟩ := V3.lst hb
  refine ⟨p, b, us, ws, a, c, rfl, rfl, hne, hu, hw, rfl, rfl, h0, hac, by rw [← ru.length]; exact hcl, by rw [← ru.length, ← rw'.length, LL_eq]; exact hz, ?_⟩
  exact hQ G3 _ _ _ _ ((e1.trans e2).trans e3) (((S.ext e1).ext e2).ext e3) (V3.put hp (show RM Z G3 (.lst _) (.lst _) from ((ru.take _).append rw').append (ru.drop _))) q
def MtD (Z : Zn) (T : String) (r : V → List V → Hp → VK → Prop) (P : D → List D → Hm → DK → Prop) : Prop := ∀ (F H : Hp) (M : Hm) (d : D) (ds : List D) (v : V) (vs : List V) (QD : DK) (Q : VK), View Z F M H → RD Z F d v → RDs Z F ds vs → P d ds M QD → WQ Z F QD Q → r v vs H Q
/-- the receiver's type -/
def rcv (T : String) (d : D) (M : Hm) : Prop := match d with
  | .str _ => T = "str"
  | .ref a => T = "list" ∧ ∃ xs, Lz M a xs
  | _ => False
theorem rcv_ok (hz : Z.K = X.K) {T : String} {d : D} {v : V} {F H : Hp} {M : Hm} (V0 : View Z F M H) (r : RD Z F d v) (h : rcv T d M) : tyV X.K T v H := by
  cases d with
  | str x => cases r.str_of; exact h
  | ref a =>
    cases r.ref_of
    obtain ⟨h1, xs, hx⟩ := h
    obtain ⟨vs, hv, _⟩ := V0.lz hx
    exact .inl ⟨h1, vs, by rw [← hz]; exact hv⟩
  | _ => exact h.elim
def wMt (T : String) (P : D → List D → Hm → DK → Prop) (To : DTE) (Tr : DTA) : DTE := fun σ M Q E => To σ M (fun d M1 => rcv T d M1 ∧ Tr σ M1 (fun ds M2 => P d ds M2 Q) E) E
section
variable {o e : Expr} {es : List Expr} {To : DTE} {Tr : DTA} {name : Str} {apos cpos : Pos} {T id : String} {r : V → List V → Hp → VK → Prop} {P : D → List D → Hm → DK → Prop}
theorem de_mt (hz : Z.K = X.K) (pa : PlainAttrs T) (slot : Slot T name id) (hty : typeOf (.builtin id) = pure (.type "method_descriptor")) (hm : MtR X id r) (hP : MtD Z T r P) (ho : DE Z X W o To) (ha : DA Z X W (e :: es) Tr)
    (hbase : attributeBase o name X.env (eval o X.env) = eval o X.env)
    (hfew : ((backTo cpos (starEach (e :: es) X.env)).all (fun x => !x.1) && (backToKw cpos (keywordEach [] X.env)).all (fun x => x.1.isSome)
      && decide ((e :: es).length + ([] : List Keyword).length + (if ([] : List Keyword).isEmpty then 0 else 1) < 30)) = true)
    (hline : (apos.endLine == cpos.line) = true) (hs : starEach (e :: es) X.env = (false, eval e X.env) :: starEach es X.env) (hplain : (backTo cpos (starEach es X.env)).any (·.1) = false) :
    DE Z X W (.Call (.Attribute o name apos) (e :: es) [] cpos) (wMt T P To Tr) := by
  refine PE.imp (pe_bm pa slot hty hm ho ha hbase hfew hline hs hplain) fun τ H Q ⟨F, σ, M, QD, ED, S, V0, hT, hQ, hE⟩ => ?_
  refine ⟨F, σ, M, _, ED, S, V0, hT, fun F1 d v M1 H1 e1 V1 r1 ⟨hr, q1⟩ => ⟨rcv_ok hz V1 r1 hr, F1, σ, M1, _, ED, S.ext e1, V1, q1, fun F2 ds vs M2 H2 e2 V2 r2 q2 => ?_, hE.ext e1⟩, hE⟩
  exact hP F2 H2 M2 d ds v vs QD Q V2 (r1.ext e2) r2 q2 (hQ.ext (e1.trans e2))
def wMt0 (T : String) (P : D → List D → Hm → DK → Prop) (To : DTE) : DTE := fun σ M Q E => To σ M (fun d M1 => rcv T d M1 ∧ P d [] M1 Q) E
theorem de_mt0 (hz : Z.K = X.K) (pa : PlainAttrs T) (slot : Slot T name id) (hty : typeOf (.builtin id) = pure (.type "method_descriptor")) (hm : MtR X id r) (hP : MtD Z T r P) (ho : DE Z X W o To)
    (hbase : attributeBase o name X.env (eval o X.env) = eval o X.env) (hline : (apos.endLine == cpos.line) = true) : DE Z X W (.Call (.Attribute o name apos) [] [] cpos) (wMt0 T P To) := by
  refine PE.imp (pe_bm0 pa slot hty hm ho hbase hline) fun τ H Q ⟨F, σ, M, QD, ED, S, V0, hT, hQ, hE⟩ => ?_
  exact ⟨F, σ, M, _, ED, S, V0, hT, fun F1 d v M1 H1 e1 V1 r1 ⟨hr, q1⟩ => ⟨rcv_ok hz V1 r1 hr, hP F1 H1 M1 d [] v [] QD Q V1 r1 .nil q1 (hQ.ext e1)⟩, hE⟩
end
def pAppend (d : D) (ds : List D) (M : Hm) (Q : DK) : Prop := match d, ds with
  | .ref a, [y] => ∃ xs, M a = some (.lst xs) ∧ xs.length < LL ∧ Q .non (mup M a (.lst (xs ++ [y])))
  | _, _ => False
theorem md_append : MtD Z "list" rAppend pAppend := by
  intro F H M d ds v vs QD Q V0 r rs h hQ
  unfold pAppend at h
  split at h
  · cases r.ref_of
    obtain ⟨xs, hx, hl, q⟩ := h
    cases rs with | cons r1 t => cases t; exact (by
      obtain ⟨us, hu, ru⟩ := V0.lst hx
      exact ⟨_, us, _, rfl, rfl, hu, by rw [← ru.length, LL_eq]; exact hl, hQ F _ _ _ _ Ext.rfl' (V0.put hx (show RM Z F (.lst _) (.lst _) from ru.append (.cons r1 .nil))) .non q⟩)
  · exact h.elim
def pExtend (d : D) (ds : List D) (M : Hm) (Q : DK) : Prop := match d, ds with
  | .ref a, [.ref b] => ∃ xs ys, M a = some (.lst xs) ∧ M b = some (.lst ys) ∧ xs.length + ys.length ≤ LL ∧ Q .non (mup M a (.lst (xs ++ ys)))
  | _, _ => False
theorem md_extend : MtD Z "list" rExtend pExtend := by
  intro F H M d ds v vs QD Q V0 r rs h hQ
  unfold pExtend at h
  split at h
  · cases r.ref_of
    obtain ⟨xs, ys, hx, hy, hl, q⟩ := h
    cases rs with | cons r1 t => cases t; cases r1.ref_of; exact (by
      obtain ⟨us, hu, ru⟩ := V0.lst hx
      obtain ⟨ws, hw, rw'⟩ := V0.lst hy
      exact ⟨_, _, us, ws, rfl, rfl, hu, hw, by rw [← ru.length, ← rw'.length, LL_eq]; exact hl, hQ F _ _ _ _ Ext.rfl' (V0.put hx (show RM Z F (.lst _) (.lst _) from ru.append rw')) .non q⟩)
  · exact h.elim
def pPop (d : D) (ds : List D) (M : Hm) (Q : DK) : Prop := match d, ds with
  | .ref a, [] => ∃ xs y, M a = some (.lst xs) ∧ xs[xs.length - 1]? = some y ∧ Q y (mup M a (.lst xs.dropLast))
  | _, _ => False
theorem md_pop : MtD Z "list" rPop pPop := by
  intro F H M d ds v vs QD Q V0 r rs h hQ
  unfold pPop at h
  split at h
  · cases r.ref_of
    obtain ⟨xs, y, hx, hy, q⟩ := h
    cases rs
    obtain ⟨us, hu, ru⟩ := V0.lst hx
    obtain ⟨w, hw, rw'⟩ := ru.get hy
    exact ⟨_, us, w, rfl, rfl, hu, by rw [← ru.length]; exact hw, hQ F _ _ _ _ Ext.rfl' (V0.put hx (show RM Z F (.lst _) (.lst _) from ru.dropLast)) rw' q⟩
  · exact h.elim
/-- the first place of y in x -/
def idxT (x y : Tx) : Option Nat := (Builtin.Str.occurrences (sv x) (sv y) 0 (sv x).length 1).head?
def pSIndex (d : D) (ds : List D) (M : Hm) (Q : DK) : Prop := match d, ds with
  | .str x, [.str y] => ∃ i : Nat, idxT x y = some i ∧ Q (.int i) M
  | _, _ => False
theorem md_sindex : MtD Z "str" (fun x xs H Q => ∃ a b i rest, x = .str a ∧ xs = [.str b] ∧ Builtin.Str.occurrences a b 0 a.length 1 = i :: rest ∧ Q (.int (i : Nat)) H) pSIndex := by
  intro F H M d ds v vs QD Q V0 r rs h hQ
  unfold pSIndex at h
  split at h
  · cases r.str_of
    obtain ⟨i, hi, q⟩ := h
    cases rs with | cons r1 t => cases t; cases r1.str_of; exact (by
      unfold idxT at hi
      cases e : Builtin.Str.occurrences (sv _) (sv _) 0 (sv _).length 1 with
      | nil => rw [e] at hi; cases hi
      | cons j rest =>
        rw [e] at hi; cases hi
        exact ⟨_, _, _, _, rfl, rfl, e, hQ F _ _ M H Ext.rfl' V0 (.int _) q⟩)
  · exact h.elim
end
end DL
namespace DL
open PySem PySem.Spec PyProof.Rows L2
def Ar.up : Ar → Ar
  | .arg j => .arg (j + 1)
  | .dfl d => .dfl d
theorem arV_up {v : V} {vs : List V} : ∀ {ar : List Ar}, arV (ar.map Ar.up) (v :: vs) = arV ar vs := by
  intro ar
  unfold arV
  rw [List.map_map]
  refine List.map_congr_left fun a _ => ?_
  cases a <;> rfl
/-- C(..) with n places and the keywords ks: __init__'s parameters behind self by ar -/
structure ShapeC (K : PySem.W.Frag) (fd : FuncData) (ps : List Str) (n : Nat) (ks : List Str) (ar : List Ar) : Prop where
  ok : ar.all (Ar.ok (n + ks.length)) = true
  kb : ∃ g, KBn K fd ps (n + 1) ks g (fun vs zs => arV (.arg 0 :: ar.map Ar.up) (vs ++ zs))
section
variable {Z : Zn} {X : Cx} {W : WX} {k n : Nat} {f C : Addr} {fd : FuncData} {ps ks : List Str} {ar : List Ar} {S P : DSp} {x : Str} {p pos : Pos} {e : Expr} {es : List Expr} {kws : List Keyword} {Tr Tk : DTA}
/-- what a class's call comes to -/
def MkOk (Z : Zn) (C : Addr) (n : Nat) (S P : DSp) : Prop := ∀ (F H : Hp) (M : Hm) (ds : List D) (vs : List V) (W : WX) (τ : L2.St) (QD : DK) (ED : DX) (Q : VK), ds.length + 1 = n → View Z F M H → RDs Z F ds vs → P ds M QD ED → WQ Z F QD Q → WE Z W F τ ED →
  ∀ x dx, H x = none → H dx = none → dx ≠ x → spOf Z n S (.ref x :: vs) (upd (upd H dx (.own x)) x (.ins C dx [])) (fun v H2 => v = .non ∧ Q (.ref x) H2) (L2.WE W τ)
theorem mkF {c : String} (hc : c ∈ Z.cs) : MkOk Z (Z.ca c) n S (pMakeF c S) := fun F H M ds vs W τ QD ED Q hl V0 r h hQ hE => mk_frozen (W := W) hc hl V0 r h hQ hE
theorem mkM {c : String} (hc : c ∈ Z.cs) : MkOk Z (Z.ca c) n S (pMakeM c S) := fun F H M ds vs W τ QD ED Q hl V0 r h hQ hE => mk_mutable (W := W) hc hl V0 r h hQ hE
theorem wMk_ok (sh : ar.all (Ar.ok (n + ks.length)) = true) (hn : ar.length + 1 = ps.length) (mk : MkOk Z C ps.length S P) :
    ∀ τ H Q, tOf Z W (wCall n ks.length ar P Tr Tk) τ H Q → tCG (fun τ vs zs H Q => vs.length = n ∧ zs.length = ks.length ∧ ∀ x dx, H x = none → H dx = none → dx ≠ x →
      spOf Z ps.length S (arV (.arg 0 :: ar.map Ar.up) ((.ref x :: vs) ++ zs)) (upd (upd H dx (.own x)) x (.ins C dx [])) (fun v H2 => v = .non ∧ Q (.ref x) H2) (L2.WE W τ)) (aOf Z W Tr) (aOf Z W Tk) τ H Q :=
  wCG_ok (P := fun ds es M2 Q E => ds.length = n ∧ es.length = ks.length ∧ P (arD ar (ds ++ es)) M2 Q E) fun F H M ds es vs zs τ QD ED Q V0 r1 r2 ⟨l1, l2, q⟩ hQ hE => by
    refine ⟨r1.length.symm.trans l1, r2.length.symm.trans l2, ?_⟩
    have e : ∀ x : Addr, arV (.arg 0 :: ar.map Ar.up) ((.ref x :: vs) ++ zs) = .ref x :: arV ar (vs ++ zs) := fun x => by
      show (V.ref x) :: arV (ar.map Ar.up) (.ref x :: (vs ++ zs)) = _
      rw [arV_up]
    intro x dx h1 h2 h3
    rw [e]
    refine mk F H M (arD ar (ds ++ es)) _ W τ QD ED Q ?_ V0 (arRel (r1.append r2) (by rw [List.length_append, l1, l2]; exact sh)) q hQ hE x dx h1 h2 h3
    unfold arD
    rw [List.length_map]
    exact hn
theorem de_make (M : Mk X.K C f) (F : FnOk X.prog X.w X.K X.mg X.base (CX X.prog X.w) k f fd ps (spOf Z ps.length S)) (mk : MkOk Z C ps.length S P) (hr : Room (k + 1) X.A) (sh : ShapeC X.K fd ps n ks ar) (hn : ar.length + 1 = ps.length) (tk : Takes X W) (hg : Gl X x) (hm : X.mg x = some (.ref C))
    (ha : DA Z X W (e :: es) Tr) (hkw : DKw Z X W kws Tk)
    (hall : (backToKw pos (keywordEach kws X.env)).all (·.1.isSome) = true) (hks : (backToKw pos (keywordEach kws X.env)).filterMap (·.1) = ks)
    (hdb : (x == ("__debug__" : Str)) = false) (he : starEach (e :: es) X.env = (false, eval e X.env) :: starEach es X.env)
    (hpl : (backTo pos (starEach (e :: es) X.env)).any (·.1) = false) (hpk : (backToKw pos (keywordEach kws X.env)).any (·.1.isNone) = false) :
    DE Z X W (.Call (.Name x p) (e :: es) kws pos) (wCall n ks.length ar P Tr Tk) := by
  obtain ⟨g, hb⟩ := sh.kb
  exact PE.imp (pe_callG (callG_mk M F hr hb tk) hg hm M.kp ha hkw hall hks hdb he hpl hpk) (wMk_ok sh.ok hn mk)
theorem de_make0 (M : Mk X.K C f) (F : FnOk X.prog X.w X.K X.mg X.base (CX X.prog X.w) k f fd ps (spOf Z ps.length S)) (mk : MkOk Z C ps.length S P) (hr : Room (k + 1) X.A) (sh : ShapeC X.K fd ps n ks ar) (hn : ar.length + 1 = ps.length) (tk : Takes X W) (hg : Gl X x) (hm : X.mg x = some (.ref C))
    (hkw : DKw Z X W kws Tk)
    (hall : (backToKw pos (keywordEach kws X.env)).all (·.1.isSome) = true) (hks : (backToKw pos (keywordEach kws X.env)).filterMap (·.1) = ks)
    (hdb : (x == ("__debug__" : Str)) = false) (hpk : (backToKw pos (keywordEach kws X.env)).any (·.1.isNone) = false) :
    DE Z X W (.Call (.Name x p) [] kws pos) (wCall n ks.length ar P wNil Tk) := by
  obtain ⟨g, hb⟩ := sh.kb
  exact PE.imp (pe_callG0 (callG_mk M F hr hb tk) hg hm M.kp hkw hall hks hdb hpk) fun τ H Q h => wNil_imp τ H Q (wMk_ok sh.ok hn mk τ H Q h)
theorem pk_imp {X : Cx} {e : List Keyword} {t u : TA} (h : PK X e t) (i : ∀ σ H Q, u σ H Q → t σ H Q) : PK X e u := ⟨fun pos pins s σ H Q I q => h.run pos pins s σ H Q I (i σ H Q q)⟩
theorem dkw_cons {kpos : Pos} {nm : Option Str} {Ta : DTE} (ha : DE Z X W e Ta) (hr : DKw Z X W kws Tk) : DKw Z X W (⟨nm, e, kpos⟩ :: kws) (wCons Ta Tk) :=
  pk_imp (pk_cons ha hr) fun τ H Q ⟨F, σ, M, QD, ED, S, V0, h, hQ, hE⟩ => ⟨F, σ, M, _, ED, S, V0, h, fun F1 d1 v1 M1 H1 e1 V1 r1 q1 =>
    ⟨F1, σ, M1, _, ED, S.ext e1, V1, q1, fun F2 ds vs M2 H2 e2 V2 r2 q2 => hQ F2 _ _ M2 H2 (e1.trans e2) V2 (.cons (r1.ext e2) r2) q2, hE.ext e1⟩, hE⟩
theorem dkw_nil : DKw Z X W [] wNil := pk_imp pk_nil fun τ H Q ⟨F, σ, M, QD, ED, S, V, h, hQ, hE⟩ => hQ F [] [] M H Ext.rfl' V .nil h
end
def startD (N : List Str) (ds : List D) : SD := ds.map some ++ List.replicate (N.length - ds.length) none
def wBody (N : List Str) (T : DTS) : DSp := fun ds M Q E => T { nx := fun _ M' => ∃ M'', Sub M'' M' ∧ Q .non M'', rt := fun d M' => ∃ M'', Sub M'' M' ∧ Q d M'', ex := fun x _ M' => E x M' } (startD N ds) M
theorem srel_start {Z : Zn} {F : Hp} {N : List Str} {ds : List D} {vs : List V} (r : RDs Z F ds vs) : SRel Z F (startD N ds) (L2.start N vs) := by
  refine ⟨?_, fun i d h => ?_⟩
  · unfold startD L2.start
    rw [List.length_append, List.length_append, List.length_map, List.length_map, List.length_replicate, List.length_replicate, r.length]
  · unfold startD at h
    unfold L2.start
    by_cases hi : i < ds.length
    · rw [List.getElem?_append_left (by simpa using hi), List.getElem?_map] at h
      cases e : ds[i]? with
      | none => rw [e] at h; cases h
      | some d' =>
        rw [e] at h; cases h
        obtain ⟨v, h1, h2⟩ := r.get e
        have hi2 : i < vs.length := by rw [← r.length]; exact hi
        exact ⟨v, by rw [List.getElem?_append_left (by simpa using hi2), List.getElem?_map, h1]; rfl, h2⟩
    · rw [List.getElem?_append_right (by simpa using hi), List.getElem?_replicate] at h
      split at h <;> cases h
section
variable {P : Program} {w : World} {K : PySem.W.Frag} {mg : Str → Option Value} {base : Heap} {x qual : Str} {params : Arguments} {body : List Stmt} {scope : Scope} {dvs : List V} {kws : List (Str × V)} {f : Addr} {fd : FuncData} {Z : Zn} {N ps : List Str} {k : Nat} {T : DTS}
theorem fn_d (F : FunD K x qual params body scope dvs kws f fd) (S : FnScope N ps scope)
    (h : ∀ (cdv : Value) (A : Around) (outer : List Env) (s : Shared) (H : Hp) (E : XK), Room k (cxOf (CX P w) P w K mg base N qual scope f cdv A outer s H E).A → Takes (cxOf (CX P w) P w K mg base N qual scope f cdv A outer s H E) (fun cls d _ H => E cls d H) →
      PassesOwn (model P w) (cxOf (CX P w) P w K mg base N qual scope f cdv A outer s H E).A (cxOf (CX P w) P w K mg base N qual scope f cdv A outer s H E).env (cxOf (CX P w) P w K mg base N qual scope f cdv A outer s H E).xe →
      DSs Z (cxOf (CX P w) P w K mg base N qual scope f cdv A outer s H E) (fun cls d _ H => E cls d H) body T) :
    FnOk P w K mg base (CX P w) (k + 1) f fd ps (spOf Z ps.length (wBody N T)) := by
  refine F.ok S (fun vs H Q E q => q.len) fun cdv A outer s H vs Q E hr q => ⟨_, h cdv A outer s H E hr (takes_of rfl rfl rfl rfl) (passes_of (K := fun e s'' => CX P w outer H s E e s'') rfl), ?_⟩
  obtain ⟨F, ds, M, QD, ED, hl, r, V0, q, hQ, hE⟩ := q
  refine ⟨F, startD N ds, M, _, srel_start r, V0, q, ⟨fun G σ τ M' H' e s v ⟨M'', hs, q⟩ => hQ G .non .non M'' H' e (v.less hs) .non q, fun G d v M' H' e vw r ⟨M'', hs, q⟩ => hQ G d v M'' H' e (vw.less hs) r q, fun _ _ _ _ _ _ _ _ z => z.elim, fun _ _ _ _ _ _ _ _ z => z.elim, fun G x cv dct σ τ M' H' e s v rx q => hE G x cv dct M' H' e v rx q⟩⟩
end
end DL
namespace DL
open PySem PySem.Spec PyProof.Rows L2
def arB {α : Type} (z : α) (ar : List (Sum Nat Nat)) (xs ds : List α) : List α := ar.map fun | .inl j => xs.getD j z | .inr i => ds.getD i z
theorem vals_getD {vs : List V} {us : List Value} (r : Vals vs us) (j : Nat) : RelV (vs.getD j .non) (us.getD j .none) := by
  rw [List.getD_eq_getElem?_getD, List.getD_eq_getElem?_getD]
  cases e : vs[j]? with
  | none => rw [r.none_of e]; rfl
  | some v =>
    obtain ⟨u, h1, h2⟩ := r.get e
    rw [h1]; exact h2
theorem arB_rel {vs ds : List V} {us es : List Value} (r : Vals vs us) (rd : Vals ds es) : ∀ {ar : List (Sum Nat Nat)}, Vals (arB .non ar vs ds) (arB .none ar us es)
  | [] => .nil
  | .inl j :: ar => .cons (vals_getD r j) (arB_rel r rd (ar := ar))
  | .inr j :: ar => .cons (vals_getD rd j) (arB_rel r rd (ar := ar))
section
variable {K : PySem.W.Frag} {x qual : Str} {params : Arguments} {body : List Stmt} {scope : Scope} {dvs : List V} {kws : List (Str × V)} {f : Addr} {fd : FuncData} {ps ks : List Str} {n : Nat} {ar : List Ar} {br : List (Sum Nat Nat)}
theorem shapeN (F : FunD K x qual params body scope [] kws f fd) (ok : ar.all (Ar.ok (n + ks.length)) = true) (he : ∀ xs : List V, arV ar xs = arB .non br xs [])
    (h : ∀ (kV doc pm : Value) (an : Option Addr) (cdv ct : Value) (us ws : List Value), us.length = n → ws.length = ks.length →
      bindArgs (PySem.W.fnOf x qual params body scope .none kV doc pm an cdv ct) ⟨us, ks.zip ws⟩ = pure (ps.zip (arB .none br (us ++ ws) []))) : Shape K fd ps n ks ar := by
  refine ⟨ok, ?_⟩
  obtain ⟨oc, od, dV, kV, doc, pm, an, cdv, ct, osl, rfl, lk, hcd, hD, hK⟩ := F.ex
  rcases hD with ⟨_, rfl⟩ | ⟨e, _⟩
  · refine ⟨fun us ws => arB .none br (us ++ ws) [], ⟨fun s us ws X l1 l2 => .of_eq (h kV doc pm an cdv ct us ws l1 l2), fun {vs us zs ws} r1 r2 => ?_⟩⟩
    show Vals (arV ar (vs ++ zs)) _
    rw [he]
    exact arB_rel (r1.append r2) .nil
  · exact absurd rfl e
theorem shapeD (F : FunD K x qual params body scope dvs kws f fd) (hd : dvs ≠ []) (ok : ar.all (Ar.ok (n + ks.length)) = true) (he : ∀ xs : List V, arV ar xs = arB .non br xs dvs)
    (h : ∀ (T : Addr) (kV doc pm : Value) (an : Option Addr) (cdv ct : Value) (us its ws : List Value), us.length = n → its.length = dvs.length → ws.length = ks.length →
      ∃ k, bindArgs (PySem.W.fnOf x qual params body scope (.ref T) kV doc pm an cdv ct) ⟨us, ks.zip ws⟩ = seqItems? (.ref T) >>= k ∧ k (some its.toArray) = pure (ps.zip (arB .none br (us ++ ws) its))) : Shape K fd ps n ks ar := by
  refine ⟨ok, ?_⟩
  obtain ⟨oc, od, dV, kV, doc, pm, an, cdv, ct, osl, rfl, lk, hcd, hD, hK⟩ := F.ex
  rcases hD with ⟨e, _⟩ | ⟨_, T, o, its, m, rfl, lT, oT, rT⟩
  · exact absurd e hd
  · refine ⟨fun us ws => arB .none br (us ++ ws) its, ⟨fun s us ws X l1 l2 => ?_, fun {vs us zs ws} r1 r2 => ?_⟩⟩
    · obtain ⟨k, e1, e2⟩ := h T kV doc pm an cdv ct us its ws l1 rT.length.symm l2
      refine BindsTo.of_looks fun M => ?_
      rw [e1]
      exact looks_items X lT oT (.of_pure e2)
    · show Vals (arV ar (vs ++ zs)) _
      rw [he]
      exact arB_rel (r1.append r2) rT
/-- with defaults, all places written -/
theorem shapeC (h : Shape K fd ps (n + 1) ks (.arg 0 :: ar.map Ar.up)) (ok : ar.all (Ar.ok (n + ks.length)) = true) : ShapeC K fd ps n ks ar := ⟨ok, h.kb⟩
end
/-- the promise i levels below k -/
def Gh {Fn : Type} (step : (Nat → Fn → DSp) → Nat → Fn → DSp) : Nat → Nat → Fn → DSp
  | 0 => fun _ _ => botS
  | k + 1 => fun i => match i with
    | 0 => step (Gh step k) k
    | i + 1 => Gh step k i
theorem Gh_zero {Fn : Type} {step : (Nat → Fn → DSp) → Nat → Fn → DSp} (k i : Nat) : Gh step (k + 1) (i + 1) = Gh step k i := rfl
theorem Gh_low {Fn : Type} {step : (Nat → Fn → DSp) → Nat → Fn → DSp} : ∀ (k i : Nat) (h : k ≤ i), Gh step k i = fun _ => botS
  | 0, _, _ => rfl
  | k + 1, 0, h => absurd h (by omega)
  | k + 1, i + 1, h => Gh_low k i (by omega)
theorem Gh_at {Fn : Type} {step : (Nat → Fn → DSp) → Nat → Fn → DSp} : ∀ (k i : Nat), Gh step (k + i) i = Gh step k 0
  | k, 0 => rfl
  | k, i + 1 => Gh_at k i
theorem fn_bot {P : Program} {w : World} {K : PySem.W.Frag} {mg : Str → Option Value} {base : Heap} {Z : Zn} {k n : Nat} {f : Addr} {fd : FuncData} {ps : List Str} (hn : ps.length = n) : FnOk P w K mg base (CX P w) k f fd ps (spOf Z n botS) :=
  ⟨fun vs H Q E ⟨_, _, _, _, _, _, _, _, z, _⟩ => z.elim, fun A outer s H args us vs Q E hr he hb hv ⟨_, _, _, _, _, _, _, _, z, _⟩ => z.elim⟩
def wOut : DTS := fun _ _ _ => False
theorem ds_out {Z : Zn} {X : Cx} {W : WX} {st : Stmt} : DS Z X W st wOut := ⟨fun pins s τ H K I ⟨F, σ, M, KD, S, V, h, k⟩ => h.elim⟩
def wOutE : DTE := fun _ _ _ _ => False
theorem de_out {Z : Zn} {X : Cx} {W : WX} {e : Expr} : DE Z X W e wOutE := ⟨fun pins s τ H K I ⟨F, σ, M, KD, ED, S, V, h, k⟩ => h.elim⟩
theorem de_glo {Z : Zn} {X : Cx} {W : WX} {x : Str} {v : V} {d : D} {u : Value} {pos : Pos} (hg : Gl X x) (hm : X.mg x = some u) (r : RelV v u) (hd : (x == ("__debug__" : Str)) = false) (rd : ∀ F, RD Z F d v) : DE Z X W (.Name x pos) (wC d) := de_const (pe_glob hg hm r hd) rd
end DL
namespace DL
open PySem PySem.Spec PyProof.Rows L2
/-- what stands around a body: the room, the way out, == -/
structure Ct (Z : Zn) (X : Cx) (W : WX) (k : Nat) : Prop where
  hz : Z.K = X.K
  hr : Room (k + 3) X.A
  tk : Takes X W
  eq : EqAll Z X (k + 3)
  ne : ∀ c ∈ Z.es, NeCls Z X c
  isi : IsiF Z X
  calm : X.calm = true
  nd : X.N.Nodup
  po : PassesOwn (model X.prog X.w) X.A X.env X.xe
theorem EqAll.mono {Z : Zn} {X : Cx} {n m : Nat} (h : EqAll Z X n) (l : m ≤ n) : EqAll Z X m := ⟨h.cls, fun c hc j hj => h.dfn c hc j (Nat.le_trans hj l), h.inj⟩
theorem EqAll.to {Z : Zn} {X Y : Cx} {n : Nat} (h : EqAll Z X n) (e1 : X.K = Y.K) (e2 : X.prog = Y.prog) (e3 : X.w = Y.w) (e4 : X.mg = Y.mg) (e5 : X.base = Y.base) : EqAll Z Y n := by
  refine ⟨fun c hc => ?_, fun c hc j hj => ?_, h.inj⟩
  · have q := h.cls c hc
    exact ⟨q.mem, fun T hT => by rw [← e1]; exact q.mro T hT, fun T hT => by rw [← e1]; exact q.ty T hT, fun d hd => by rw [← e1]; exact q.own d hd⟩
  · have q := h.dfn c hc j hj
    unfold EqDef at q ⊢
    rw [← e1, ← e2, ← e3, ← e4, ← e5]
    exact q
section
variable {Z : Zn} {X : Cx} {W : WX} {k : Nat}
/-- within a comprehension's block -/
theorem Ct.blk (c : Ct Z X W k) (s : Shared) (H : Hp) (scope : Scope) (cenv : Env) (fp : List Addr) : Ct Z (X.blk s H scope cenv fp) NX k :=
  ⟨c.hz, c.hr, takesN, c.eq.to rfl rfl rfl rfl rfl, fun d hd => ⟨(c.ne d hd).ob, (c.ne d hd).ne⟩, ⟨c.isi.tt, c.isi.to_, c.isi.ot, c.isi.oo, c.isi.cl, c.isi.gt⟩, c.calm, c.nd, PassesOwn.never⟩
variable {e a b d tg iter : Expr} {es : List Expr} {pos p p2 : Pos} {x y : Str} {Ta Tb Td : DTE} {Tr Tk : DTA} {i : Nat} {S1 S2 : DTS} {st : Stmt} {sts : List Stmt}
theorem qv (i : Nat) (hN : X.N[i]? = some x := by rfl) (hv : Vis X.env.scope x := by first | exact Or.inl rfl | exact Or.inr (Or.inl rfl) | exact Or.inr (Or.inr rfl)) (hd : (x == ("__debug__" : Str)) = false := by decide) (hcd : (x == ("__classdict__" : Str)) = false := by decide) : DE Z X W (.Name x pos) (wVar i) := de_var hN hv hd hcd
theorem qs (s : String) {j : Nat} (h : Str.ofString s = x := by rfl) : DE Z X W (.Constant (.str x) j pos) (wC (.str (tx s))) := de_str h
theorem qg {v : V} {u : Value} {d : D} (hm : X.mg x = some u) (r : RelV v u) (rd : ∀ F, RD Z F d v) (hg : Gl X x := by rfl) (hd : (x == ("__debug__" : Str)) = false := by decide) : DE Z X W (.Name x pos) (wC d) := de_glo hg hm r hd rd
theorem qadd (c : Ct Z X W k) (ha : DE Z X W a Ta) (hb : DE Z X W b Tb) : DE Z X W (.BinOp a .Add b pos) (w2 pAdd Ta Tb) := de_bin (r := rAddA Z.K) (by rw [c.hz]; exact op_addA) ref_add ha hb
theorem qsub (ha : DE Z X W a Ta) (hb : DE Z X W b Tb) : DE Z X W (.BinOp a .Sub b pos) (w2 pSub Ta Tb) := de_bin op_sub ref_sub ha hb
theorem qmul (ha : DE Z X W a Ta) (hb : DE Z X W b Tb) : DE Z X W (.BinOp a .Mult b pos) (w2 pMul Ta Tb) := de_bin op_mul ref_mul ha hb
theorem qdiv (ha : DE Z X W a Ta) (hb : DE Z X W b Tb) : DE Z X W (.BinOp a .FloorDiv b pos) (w2 pFdiv Ta Tb) := de_bin op_fdiv ref_fdiv ha hb
theorem qmod (ha : DE Z X W a Ta) (hb : DE Z X W b Tb) : DE Z X W (.BinOp a .Mod b pos) (w2 pMod Ta Tb) := de_bin op_mod ref_mod ha hb
theorem qpow (ha : DE Z X W a Ta) (hb : DE Z X W b Tb) : DE Z X W (.BinOp a .Pow b pos) (w2 pPow Ta Tb) := de_bin op_pow ref_pow ha hb
theorem oEq (c : Ct Z X W k) : OpR X (compareOp .Eq) (rOf Z (pEq Z.es (k + 3) false)) := op_eqO c.eq c.hz c.tk c.hr
theorem oNe (c : Ct Z X W k) : OpR X (compareOp .NotEq) (rOf Z (pNe Z.es (k + 2))) := op_neO (c.eq.mono (by omega)) c.ne c.hz c.tk c.hr
theorem oIn (c : Ct Z X W k) : OpR X (compareOp .In) (rOf Z (pIn Z.es (k + 2) false)) := op_inO (neg := false) (c.eq.mono (by omega)) c.hz c.tk c.hr
theorem oNotIn (c : Ct Z X W k) : OpR X (compareOp .NotIn) (rOf Z (pIn Z.es (k + 2) true)) := op_inO (neg := true) (c.eq.mono (by omega)) c.hz c.tk c.hr
theorem oI {op : CmpOp} {p : Int → Int → Bool} (h : OpR X (compareOp op) (rI0 fun i j => .bl (p i j))) : OpR X (compareOp op) (rOf Z (pCmpI p)) := by
  rintro pins s τ H x y v u Q I rx ry ⟨F, M, d, e, QD, V0, r1, r2, q, hQ⟩
  exact h pins s τ H x y v u Q I rx ry (ref_cmpI F H M d e x y QD Q V0 r1 r2 q hQ)
theorem oIsN : OpR X (compareOp .Is) (rOf Z pIsN) := by
  rintro pins s τ H x y v u Q I rx ry ⟨F, M, d, e, QD, V0, r1, r2, q, hQ⟩
  exact op_isN pins s τ H x y v u Q I rx ry (ref_isN F H M d e x y QD Q V0 r1 r2 q hQ)
theorem oNotN : OpR X (compareOp .IsNot) (rOf Z pNotN) := by
  rintro pins s τ H x y v u Q I rx ry ⟨F, M, d, e, QD, V0, r1, r2, q, hQ⟩
  exact op_notN pins s τ H x y v u Q I rx ry (ref_notN F H M d e x y QD Q V0 r1 r2 q hQ)
theorem qcmp {op : CmpOp} {P : D → D → Hm → DK → Prop} (ho : OpR X (compareOp op) (rOf Z P)) (ha : DE Z X W a Ta) (hb : DE Z X W b Tb) (hm : behindInMarks op b = false := by rfl) : DE Z X W (.Compare a [op] [b] pos) (w2 P Ta Tb) := de_cmp ho ref_of ha hb hm
theorem tcmp {op : CmpOp} {P : D → D → Hm → DK → Prop} (ho : OpR X (compareOp op) (rOf Z P)) (ha : DE Z X W a Ta) (hb : DE Z X W b Tb) (hm : behindInMarks op b = false := by rfl) : DB Z X W (.Compare a [op] [b] pos) (wB (w2 P Ta Tb)) := db_cmp ho ref_of ha hb hm
theorem tval {T : DTE} (h : DE Z X W e T) (he : ∀ whole, isTrue e X.env whole = (do let v ← whole; standAt e.pos; holding [v] (truthy v)) := by intro _; rfl) : DB Z X W e (wB T) := db_val h he
theorem ac (ha : DE Z X W e Ta) (hr : DA Z X W es Tr) (hs : starEach (e :: es) X.env = (false, eval e X.env) :: starEach es X.env := by rfl) : DA Z X W (e :: es) (wCons Ta Tr) := da_cons ha hr hs
theorem qix (c : Ct Z X W k) (ha : DE Z X W a Ta) (hb : DE Z X W b Tb) (hs : PlainIx b := by intro _ _; rfl) : DE Z X W (.Subscript a b pos) (w2 pIdx Ta Tb) := de_idx c.hz ha hb hs
theorem qat {fields : List String} (f : String) (c : Ct Z X W k) (C : Clz Z fields) (hf : f ∈ fields) (h : DE Z X W e Ta) (hx : Str.ofString f = x := by rfl) (hb : attributeBase e x X.env (eval e X.env) = eval e X.env := by rfl) : DE Z X W (.Attribute e x pos) (wAttr Ta f) := de_attr c.hz C hf hx h hb
theorem qsl {lo hi : Option Expr} {Tl Th : DTO} (c : Ct Z X W k) (ha : DE Z X W a Ta) (hl : DO Z X W lo Tl) (hh : DO Z X W hi Th) : DE Z X W (.Subscript a (.Slice lo hi none p2) pos) (wSlice Ta Tl Th) := de_slice c.hz ha hl hh
theorem qB {id : String} {P : List D → Hm → DK → DX → Prop} (hm : X.mg x = none) (hv : bootBuiltins x = some (.builtin id)) (hc : CallD Z X W (.builtin id) P) (ha : DA Z X W (e :: es) Tr)
    (hg : Gl X x := by rfl) (hn : x ≠ "__name__" := by decide) (hdb : (x == ("__debug__" : Str)) = false := by decide) (he : starEach (e :: es) X.env = (false, eval e X.env) :: starEach es X.env := by rfl) (hpl : (backTo pos (starEach es X.env)).any (·.1) = false := by rfl) : DE Z X W (.Call (.Name x p) (e :: es) [] pos) (wCallP P Tr) := de_callB hc hg hm hv ha hn hdb he hpl
theorem qT {id : String} {P : List D → Hm → DK → DX → Prop} (hm : X.mg x = none) (hv : bootBuiltins x = some (.type id)) (hc : CallD Z X W (.type id) P) (ha : DA Z X W (e :: es) Tr)
    (hg : Gl X x := by rfl) (hn : x ≠ "__name__" := by decide) (hdb : (x == ("__debug__" : Str)) = false := by decide) (he : starEach (e :: es) X.env = (false, eval e X.env) :: starEach es X.env := by rfl) (hpl : (backTo pos (starEach es X.env)).any (·.1) = false := by rfl) : DE Z X W (.Call (.Name x p) (e :: es) [] pos) (wCallP P Tr) := de_callT hc hg hm hv ha hn hdb he hpl
theorem qis {own : Bool} {n : String} (c : Ct Z X W k) (hcl : if own then n ∈ Z.cs else n ∈ plainTs) (hm : X.mg x = none) (hv : bootBuiltins x = some (.builtin "isinstance")) (ha : DE Z X W a Ta) (hy : PE X (.Name y p2) (tC (if own then .ref (Z.ca n) else .ty n)))
    (hg : Gl X x := by rfl) (hn : x ≠ "__name__" := by decide) (hdb : (x == ("__debug__" : Str)) = false := by decide) (he : starEach [a, .Name y p2] X.env = (false, eval a X.env) :: starEach [.Name y p2] X.env := by rfl) (he2 : starEach [.Name y p2] X.env = (false, eval (.Name y p2) X.env) :: starEach [] X.env := by rfl) (hpl : (backTo pos (starEach [.Name y p2] X.env)).any (·.1) = false := by rfl) :
    DE Z X W (.Call (.Name x p) [a, .Name y p2] [] pos) (wIsi own n Ta) := de_isi c.isi c.hz hcl hg hm hv ha hy hn hdb he he2 hpl
section
variable {n : Nat} {f C : Addr} {fd : FuncData} {ps ks : List Str} {ar : List Ar} {S P : DSp} {kws : List Keyword} {j : Nat}
theorem qcall (c : Ct Z X W k) (F : FnOk X.prog X.w X.K X.mg X.base (CX X.prog X.w) (k + 3) f fd ps (spOf Z ps.length S)) (hm : X.mg x = some (.ref f)) (hk : PySem.W.keepIn X.K (.ref f) = true) (sh : Shape X.K fd ps n ks ar) (hn : ar.length = ps.length) (ha : DA Z X W (e :: es) Tr) (hkw : DKw Z X W kws Tk) (hg : Gl X x := by rfl)
    (hall : (backToKw pos (keywordEach kws X.env)).all (·.1.isSome) = true := by rfl) (hks : (backToKw pos (keywordEach kws X.env)).filterMap (·.1) = ks := by rfl)
    (hdb : (x == ("__debug__" : Str)) = false := by decide) (he : starEach (e :: es) X.env = (false, eval e X.env) :: starEach es X.env := by rfl)
    (hpl : (backTo pos (starEach (e :: es) X.env)).any (·.1) = false := by rfl) (hpk : (backToKw pos (keywordEach kws X.env)).any (·.1.isNone) = false := by rfl) :
    DE Z X W (.Call (.Name x p) (e :: es) kws pos) (wCall n ks.length ar S Tr Tk) := de_call F c.hr sh hn c.tk hg hm hk ha hkw hall hks hdb he hpl hpk
theorem qcall0 (c : Ct Z X W k) (F : FnOk X.prog X.w X.K X.mg X.base (CX X.prog X.w) (k + 3) f fd ps (spOf Z ps.length S)) (hm : X.mg x = some (.ref f)) (hk : PySem.W.keepIn X.K (.ref f) = true) (sh : Shape X.K fd ps n ks ar) (hn : ar.length = ps.length) (hkw : DKw Z X W kws Tk) (hg : Gl X x := by rfl)
    (hall : (backToKw pos (keywordEach kws X.env)).all (·.1.isSome) = true := by rfl) (hks : (backToKw pos (keywordEach kws X.env)).filterMap (·.1) = ks := by rfl)
    (hdb : (x == ("__debug__" : Str)) = false := by decide) (hpk : (backToKw pos (keywordEach kws X.env)).any (·.1.isNone) = false := by rfl) :
    DE Z X W (.Call (.Name x p) [] kws pos) (wCall n ks.length ar S wNil Tk) := de_call0 F c.hr sh hn c.tk hg hm hk hkw hall hks hdb hpk
theorem qmake (c : Ct Z X W k) (M : Mk X.K C f) (mk : MkOk Z C ps.length S P) (F : FnOk X.prog X.w X.K X.mg X.base (CX X.prog X.w) (k + 2) f fd ps (spOf Z ps.length S)) (hm : X.mg x = some (.ref C)) (sh : ShapeC X.K fd ps n ks ar) (hn : ar.length + 1 = ps.length) (ha : DA Z X W (e :: es) Tr) (hkw : DKw Z X W kws Tk) (hg : Gl X x := by rfl)
    (hall : (backToKw pos (keywordEach kws X.env)).all (·.1.isSome) = true := by rfl) (hks : (backToKw pos (keywordEach kws X.env)).filterMap (·.1) = ks := by rfl)
    (hdb : (x == ("__debug__" : Str)) = false := by decide) (he : starEach (e :: es) X.env = (false, eval e X.env) :: starEach es X.env := by rfl)
    (hpl : (backTo pos (starEach (e :: es) X.env)).any (·.1) = false := by rfl) (hpk : (backToKw pos (keywordEach kws X.env)).any (·.1.isNone) = false := by rfl) :
    DE Z X W (.Call (.Name x p) (e :: es) kws pos) (wCall n ks.length ar P Tr Tk) := de_make M F mk c.hr sh hn c.tk hg hm ha hkw hall hks hdb he hpl hpk
theorem qmake0 (c : Ct Z X W k) (M : Mk X.K C f) (mk : MkOk Z C ps.length S P) (F : FnOk X.prog X.w X.K X.mg X.base (CX X.prog X.w) (k + 2) f fd ps (spOf Z ps.length S)) (hm : X.mg x = some (.ref C)) (sh : ShapeC X.K fd ps n ks ar) (hn : ar.length + 1 = ps.length) (hkw : DKw Z X W kws Tk) (hg : Gl X x := by rfl)
    (hall : (backToKw pos (keywordEach kws X.env)).all (·.1.isSome) = true := by rfl) (hks : (backToKw pos (keywordEach kws X.env)).filterMap (·.1) = ks := by rfl)
    (hdb : (x == ("__debug__" : Str)) = false := by decide) (hpk : (backToKw pos (keywordEach kws X.env)).any (·.1.isNone) = false := by rfl) :
    DE Z X W (.Call (.Name x p) [] kws pos) (wCall n ks.length ar P wNil Tk) := de_make0 M F mk c.hr sh hn c.tk hg hm hkw hall hks hdb hpk
end
theorem qmt {T id : String} {o : Expr} {name : Str} {apos cpos : Pos} {r : V → List V → Hp → VK → Prop} {P : D → List D → Hm → DK → Prop} (c : Ct Z X W k) (pa : PlainAttrs T) (slot : Slot T name id) (hty : typeOf (.builtin id) = pure (.type "method_descriptor")) (hm : MtR X id r) (hP : MtD Z T r P) (ho : DE Z X W o Ta) (ha : DA Z X W (e :: es) Tr)
    (hbase : attributeBase o name X.env (eval o X.env) = eval o X.env := by rfl)
    (hfew : ((backTo cpos (starEach (e :: es) X.env)).all (fun x => !x.1) && (backToKw cpos (keywordEach [] X.env)).all (fun x => x.1.isSome)
      && decide ((e :: es).length + ([] : List Keyword).length + (if ([] : List Keyword).isEmpty then 0 else 1) < 30)) = true := by rfl)
    (hline : (apos.endLine == cpos.line) = true := by rfl) (hs : starEach (e :: es) X.env = (false, eval e X.env) :: starEach es X.env := by rfl) (hplain : (backTo cpos (starEach es X.env)).any (·.1) = false := by rfl) :
    DE Z X W (.Call (.Attribute o name apos) (e :: es) [] cpos) (wMt T P Ta Tr) := de_mt c.hz pa slot hty hm hP ho ha hbase hfew hline hs hplain
theorem qmt0 {T id : String} {o : Expr} {name : Str} {apos cpos : Pos} {r : V → List V → Hp → VK → Prop} {P : D → List D → Hm → DK → Prop} (c : Ct Z X W k) (pa : PlainAttrs T) (slot : Slot T name id) (hty : typeOf (.builtin id) = pure (.type "method_descriptor")) (hm : MtR X id r) (hP : MtD Z T r P) (ho : DE Z X W o Ta)
    (hbase : attributeBase o name X.env (eval o X.env) = eval o X.env := by rfl) (hline : (apos.endLine == cpos.line) = true := by rfl) : DE Z X W (.Call (.Attribute o name apos) [] [] cpos) (wMt0 T P Ta) := de_mt0 c.hz pa slot hty hm hP ho hbase hline
theorem qlc {elt : Expr} {ifs : List Expr} {scope : Scope} {vs : List Nat} {T : DTI} {G : DTG} {gV : TG} {B : DTT} {Te : DTE} (own : List (Str × Nat)) (c : Ct Z X W k) (ok : BlkOk X.N X.env.scope scope own) (hi : DI Z X W tg iter T) (hG : CG Z X vs gV G)
    (hg : ∀ (s : Shared) (H : Hp) (C : Addr) (cl : List (Str × Addr)) (fp : List Addr), PG (X.blk s H scope (compEnvC scope cl C X.env) fp) tg gV) (ht : ∀ (s : Shared) (H : Hp) (C : Addr) (cl : List (Str × Addr)) (fp : List Addr), Ct Z (X.blk s H scope (compEnvC scope cl C X.env) fp) NX k → DTs Z (X.blk s H scope (compEnvC scope cl C X.env) fp) NX ifs B)
    (he : ∀ (s : Shared) (H : Hp) (C : Addr) (cl : List (Str × Addr)) (fp : List Addr), Ct Z (X.blk s H scope (compEnvC scope cl C X.env) fp) NX k → DE Z (X.blk s H scope (compEnvC scope cl C X.env) fp) NX elt Te)
    (hv : own.map (·.2) = vs := by rfl) (hs : ∀ x, foldedSetIterable iter X.env x = pure x := by intro _; rfl) :
    DE Z X W (.ListComp elt [⟨tg, iter, ifs, 0⟩] scope pos) (wComp T G B Te vs) :=
  de_lc c.calm c.nd hi ok hv hG hg (fun s H C cl fp => ht s H C cl fp (c.blk ..)) (fun s H C cl fp => he s H C cl fp (c.blk ..)) hs
theorem ssetLc {y : Str} {py spos : Pos} {elt : Expr} {ifs : List Expr} {scope : Scope} {vs : List Nat} {T : DTI} {G : DTG} {gV : TG} {B : DTT} {Te : DTE} (i : Nat) (own : List (Str × Nat)) (c : Ct Z X W k) (ok : BlkOk X.N X.env.scope scope own) (hi : DI Z X W tg iter T) (hG : CG Z X vs gV G)
    (hg : ∀ (s : Shared) (H : Hp) (C : Addr) (cl : List (Str × Addr)) (fp : List Addr), PG (X.blk s H scope (compEnvC scope cl C X.env) fp) tg gV) (ht : ∀ (s : Shared) (H : Hp) (C : Addr) (cl : List (Str × Addr)) (fp : List Addr), Ct Z (X.blk s H scope (compEnvC scope cl C X.env) fp) NX k → DTs Z (X.blk s H scope (compEnvC scope cl C X.env) fp) NX ifs B)
    (he : ∀ (s : Shared) (H : Hp) (C : Addr) (cl : List (Str × Addr)) (fp : List Addr), Ct Z (X.blk s H scope (compEnvC scope cl C X.env) fp) NX k → DE Z (X.blk s H scope (compEnvC scope cl C X.env) fp) NX elt Te)
    (hy : X.N[i]? = some y := by rfl) (hyl : X.env.scope.names.lookup y = some .local := by rfl) (hk : X.env.scope.kind = .function := by rfl) (hl : (py.line == pos.line) = true := by rfl) (hw : (scope.names.any fun (n, k) => n == y && (k == .local || k == .cell)) = false := by rfl)
    (hv : own.map (·.2) = vs := by rfl) (hs : ∀ x, foldedSetIterable iter X.env x = pure x := by intro _; rfl) :
    DS Z X W (.Assign [.Name y py] (.ListComp elt [⟨tg, iter, ifs, 0⟩] scope pos) spos) (wAsg (wComp T G B Te vs) (wName i)) :=
  ds_setLc c.calm c.nd hy hyl (sw_true hk hyl hl hw) hi ok hv hG hg (fun s H C cl fp => ht s H C cl fp (c.blk ..)) (fun s H C cl fp => he s H C cl fp (c.blk ..)) hs
theorem gnV (i : Nat) (c : Ct Z X W k) (hi : X.N[i]? = some x := by rfl) (hx : Loc X.env.scope x := by first | exact Or.inl rfl | exact Or.inr rfl) (hf : X.fn x = true ∨ X.env.scope.names.lookup x = some .local := by first | exact .inl rfl | exact .inr rfl) : PG X (.Name x pos) (gName i) := pg_name c.nd hi hx hf
theorem iv (c : Ct Z X W k) (h : DE Z X W e Ta) : DI Z X W tg e (wItV Ta) := di_val c.hz h
theorem ir1 (hm : X.mg "range" = none) (ha : DA Z X W [a] Tr) (hg : Gl X "range" := by rfl) (hs : starEach [a] X.env = [(false, eval a X.env)] := by rfl) : DI Z X W tg (.Call (.Name "range" p) [a] [] pos) (wRng1 Tr) := di_range1 hg hm ha hs
theorem ir2 (hm : X.mg "range" = none) (ha : DA Z X W [a, b] Tr) (hg : Gl X "range" := by rfl) (hs : starEach [a, b] X.env = [(false, eval a X.env), (false, eval b X.env)] := by rfl) (hs2 : starEach [b] X.env = [(false, eval b X.env)] := by rfl) : DI Z X W tg (.Call (.Name "range" p) [a, b] [] pos) (wRng2 Tr) := di_range2 hg hm ha hs hs2
theorem sset (i : Nat) {pos' : Pos} (c : Ct Z X W k) (he : DE Z X W e Ta) (hi : X.N[i]? = some x := by rfl) (hx : Loc X.env.scope x := by first | exact Or.inl rfl | exact Or.inr rfl) (hf : X.fn x = true ∨ X.env.scope.names.lookup x = some .local := by first | exact .inl rfl | exact .inr rfl) (hs : swapsWith e (some (.Name x pos')) pos.line X.env = pure false := by rfl) : DS Z X W (.Assign [.Name x pos'] e pos) (wAsg Ta (wName i)) := ds_set c.nd hi hx hf he hs
theorem sasg {G : DTG} (he : DE Z X W e Ta) (hg : DG Z X W tg G) (hs : swapsWithSole [tg] e pos.line X.env = pure false := by rfl) (hw : swappedStores [tg] e X.env = pure none := by rfl) (h1 : (assignEach [tg] X.env).map (·.2) = [assign tg X.env] := by rfl) : DS Z X W (.Assign [tg] e pos) (wAsg Ta G) := ds_asg he hg hs hw h1
theorem satt {fields : List String} (f : String) {o : Expr} {pos' : Pos} (c : Ct Z X W k) (C : Clz Z fields) (hf : f ∈ fields) (ho : DE Z X W o Ta) (hv : DE Z X W e Tb) (hx : Str.ofString f = x := by rfl) (hs : swapsWith e (some (.Attribute o x pos')) pos.line X.env = pure false := by rfl) :
    DS Z X W (.Assign [.Attribute o x pos'] e pos) (wSetA Ta Tb f) := ds_setA c.hz C hf hx ho hv hs
theorem gn (i : Nat) (c : Ct Z X W k) (hi : X.N[i]? = some x := by rfl) (hx : Loc X.env.scope x := by first | exact Or.inl rfl | exact Or.inr rfl) (hf : X.fn x = true ∨ X.env.scope.names.lookup x = some .local := by first | exact .inl rfl | exact .inr rfl) : DG Z X W (.Name x pos) (wName i) := dg_name c.nd hi hx hf
theorem gs {o i : Expr} {r : TSet} {P : D → D → D → Hm → (Hm → Prop) → Prop} (hs : PSet X r) (hP : RefSet Z r P) (ho : DE Z X W o Ta) (hi : DE Z X W i Tb)
    (ha : ∀ v, assign (.Subscript o i pos) X.env v = (do
      let ov ← holding [v] (eval o X.env)
      let iv ← holding [v, ov] (eval i X.env)
      standAt pos
      holding [v, ov, iv] (setItem ov iv v)
      release [v, ov, iv] []) := by intro _; rfl) : DG Z X W (.Subscript o i pos) (wSub Ta Tb P) := dg_sub ho hi hs hP ha
theorem gsl {o : Expr} {lo hi : Option Expr} {Tl Th : DTO} (ho : DE Z X W o Ta) (hl : DO Z X W lo Tl) (hh : DO Z X W hi Th)
    (ha : ∀ v, assign (.Subscript o (.Slice lo hi none p2) pos) X.env v = (do
      let ov ← holding [v] (eval o X.env)
      let iv ← holding [v, ov] (eval (.Slice lo hi none p2) X.env)
      standAt pos
      holding [v, ov, iv] (setItem ov iv v)
      release [iv, v, ov] []) := by intro _; rfl) : DG Z X W (.Subscript o (.Slice lo hi none p2) pos) (wSetSl Ta Tl Th) := dg_setSl ho hl hh ha
theorem gcons {is : List Nat} (i : Nat) (c : Ct Z X W k) (h : PGs X es (gNames is)) (hi : X.N[i]? = some x := by rfl) (hx : Loc X.env.scope x := by first | exact Or.inl rfl | exact Or.inr rfl) (hf : X.fn x = true ∨ X.env.scope.names.lookup x = some .local := by first | exact .inl rfl | exact .inr rfl) : PGs X (.Name x p :: es) (gNames (i :: is)) := pgs_namesC c.nd hi hx hf h
theorem gtup {is : List Nat} {j : Nat} (c : Ct Z X W k) (h : PGs X es (gNames is)) (hn : (assignEach es X.env).length = is.length := by rfl) (hst : (assignEach es X.env).findIdx? (·.1) = none := by rfl) : DG Z X W (.Tuple es j pos) (wNames is) := dg_names c.hz c.calm h hn hst
theorem sexp (h : DE Z X W e Ta) (hs : swapsWith e none pos.line X.env = pure false := by rfl) : DS Z X W (.Expr e pos) (wDrop Ta) := ds_expr h hs
theorem sfor {body : List Stmt} {T : DTI} {G : DTG} (c : Ct Z X W k) (hi : DI Z X W tg iter T) (hg : DG Z X W tg G) (hb : DSs Z X W body S1) (hs : ∀ x, foldedSetIterable iter X.env x = pure x := by intro _; rfl) : DS Z X W (.For tg iter body [] pos) (wFor T G S1) := ds_for c.po c.calm hi hg hb hs
theorem swhile {B : DTT} {body : List Stmt} (c : Ct Z X W k) (hc : DB Z X W a B) (hb : DSs Z X W body S1) : DS Z X W (.While a body [] pos) (wWhile B S1) := ds_while c.po hc hb
end
/-- a def's body, with what stands around it -/
theorem fn_c {P : Program} {w : World} {K : PySem.W.Frag} {mg : Str → Option Value} {base : Heap} {x qual : Str} {params : Arguments} {body : List Stmt} {scope : Scope} {dvs : List V} {kws : List (Str × V)} {f : Addr} {fd : FuncData} {Z : Zn} {N ps : List Str} {k : Nat} {T : DTS} (F : FunD K x qual params body scope dvs kws f fd) (S : FnScope N ps scope) (hz : Z.K = K)
    (E0 : ∀ X : Cx, X.K = K → X.prog = P → X.w = w → X.mg = mg → X.base = base → EqAll Z X (k + 3) ∧ (∀ c ∈ Z.es, NeCls Z X c) ∧ IsiF Z X)
    (h : ∀ (cdv : Value) (A : Around) (outer : List Env) (s : Shared) (H : Hp) (E : XK), Ct Z (cxOf (CX P w) P w K mg base N qual scope f cdv A outer s H E) (fun cls d _ H => E cls d H) k → DSs Z (cxOf (CX P w) P w K mg base N qual scope f cdv A outer s H E) (fun cls d _ H => E cls d H) body T) :
    FnOk P w K mg base (CX P w) (k + 1 + 3) f fd ps (spOf Z ps.length (wBody N T)) :=
  fn_d (k := k + 3) F S fun cdv A outer s H E hr tk po => h cdv A outer s H E (by
    obtain ⟨e1, e2, e3⟩ := E0 (cxOf (CX P w) P w K mg base N qual scope f cdv A outer s H E) rfl rfl rfl rfl rfl
    exact ⟨hz, hr, tk, e1, e2, e3, rfl, S.nd, po⟩)
end DL
namespace DL
open PySem PySem.Spec PyProof.Rows L2
theorem bt_abs : bootBuiltins "abs" = some (.builtin "abs") := by decide +kernel
theorem bt_all : bootBuiltins "all" = some (.builtin "all") := by decide +kernel
theorem bt_any : bootBuiltins "any" = some (.builtin "any") := by decide +kernel
theorem bt_isinstance : bootBuiltins "isinstance" = some (.builtin "isinstance") := by decide +kernel
theorem bt_len : bootBuiltins "len" = some (.builtin "len") := by decide +kernel
theorem bt_max : bootBuiltins "max" = some (.builtin "max") := by decide +kernel
theorem bt_min : bootBuiltins "min" = some (.builtin "min") := by decide +kernel
theorem bt_repr : bootBuiltins "repr" = some (.builtin "repr") := by decide +kernel
theorem bt_sorted : bootBuiltins "sorted" = some (.builtin "sorted") := by decide +kernel
theorem bt_sum : bootBuiltins "sum" = some (.builtin "sum") := by decide +kernel
theorem bt_bool : bootBuiltins "bool" = some (.type "bool") := by decide +kernel
theorem bt_int : bootBuiltins "int" = some (.type "int") := by decide +kernel
theorem bt_str : bootBuiltins "str" = some (.type "str") := by decide +kernel
theorem bt_tuple : bootBuiltins "tuple" = some (.type "tuple") := by decide +kernel
theorem bt_list : bootBuiltins "list" = some (.type "list") := by decide +kernel
theorem bt_range : bootBuiltins "range" = some (.type "range") := by decide +kernel
theorem bt_enumerate : bootBuiltins "enumerate" = some (.type "enumerate") := by decide +kernel
theorem bt_zip : bootBuiltins "zip" = some (.type "zip") := by decide +kernel
theorem bt_reversed : bootBuiltins "reversed" = some (.type "reversed") := by decide +kernel
theorem bt_dict : bootBuiltins "dict" = some (.type "dict") := by decide +kernel
section
variable {Z : Zn} {X : Cx} {W : WX} {x : Str} {pos : Pos}
theorem qgi {i : Int} (hm : ∃ t, X.mg x = some (.int i t)) (hg : Gl X x := by rfl) (hd : (x == ("__debug__" : Str)) = false := by decide) : DE Z X W (.Name x pos) (wC (.int i)) := by
  obtain ⟨t, h⟩ := hm
  exact de_glo (v := .int i) hg h ⟨t, rfl⟩ hd fun _ => .int i
theorem qgs {s : String} (hm : ∃ t, X.mg x = some (.str (Str.ofString s) t)) (hg : Gl X x := by rfl) (hd : (x == ("__debug__" : Str)) = false := by decide) : DE Z X W (.Name x pos) (wC (.str (tx s))) := by
  obtain ⟨t, h⟩ := hm
  exact de_glo (v := .str (Str.ofString s)) hg h ⟨t, rfl⟩ hd fun _ => by rw [← sv_tx]; exact .str _
theorem pe_bty {T : String} (hm : X.mg x = none) (hv : bootBuiltins x = some (.type T)) (hg : Gl X x := by rfl) (hn : x ≠ "__name__" := by decide) (hd : (x == ("__debug__" : Str)) = false := by decide) : PE X (.Name x pos) (tC (.ty T)) :=
  ⟨fun pins s σ H Q I h => ld_blt I hg hm hv ⟨.ty T, H, I, rfl, h⟩ hn hd⟩
end
end DL
namespace DL
open PySem PySem.Spec PyProof.Rows L2
abbrev cA (K : PySem.W.Frag) (c : String) : Addr := He.ga K (Str.ofString c)
def isoB (a : Option Bool) (b : Bool) : Bool := match a with
  | some x => x == b
  | none => false
theorem isoB_ok {a : Option Bool} {b : Bool} (h : isoB a b = true) : a = some b := by
  cases a with
  | none => cases h
  | some x => rw [eq_of_beq (show (x == b) = true from h)]
def isiB (K : PySem.W.Frag) (cs : List String) : Bool :=
  (plainTs.all fun T => plainTs.all fun U => isoB (PySem.W.kitOne K (.type T) (.type U)) (T == U || (T == "bool" && U == "int"))) &&
  ((plainTs.all fun T => cs.all fun c => isoB (PySem.W.kitOne K (.type T) (.ref (cA K c))) false) &&
  ((cs.all fun c => plainTs.all fun U => isoB (PySem.W.kitOne K (.ref (cA K c)) (.type U)) false) &&
  ((cs.all fun c => cs.all fun d => isoB (PySem.W.kitOne K (.ref (cA K c)) (.ref (cA K d))) (c == d)) &&
  ((cs.all fun c => (He.Fa.cls (Str.ofString c)).ok K && (He.eqO (PySem.W.findIn K (.ref (cA K c)) "__class__") (some (some (.builtin "object.__class__"))) && isoB (PySem.W.mroIn K (cA K c) (.type "object")) true)) &&
  (He.eqO (PySem.W.specialIn K (.builtin "object.__class__") "__get__") (some (some (.builtin "getset_descriptor.__get__"))) && isoB (PySem.W.takesIn K (.builtin "object.__class__")) true)))))
def eqcB (K : PySem.W.Frag) (cs es : List String) : Bool :=
  (es.all fun c => cs.contains c && ((plainTs.all fun T => isoB (PySem.W.mroIn K (cA K c) (.type T)) false) && ((plainTs.all fun T => isoB (PySem.W.subIn K (.type T) (.ref (cA K c))) false) && (es.all fun d => PySem.W.notFirst K (cA K c) (.ref (cA K d)))))) &&
  (es.all fun c => isoB (PySem.W.mroIn K (cA K c) (.type "object")) true && He.eqO (PySem.W.findIn K (.ref (cA K c)) "__ne__") (some (some (.builtin "object.__ne__"))))
def injB (K : PySem.W.Frag) (cs : List String) : Bool := cs.all fun c => cs.all fun d => (cA K c != cA K d) || c == d
/-- no list stands in the written part -/
def noLB (K : PySem.W.Frag) : Bool := K.all fun q => q.2.cls != .type "list"
def noB (cs fl : List String) (K : PySem.W.Frag) : Bool := cs.all fun c => fl.all fun f => He.eqO (PySem.W.findIn K (.ref (cA K c)) (Str.ofString f)) (some none)
def exB (cs es fl : List String) (K : PySem.W.Frag) : Bool := isiB K cs && ((eqcB K cs es && injB K cs) && (noLB K && noB cs fl K))
abbrev znOf (K : PySem.W.Frag) (cs es : List String) : Zn := ⟨K, fun c => He.ga K (Str.ofString c), cs, es⟩
section
variable {K : PySem.W.Frag} {cs es fl : List String} {X : Cx}
theorem isi_of (h : exB cs es fl K = true) (hK : X.K = K) : IsiF (znOf K cs es) X := by
  subst hK
  have h := (Bool.and_eq_true_iff.mp h).1
  unfold isiB at h
  simp only [Bool.and_eq_true, List.all_eq_true] at h
  obtain ⟨h1, h2, h3, h4, h5, h6, h7⟩ := h
  exact ⟨fun T hT U hU => isoB_ok (h1 T hT U hU), fun T hT c hc => isoB_ok (h2 T hT c hc), fun c hc U hU => isoB_ok (h3 c hc U hU), fun c hc d hd => isoB_ok (h4 c hc d hd),
    fun c hc => ⟨He.cls_ok (h5 c hc).1, He.eqO_ok (h5 c hc).2.1, isoB_ok (h5 c hc).2.2⟩, He.eqO_ok h6, isoB_ok h7⟩
theorem eqc_of (h : exB cs es fl K = true) (hK : X.K = K) : (∀ c ∈ es, EqCls (znOf K cs es) X c) ∧ (∀ c ∈ es, NeCls (znOf K cs es) X c) := by
  subst hK
  have h := (Bool.and_eq_true_iff.mp (Bool.and_eq_true_iff.mp (Bool.and_eq_true_iff.mp h).2).1).1
  unfold eqcB at h
  simp only [Bool.and_eq_true, List.all_eq_true] at h
  obtain ⟨h1, h2⟩ := h
  refine ⟨fun c hc => ?_, fun c hc => ⟨isoB_ok (h2 c hc).1, He.eqO_ok (h2 c hc).2⟩⟩
  obtain ⟨a, b, d, e⟩ := h1 c hc
  exact ⟨by simpa using a, fun T hT => isoB_ok (b T hT), fun T hT => isoB_ok (d T hT), fun x hx => e x hx⟩
theorem inj_of (h : exB cs es fl K = true) : ∀ c ∈ cs, ∀ d ∈ cs, cA K c = cA K d → c = d := by
  have h := (Bool.and_eq_true_iff.mp (Bool.and_eq_true_iff.mp (Bool.and_eq_true_iff.mp h).2).1).2
  unfold injB at h
  simp only [List.all_eq_true] at h
  intro c hc d hd e
  rcases Bool.or_eq_true_iff.mp (h c hc d hd) with q | q
  · rw [e] at q; simp at q
  · exact eq_of_beq q
theorem clz_of (h : exB cs es fl K = true) : Clz (znOf K cs es) fl := by
  have h1 := (Bool.and_eq_true_iff.mp h).1
  unfold isiB at h1
  simp only [Bool.and_eq_true, List.all_eq_true] at h1
  have h2 := (Bool.and_eq_true_iff.mp (Bool.and_eq_true_iff.mp (Bool.and_eq_true_iff.mp h).2).2).2
  unfold noB at h2
  simp only [List.all_eq_true] at h2
  exact ⟨fun c hc => He.cls_ok (h1.2.2.2.2.1 c hc).1, fun c hc f hf => He.eqO_ok (h2 c hc f hf)⟩
/-- the script, seen alone -/
def sM (a : Addr) (ns : List Int) : Hm := fun b => if b = a then some (.frl (ns.map .int)) else none
theorem sM_at {a : Addr} {ns : List Int} : sM a ns a = some (.frl (ns.map .int)) := if_pos rfl
theorem rds_ints {Z : Zn} {F : Hp} : ∀ ns : List Int, RDs Z F (ns.map .int) (ns.map V.int)
  | [] => .nil
  | n :: ns => .cons (.int n) (rds_ints ns)
theorem law_sp (h : exB cs es fl K = true) {S : DSp} {H : Hp} {a : Addr} {ns : List Int} (hO : Only H) (hS : SqL K H a (ns.map V.int)) (hl : S [.ref a] (sM a ns) (fun d _ => d = .bl true) fun _ _ => False) :
    spOf (znOf K cs es) 1 S [.ref a] H (fun v _ => v = .bl true) fun _ _ _ => False := by
  have hn := (Bool.and_eq_true_iff.mp (Bool.and_eq_true_iff.mp (Bool.and_eq_true_iff.mp h).2).2).1
  have hf : ∃ o, H a = some (.frz o (.lst (ns.map V.int))) := by
    rcases hS with (hS | hS) | hS
    · rcases hO a with q | ⟨o, xs, q⟩
      · rw [q] at hS; cases hS
      · rw [q] at hS; cases hS
    · exact hS
    · obtain ⟨o, its, n, e, hc, _⟩ := hS
      unfold noLB at hn
      rw [List.all_eq_true] at hn
      have := hn (a, o) (He.lookup_mem e)
      simp only [hc] at this
      simp at this
  obtain ⟨o, hf⟩ := hf
  refine ⟨fun _ => none, [.ref a], sM a ns, fun d _ => d = .bl true, fun _ _ => False, rfl, .cons (.ref a) .nil, ⟨(fun _ _ z => nomatch z), fun b m e => ?_⟩, hl, fun G d v M H' e V0 r q => by subst q; exact r.bl_of, fun _ _ _ _ _ _ _ _ _ z => z.elim⟩
  unfold sM at e
  split at e
  · rename_i q
    cases e
    subst q
    exact ⟨rfl, _, hf, (show RDs _ _ (ns.map .int) (ns.map V.int) from rds_ints ns)⟩
  · cases e
end
theorem levels {Fn : Type} {step : (Nat → Fn → DSp) → Nat → Fn → DSp} {Ok : Nat → Fn → DSp → Prop} {isD : Fn → Prop} (bot : ∀ j f, isD f → Ok j f botS)
    (h : ∀ k, (∀ j, j ≤ k → ∀ f, isD f → Ok (j + 3) f (Gh step j 0 f)) → (∀ i, i ≤ 3 → ∀ f, isD f → Ok (k + 3 - i) f (Gh step k i f)) → ∀ f, isD f → Ok (k + 1 + 3) f (step (Gh step k) k f)) : ∀ k f, isD f → Ok (k + 3) f (Gh step k 0 f) := by
  intro k
  induction k using Nat.strongRecOn with
  | _ k ih =>
    cases k with
    | zero => exact fun f hf => bot _ f hf
    | succ k =>
      have all : ∀ j, j ≤ k → ∀ f, isD f → Ok (j + 3) f (Gh step j 0 f) := fun j hj => ih j (by omega)
      refine fun f hf => h k all (fun i hi f hf => ?_) f hf
      by_cases q : i ≤ k
      · have e : Gh step k i = Gh step (k - i) 0 := by
          have := Gh_at (step := step) (k - i) i
          rwa [Nat.sub_add_cancel q] at this
        rw [e, show k + 3 - i = k - i + 3 by omega]
        exact all (k - i) (by omega) f hf
      · rw [Gh_low k i (by omega)]
        exact bot _ f hf
theorem noCX {P : Program} {w : World} {H : Hp} {s : Shared} {e : Value} {s' : Shared} (h : CX P w [] H s (fun _ _ _ => False) e s') : False := by
  obtain ⟨_, _, _, _, _, _, _, _, _, _, _, _, z⟩ := h
  exact z
theorem walk_d {l : PySem.W.OpenLaw} {n k : Nat} {q : Program} {loose : List Str} {XP : (Str → Option Value) → Heap → Prop} {YP : World → Heap → Prop} {d : DefRec} {x : Str} (hn : l.most = some n) (hn2 : n ≤ sizeLine) (hdf : d.params.defaults = []) (hr : Room k callerA)
    (F : ∀ (w : World) (mg : Str → Option Value) (fa : Addr) (h : Heap), YP w h → h.Ns mainGlobals mg → mg d.name = some (.ref fa) → ∃ (K : PySem.W.Frag) (fd : FuncData) (sp : Sp), K.In h ∧ (∀ (s : Shared) (u : Value), BindsTo s fd ⟨[u], []⟩ [(x, u)]) ∧
      (∀ (H : Hp) (a : Addr) (ns : List Int), ns.length ≤ n → (∀ z ∈ ns, Builtin.Int.intBits z ≤ 1048576) → Only H → SqL K H a (ns.map V.int) → sp [.ref a] H (fun v _ => v = .bl true) fun _ _ _ => False) ∧ ∀ base : Heap, K.In base → base.Ns mainGlobals mg → FnOk l.prog w K mg base (CX l.prog w) k fa fd [x] sp) :
    PySem.W.WalkO q loose XP YP l.row.toRowW d [] (fun f vs => PySem.call f vs) := by
  refine Att.attach_callB hn hdf fun w s₀ s₁ mg mb fa o pm cd doc a vs ns G Y ho hd hcd hmg hobj hints hlen hbits hg => ?_
  obtain ⟨K, fd, sp, KX, hb, hsp, hF⟩ := F w mg fa _ Y G.T.g hmg
  exact law_call KX G.T.g G.T.b G.T.builtins G.T.nolimit hg hobj hints (Nat.le_trans hlen hn2) hr hF hb (fun H hO hS => hsp H a ns hlen hbits hO hS) fun H e s' z => noCX z
end DL
namespace DL
open PySem PySem.Spec PyProof.Rows L2
theorem Sub.trans' {A B C : Hm} (h : Sub A B) (g : Sub B C) : Sub A C := fun a m e => g a m (h a m e)
theorem sub_mup {M N : Hm} {p : Addr} {o : MO} (h : Sub M N) (hp : M p = none) : Sub M (mup N p o) := fun a m e => by
  have q : a ≠ p := fun z => by rw [z, hp] at e; cases e
  rw [mup_ne q]; exact h a m e
theorem sub_mdel {M N : Hm} {p : Addr} (h : Sub M N) (hp : M p = none) : Sub M (mdel N p) := fun a m e => by
  have q : a ≠ p := fun z => by rw [z, hp] at e; cases e
  unfold mdel
  rw [if_neg q]; exact h a m e
theorem sub_none {M N : Hm} {p : Addr} (h : Sub M N) (hp : N p = none) : M p = none := by
  cases e : M p with
  | none => rfl
  | some m => rw [h p m e] at hp; cases hp
theorem ne_none {M : Hm} {a p : Addr} {o : MO} (h : M a = some o) (hp : M p = none) : a ≠ p := fun z => by rw [z, hp] at h; cases h
@[simp] theorem mup_same_s {M : Hm} {a : Addr} {o : MO} : mup M a o a = some o := mup_same
@[simp] theorem mup_mup_s {M : Hm} {a : Addr} {o u : MO} : mup (mup M a o) a u = mup M a u := mup_mup
section
variable {σ : SD} {M : Hm} {Q : DK} {E : DX} {Ta Tb Tc : DTE} {Tr Tk : DTA} {B B2 : DTT} {K : DEn} {S1 S2 : DTS} {QB : Bool → Hm → Prop} {QA : List D → Hm → Prop} {QS : SD → Hm → Prop} {d : D} {Gt : DTG}
@[simp] theorem wVar_s {i : Nat} : wVar i σ M Q E = ∃ d, σ[i]? = some (some d) ∧ Q d M := rfl
@[simp] theorem wC_s : wC d σ M Q E = Q d M := rfl
@[simp] theorem w2_s {P : D → D → Hm → DK → Prop} : w2 P Ta Tb σ M Q E = Ta σ M (fun x M1 => Tb σ M1 (fun y M2 => P x y M2 Q) E) E := rfl
@[simp] theorem wB_s : wB Ta σ M QB E = Ta σ M (fun d M1 => ∃ b, d = .bl b ∧ QB b M1) E := rfl
@[simp] theorem wAnd_s : wAnd B B2 σ M QB E = B σ M (fun b M1 => if b = true then B2 σ M1 QB E else QB false M1) E := rfl
@[simp] theorem wOr_s : wOr B B2 σ M QB E = B σ M (fun b M1 => if b = true then QB true M1 else B2 σ M1 QB E) E := rfl
@[simp] theorem wNot_s : wNot B σ M QB E = B σ M (fun b M1 => QB (!b) M1) E := rfl
@[simp] theorem wAndV_s : wAndV Ta Tb σ M Q E = Ta σ M (fun d M1 => ∃ b, d = .bl b ∧ if b = true then Tb σ M1 Q E else Q (.bl false) M1) E := rfl
@[simp] theorem wOrV_s : wOrV Ta Tb σ M Q E = Ta σ M (fun d M1 => ∃ b, d = .bl b ∧ if b = true then Q (.bl true) M1 else Tb σ M1 Q E) E := rfl
@[simp] theorem wNotV_s : wNotV Ta σ M Q E = Ta σ M (fun d M1 => ∃ b, d = .bl b ∧ Q (.bl (!b)) M1) E := rfl
@[simp] theorem wIte_s : wIte B Ta Tb σ M Q E = B σ M (fun b M1 => if b = true then Ta σ M1 Q E else Tb σ M1 Q E) E := rfl
@[simp] theorem wNil_s : wNil σ M QA E = QA [] M := rfl
@[simp] theorem wCons_s : wCons Ta Tr σ M QA E = Ta σ M (fun d M1 => Tr σ M1 (fun ds M2 => QA (d :: ds) M2) E) E := rfl
@[simp] theorem wTup_s : wTup Tr σ M Q E = Tr σ M (fun ds M1 => ds.length ≤ LL ∧ Q (.tup ds) M1) E := rfl
@[simp] theorem wLst_s : wLst Tr σ M Q E = Tr σ M (fun ds M1 => ds.length ≤ LL ∧ ∀ p, M1 p = none → Q (.ref p) (mup M1 p (.lst ds))) E := rfl
@[simp] theorem wAttr_s {f : String} : wAttr Ta f σ M Q E = Ta σ M (fun d M1 => pAttr d f M1 Q) E := rfl
@[simp] theorem wNeg_s : wNeg Ta σ M Q E = Ta σ M (fun d M1 => ∃ i, d = .int i ∧ Q (.int (-i)) M1) E := rfl
@[simp] theorem wNo_s {QO : Option Int → Hm → Prop} : wNo σ M QO E = QO none M := rfl
@[simp] theorem wPart_s {QO : Option Int → Hm → Prop} : wPart Ta σ M QO E = Ta σ M (fun d M1 => ∃ i, d = .int i ∧ QO (some i) M1) E := rfl
@[simp] theorem wSlice_s {Tl Th : DTO} : wSlice Ta Tl Th σ M Q E = Ta σ M (fun x M1 => Tl σ M1 (fun lo M2 => Th σ M2 (fun hi M3 => pSl x lo hi M3 Q) E) E) E := rfl
@[simp] theorem wCallP_s {P : List D → Hm → DK → DX → Prop} : wCallP P Tr σ M Q E = Tr σ M (fun ds M1 => P ds M1 Q E) E := rfl
@[simp] theorem wCall_s {n m : Nat} {ar : List Ar} {S : DSp} : wCall n m ar S Tr Tk σ M Q E = Tr σ M (fun ds M1 => Tk σ M1 (fun es M2 => ds.length = n ∧ es.length = m ∧ S (arD ar (ds ++ es)) M2 Q E) E) E := rfl
@[simp] theorem wIsi_s {own : Bool} {n : String} : wIsi own n Ta σ M Q E = Ta σ M (fun d M1 => ∃ t, tyD d M1 = some t ∧ Q (.bl (t.1 == own && (t.2 == n || (own == false && t.2 == "bool" && n == "int")))) M1) E := rfl
@[simp] theorem wFmt_s : wFmt Ta σ M Q E = Ta σ M (fun d M1 => pFmt d M1 Q) E := rfl
@[simp] theorem wJs_nil {acc : Tx} : wJs [] acc σ M Q E = Q (.str acc) M := rfl
@[simp] theorem wJs_cons {t : DTE} {ts : List DTE} {acc : Tx} : wJs (t :: ts) acc σ M Q E = t σ M (fun d M1 => ∃ y, d = .str y ∧ acc.length + y.length ≤ LL ∧ wJs ts (acc ++ y) σ M1 Q E) E := rfl
@[simp] theorem wMt_s {T : String} {P : D → List D → Hm → DK → Prop} : wMt T P Ta Tr σ M Q E = Ta σ M (fun d M1 => rcv T d M1 ∧ Tr σ M1 (fun ds M2 => P d ds M2 Q) E) E := rfl
@[simp] theorem wMt0_s {T : String} {P : D → List D → Hm → DK → Prop} : wMt0 T P Ta σ M Q E = Ta σ M (fun d M1 => rcv T d M1 ∧ P d [] M1 Q) E := rfl
@[simp] theorem wSkip_s : wSkip K σ M = K.nx σ M := rfl
theorem wSeq_s : wSeq S1 S2 K σ M = S1 { K with nx := fun σ' M' => S2 K σ' M' } σ M := rfl
@[simp] theorem wBrk_s : wBrk K σ M = K.bk σ M := rfl
@[simp] theorem wCnt_s : wCnt K σ M = K.ct σ M := rfl
@[simp] theorem wDrop_s : wDrop Ta K σ M = Ta σ M (fun _ M1 => K.nx σ M1) (fun x M1 => K.ex x σ M1) := rfl
@[simp] theorem wRet_s : wRet Ta K σ M = Ta σ M K.rt (fun x M1 => K.ex x σ M1) := rfl
@[simp] theorem wRetN_s : wRetN K σ M = K.rt .non M := rfl
@[simp] theorem wIf_s : wIf B S1 S2 K σ M = B σ M (fun b M1 => if b = true then S1 K σ M1 else S2 K σ M1) (fun x M1 => K.ex x σ M1) := rfl
@[simp] theorem wAsg_s : wAsg Ta Gt K σ M = Ta σ M (fun d M1 => Gt d σ M1 K.nx (fun x M2 => K.ex x σ M2)) (fun x M1 => K.ex x σ M1) := rfl
@[simp] theorem wName_s {i : Nat} : wName i d σ M QS E = QS (σ.set i (some d)) M := rfl
@[simp] theorem wNames_s {is : List Nat} : wNames is d σ M QS E = ∃ ds, d = .tup ds ∧ ds.length = is.length ∧ QS (setAll is ds σ) M := rfl
@[simp] theorem wSetA_s {f : String} : wSetA Ta Tb f K σ M = Tb σ M (fun y M1 => Ta σ M1 (fun o M2 => pSetA o f y M2 (fun M3 => K.nx σ M3)) (fun x M2 => K.ex x σ M2)) (fun x M1 => K.ex x σ M1) := rfl
@[simp] theorem wSub_s {P : D → D → D → Hm → (Hm → Prop) → Prop} : wSub Ta Tb P d σ M QS E = Ta σ M (fun o M1 => Tb σ M1 (fun i M2 => P o i d M2 (fun M3 => QS σ M3)) E) E := rfl
@[simp] theorem wBody_s {N : List Str} {T : DTS} {ds : List D} : wBody N T ds M Q E = T { nx := fun _ M' => ∃ M'', Sub M'' M' ∧ Q .non M'', rt := fun d M' => ∃ M'', Sub M'' M' ∧ Q d M'', ex := fun x _ M' => E x M' } (startD N ds) M := rfl
@[simp] theorem wOut_s : wOut K σ M = False := rfl
@[simp] theorem pAdd_i {i j : Int} : pAdd (.int i) (.int j) M Q = Q (.int (i + j)) M := rfl
@[simp] theorem pAdd_s {i j : Tx} : pAdd (.str i) (.str j) M Q = (i.length + j.length ≤ LL ∧ Q (.str (i ++ j)) M) := rfl
@[simp] theorem pAdd_t {i j : List D} : pAdd (.tup i) (.tup j) M Q = (i.length + j.length ≤ LL ∧ Q (.tup (i ++ j)) M) := rfl
@[simp] theorem pSub_i {i j : Int} : pSub (.int i) (.int j) M Q = Q (.int (i - j)) M := rfl
@[simp] theorem pMul_i {i j : Int} : pMul (.int i) (.int j) M Q = (CMul i j ∧ Q (.int (i * j)) M) := rfl
@[simp] theorem pFdiv_i {i j : Int} : pFdiv (.int i) (.int j) M Q = (CDiv i j ∧ Q (.int (i / j)) M) := rfl
@[simp] theorem pMod_i {i j : Int} : pMod (.int i) (.int j) M Q = (0 < j ∧ Q (.int (i % j)) M) := rfl
@[simp] theorem pPow_i {i j : Int} : pPow (.int i) (.int j) M Q = (CPow i j ∧ Q (.int (i ^ j.toNat)) M) := rfl
@[simp] theorem pCmpI_i {p : Int → Int → Bool} {i j : Int} : pCmpI p (.int i) (.int j) M Q = Q (.bl (p i j)) M := rfl
@[simp] theorem pIsN_n {x : D} : pIsN x .non M Q = Q (.bl x.isNon) M := by simp [pIsN]
@[simp] theorem pNotN_n {x : D} : pNotN x .non M Q = Q (.bl (!x.isNon)) M := by simp [pNotN]
@[simp] theorem isNon_n : D.isNon .non = true := rfl
@[simp] theorem isNon_i {c : String} {fs : List (String × D)} : D.isNon (.ins c fs) = false := rfl
@[simp] theorem isNon_r {c : Addr} : D.isNon (.ref c) = false := rfl
@[simp] theorem isNon_t {c : List D} : D.isNon (.tup c) = false := rfl
@[simp] theorem isNon_s {c : Tx} : D.isNon (.str c) = false := rfl
@[simp] theorem isNon_in {c : Int} : D.isNon (.int c) = false := rfl
@[simp] theorem pEq_ii {es : List String} {k : Nat} {i j : Int} : pEq es k false (.int i) (.int j) M Q = Q (.bl (i == j)) M := by simp [pEq, D.pure, D.dp, D.eq]
@[simp] theorem pEq_ss {es : List String} {k : Nat} {i j : Tx} : pEq es k false (.str i) (.str j) M Q = Q (.bl (i == j)) M := by simp [pEq, D.pure, D.dp, D.eq]
@[simp] theorem pNe_ii {es : List String} {k : Nat} {i j : Int} : pNe es k (.int i) (.int j) M Q = Q (.bl (!(i == j))) M := by simp [pNe, D.pure, D.dp, D.eq, D.isIns]
@[simp] theorem pNe_ss {es : List String} {k : Nat} {i j : Tx} : pNe es k (.str i) (.str j) M Q = Q (.bl (!(i == j))) M := by simp [pNe, D.pure, D.dp, D.eq, D.isIns]
@[simp] theorem pIdx_r {p : Addr} {i : Int} : pIdx (.ref p) (.int i) M Q = ∃ xs d, Lz M p xs ∧ L2.atI xs i = some d ∧ Q d M := rfl
@[simp] theorem pIdx_t {xs : List D} {i : Int} : pIdx (.tup xs) (.int i) M Q = ∃ d, L2.atI xs i = some d ∧ Q d M := rfl
@[simp] theorem pIdx_s {x : Tx} {i : Int} : pIdx (.str x) (.int i) M Q = ∃ c, x.length ≤ LL ∧ L2.atI x i = some c ∧ Q (.str [c]) M := rfl
@[simp] theorem pAttr_i {c f : String} {fs : List (String × D)} : pAttr (.ins c fs) f M Q = ∃ y, fs.lookup f = some y ∧ Q y M := rfl
@[simp] theorem pAttr_r {f : String} {a : Addr} : pAttr (.ref a) f M Q = ∃ c fs y, M a = some (.ins c fs) ∧ fs.lookup f = some y ∧ Q y M := rfl
@[simp] theorem pSetA_r {f : String} {a : Addr} {y : D} {QM : Hm → Prop} : pSetA (.ref a) f y M QM = ∃ c fs, M a = some (.ins c fs) ∧ fs.length < 1000 ∧ QM (mup M a (.ins c (putD f y fs))) := rfl
@[simp] theorem pInt_i {i : Int} : pInt [.int i] M Q = Q (.int i) M := rfl
@[simp] theorem pInt_b {i : Bool} : pInt [.bl i] M Q = Q (.int (if i then 1 else 0)) M := rfl
@[simp] theorem pAbs_i {i : Int} : pAbs [.int i] M Q = Q (.int (if i < 0 then -i else i)) M := rfl
@[simp] theorem pMax_i {i j : Int} : pMax2 [.int i, .int j] M Q = Q (.int (if j > i then j else i)) M := rfl
@[simp] theorem pMin_i {i j : Int} : pMin2 [.int i, .int j] M Q = Q (.int (if j < i then j else i)) M := rfl
@[simp] theorem pLen_r {Ss : List (String × DSp)} {a : Addr} : pLen Ss [.ref a] M Q E = ∃ xs, Lz M a xs ∧ Q (.int xs.length) M := rfl
@[simp] theorem pLen_t {Ss : List (String × DSp)} {xs : List D} : pLen Ss [.tup xs] M Q E = Q (.int xs.length) M := rfl
@[simp] theorem pLen_s {Ss : List (String × DSp)} {xs : Tx} : pLen Ss [.str xs] M Q E = (xs.length ≤ LL ∧ Q (.int xs.length) M) := rfl
@[simp] theorem pLen_i {Ss : List (String × DSp)} {c : String} {fs : List (String × D)} : pLen Ss [.ins c fs] M Q E = ∃ S, Ss.lookup c = some S ∧ S [.ins c fs] M (fun y M1 => ∃ n : Int, y = .int n ∧ 0 ≤ n ∧ n < 9223372036854775808 ∧ Q y M1) E := rfl
@[simp] theorem pStr_s {Ss : List (String × DSp)} {xs : Tx} : pStr Ss [.str xs] M Q E = Q (.str xs) M := rfl
@[simp] theorem pStr_i {Ss : List (String × DSp)} {c : String} {fs : List (String × D)} : pStr Ss [.ins c fs] M Q E = ∃ S, Ss.lookup c = some S ∧ S [.ins c fs] M (fun y M1 => ∃ t, y = .str t ∧ Q y M1) E := rfl
@[simp] theorem pFmt_s {x : Tx} : pFmt (.str x) M Q = (x.length ≤ LL ∧ Q (.str x) M) := rfl
@[simp] theorem pFmt_i {i : Int} : pFmt (.int i) M Q = (i.natAbs.log2 < 1920 ∧ Q (.str (tx (toString i))) M) := rfl
@[simp] theorem startD_s {N : List Str} {ds : List D} : startD N ds = ds.map some ++ List.replicate (N.length - ds.length) none := rfl
@[simp] theorem arD_s {ar : List Ar} {ds : List D} : arD ar ds = ar.map fun | .arg j => ds.getD j .non | .dfl d => d := rfl
@[simp] theorem putD_nil {f : String} {d : D} : putD f d [] = [(f, d)] := rfl
@[simp] theorem putD_cons {f g : String} {d e : D} {r : List (String × D)} : putD f d ((g, e) :: r) = if g = f then (g, d) :: r else (g, e) :: putD f d r := rfl
end
@[simp] theorem pSIndex_s {x y : Tx} {M : Hm} {Q : DK} : pSIndex (.str x) [.str y] M Q = ∃ i : Nat, idxT x y = some i ∧ Q (.int i) M := rfl
@[simp] theorem rcv_s {x : Tx} {M : Hm} : rcv "str" (.str x) M = True := by simp [rcv]
@[simp] theorem rcv_l {a : Addr} {M : Hm} : rcv "list" (.ref a) M = ∃ xs, Lz M a xs := by simp [rcv]
@[simp] theorem pSl_s {x : Tx} {lo hi : Option Int} {M : Hm} {Q : DK} : pSl (.str x) lo hi M Q = (x.length ≤ LL ∧ Q (.str (cutG x lo hi)) M) := rfl
@[simp] theorem pSl_t {x : List D} {lo hi : Option Int} {M : Hm} {Q : DK} : pSl (.tup x) lo hi M Q = Q (.tup (cutG x lo hi)) M := rfl
@[simp] theorem pAppend_s {a : Addr} {y : D} {M : Hm} {Q : DK} : pAppend (.ref a) [y] M Q = ∃ xs, M a = some (.lst xs) ∧ xs.length < LL ∧ Q .non (mup M a (.lst (xs ++ [y]))) := rfl
@[simp] theorem ex_lzl {M : Hm} {a : Addr} {ys : List D} {P : List D → Prop} (h : M a = some (.lst ys)) : (∃ xs, Lz M a xs ∧ P xs) ↔ P ys := by
  constructor
  · rintro ⟨xs, q | q, p⟩
    · rw [h] at q; cases q; exact p
    · rw [h] at q; cases q
  · exact fun p => ⟨ys, .inl h, p⟩
@[simp] theorem ex_lzf {M : Hm} {a : Addr} {ys : List D} {P : List D → Prop} (h : M a = some (.frl ys)) : (∃ xs, Lz M a xs ∧ P xs) ↔ P ys := by
  constructor
  · rintro ⟨xs, q | q, p⟩
    · rw [h] at q; cases q
    · rw [h] at q; cases q; exact p
  · exact fun p => ⟨ys, .inr h, p⟩
@[simp] theorem mup_ne_s {M : Hm} {a b : Addr} {o : MO} (h : b ≠ a) : mup M a o b = M b := mup_ne h
theorem sub_mup2 {M : Hm} {p q : Addr} {o u : MO} (hq : M q = none) : Sub (mup M p o) (mup (mup M q u) p o) := fun a m e => by
  by_cases z : a = p
  · subst z; rw [mup_same] at e ⊢; exact e
  · rw [mup_ne z] at e ⊢
    rw [mup_ne (ne_none e hq)]; exact e
theorem mup_none {M : Hm} {p q : Addr} {o : MO} (h : mup M p o q = none) : q ≠ p ∧ M q = none := by
  by_cases z : q = p
  · rw [z, mup_same] at h; cases h
  · rw [mup_ne z] at h; exact ⟨z, h⟩
theorem atI_nat {α : Type} {xs : List α} {j : Nat} (h : j < xs.length) : L2.atI xs (j : Int) = xs[j]? := by
  unfold L2.atI L2.ixN
  rw [if_pos (by omega), if_pos (by omega), Int.toNat_natCast]
  rfl
@[simp] theorem pSetL_r {M : Hm} {p : Addr} {i : Int} {d : D} {QM : Hm → Prop} : pSetL (.ref p) (.int i) d M QM = ∃ xs j, M p = some (.lst xs) ∧ L2.ixN xs.length i = some j ∧ QM (mup M p (.lst (xs.set j d))) := rfl
/-- what is seen less -/
theorem less {A : Hm → Prop} {M M' : Hm} (s : Sub M M') (h : A M) : ∃ M'', Sub M'' M' ∧ A M'' := ⟨M, s, h⟩
theorem now {A : Hm → Prop} {M : Hm} (h : A M) : ∃ M'', Sub M'' M ∧ A M'' := ⟨M, Sub.rfl', h⟩
theorem wFor_s {T : DTI} {G : DTG} {B : DTS} {K : DEn} {σ : SD} {M : Hm} : wFor T G B K σ M = T σ M (fun xs st M1 => wLoop G B K st xs σ M1) (fun x M1 => K.ex x σ M1) := rfl
theorem wLoop_n {G : DTG} {B : DTS} {K : DEn} {st : Hm → Prop} {σ : SD} {M : Hm} : wLoop G B K st [] σ M = (st M ∧ K.nx σ M) := rfl
theorem wLoop_c {G : DTG} {B : DTS} {K : DEn} {st : Hm → Prop} {x : D} {xs : List D} {σ : SD} {M : Hm} : wLoop G B K st (x :: xs) σ M = (st M ∧ G x σ M (fun σ2 M2 => B { K with nx := fun σ' M' => ∃ M'', Sub M'' M' ∧ wLoop G B K st xs σ' M'', ct := fun σ' M' => ∃ M'', Sub M'' M' ∧ wLoop G B K st xs σ' M'', bk := K.nx } σ2 M2) (fun x M2 => K.ex x σ M2)) := rfl
@[simp] theorem wItV_s {T : DTE} {σ : SD} {M : Hm} {Q : List D → (Hm → Prop) → Hm → Prop} {E : DX} : wItV T σ M Q E = T σ M (fun d M1 => dIter d M1 Q) E := rfl
@[simp] theorem dIter_t {xs : List D} {M : Hm} {Q : List D → (Hm → Prop) → Hm → Prop} : dIter (.tup xs) M Q = Q xs (fun _ => True) M := rfl
@[simp] theorem dIter_r {a : Addr} {M : Hm} {Q : List D → (Hm → Prop) → Hm → Prop} : dIter (.ref a) M Q = ∃ xs, Lz M a xs ∧ Q xs (fun M' => Lz M' a xs) M := rfl
@[simp] theorem wRng1_s {Tr : DTA} {σ : SD} {M : Hm} {Q : List D → (Hm → Prop) → Hm → Prop} {E : DX} : wRng1 Tr σ M Q E = Tr σ M (fun ds M1 => ∃ j : Int, ds = [.int j] ∧ -R62 ≤ j ∧ j < R62 ∧ Q (intsFrom 0 j.toNat) (fun _ => True) M1) E := rfl
theorem wComp_s {T : DTI} {G : DTG} {B : DTT} {Te : DTE} {vs : List Nat} {σ : SD} {M : Hm} {Q : DK} {E : DX} : wComp T G B Te vs σ M Q E = T σ M (fun xs st M1 => ∀ p, M1 p = none → wCompL G B Te vs p st (Q (.ref p)) xs σ (mup M1 p (.lst []))) E := rfl
theorem wCompL_n {G : DTG} {B : DTT} {Te : DTE} {vs : List Nat} {p : Addr} {st Q : Hm → Prop} {σ : SD} {M : Hm} : wCompL G B Te vs p st Q [] σ M = (st M ∧ Q M) := rfl
theorem wCompL_c {G : DTG} {B : DTT} {Te : DTE} {vs : List Nat} {p : Addr} {st Q : Hm → Prop} {x : D} {xs : List D} {σ : SD} {M : Hm} : wCompL G B Te vs p st Q (x :: xs) σ M = (st M ∧ G x (wipeD σ vs) M (fun σ2 M2 => B σ2 M2 (fun b M3 => if b = true then Te σ2 M3 (fun y M4 => ∃ acc, M4 p = some (.lst acc) ∧ acc.length < LL ∧ wCompL G B Te vs p st Q xs σ (mup M4 p (.lst (acc ++ [y])))) (fun _ _ => False)
      else wCompL G B Te vs p st Q xs σ M3) (fun _ _ => False)) (fun _ _ => False)) := rfl
@[simp] theorem wSetSl_s {Ta : DTE} {Tl Th : DTO} {d : D} {σ : SD} {M : Hm} {QS : SD → Hm → Prop} {E : DX} : wSetSl Ta Tl Th d σ M QS E = Ta σ M (fun o M1 => Tl σ M1 (fun lo M2 => Th σ M2 (fun hi M3 => ∃ p b xs ys a c, o = .ref p ∧ d = .ref b ∧ p ≠ b ∧ M3 p = some (.lst xs) ∧ M3 b = some (.lst ys) ∧ lo = some a ∧ hi = some c ∧ 0 ≤ a ∧ a ≤ c ∧ c ≤ xs.length ∧ xs.length + ys.length ≤ LL ∧
  QS σ (mup M3 p (.lst (xs.take a.toNat ++ ys ++ xs.drop c.toNat)))) E) E) E := rfl
@[simp] theorem wYes_s {σ : SD} {M : Hm} {Q : Bool → Hm → Prop} {E : DX} : wYes σ M Q E = Q true M := rfl
@[simp] theorem lk_c {f g : String} {d : D} {r : List (String × D)} : List.lookup f ((g, d) :: r) = if f = g then some d else List.lookup f r := by
  rw [List.lookup_cons]
  by_cases h : f = g
  · rw [if_pos h, beq_iff_eq.mpr h]
  · rw [if_neg h, beq_eq_false_iff_ne.mpr h]
theorem comp_map {i : Nat} {Te : DTE} {vs : List Nat} {σ : SD} {M0 : Hm} {p : Addr} {Q st : Hm → Prop} (f : D → D) (hst : ∀ acc, st (mup M0 p (.lst acc))) : ∀ (xs acc : List D),
    (∀ x ∈ xs, ∀ acc Q', Q' (f x) (mup M0 p (.lst acc)) → Te ((wipeD σ vs).set i (some x)) (mup M0 p (.lst acc)) Q' (fun _ _ => False)) → acc.length + xs.length ≤ LL →
    Q (mup M0 p (.lst (acc ++ xs.map f))) → wCompL (wName i) wYes Te vs p st Q xs σ (mup M0 p (.lst acc))
  | [], acc, _, _, h => ⟨hst _, by simpa using h⟩
  | x :: xs, acc, he, hl, h => by
    rw [wCompL_c]
    simp only [List.length_cons] at hl
    refine ⟨hst _, ?_⟩
    simp only [wName_s, wYes_s, if_true]
    refine he x List.mem_cons_self _ _ ⟨acc, mup_same, by omega, ?_⟩
    rw [mup_mup]
    refine comp_map f hst xs _ (fun y hy => he y (List.mem_cons_of_mem _ hy)) (by simp; omega) ?_
    simpa using h
/-- all but what stands at p is kept -/
def SubB (p : Addr) (M N : Hm) : Prop := ∀ a m, a ≠ p → M a = some m → N a = some m
theorem SubB.refl {p : Addr} {M : Hm} : SubB p M M := fun _ _ _ h => h
theorem SubB.put {p : Addr} {M N : Hm} {o : MO} (h : SubB p M N) : SubB p M (mup N p o) := fun a m n e => by rw [mup_ne n]; exact h a m n e
theorem SubB.new {p q : Addr} {M N : Hm} {o : MO} (h : SubB p M N) (hq : M q = none) : SubB p M (mup N q o) := fun a m n e => by
  rw [mup_ne (ne_none e hq)]; exact h a m n e
theorem SubB.less {p : Addr} {M N : Hm} {o : MO} (h : SubB p M N) (e : N p = some o) : Sub (mup M p o) N := fun a m z => by
  by_cases q : a = p
  · subst q; rw [mup_same] at z; cases z; exact e
  · rw [mup_ne q] at z; exact h a m q z
theorem SubB.none {p q : Addr} {M N : Hm} (h : SubB p M N) (hn : N q = none) (hp : q ≠ p) : M q = Option.none := by
  cases e : M q with
  | none => rfl
  | some m => rw [h q m hp e] at hn; cases hn
inductive Th where
  | nil | mk | pair (a b : Th)
namespace Th
def size : Th → Nat
  | .nil => 0 | .mk => 0 | .pair a b => 1 + a.size + b.size
def txt : Th → Tx
  | .nil => tx "." | .mk => tx "?" | .pair a b => tx "(" ++ a.txt ++ b.txt ++ tx ")"
def mkd : Th → Bool
  | .nil => false | .mk => true | .pair a b => a.mkd || b.mkd
/-- without the mark -/
def plain : Th → Bool
  | .nil => true | .mk => false | .pair a b => a.plain && b.plain
def enc : Th → D
  | .nil => .ins "Thing" [("left", .non), ("right", .non), ("many", .int 0), ("text", .str (tx ".")), ("marked", .bl false)]
  | .mk => .ins "Thing" [("left", .non), ("right", .non), ("many", .int 0), ("text", .str (tx "?")), ("marked", .bl true)]
  | .pair a b => .ins "Thing" [("left", enc a), ("right", enc b), ("many", .int (Th.pair a b).size), ("text", .str (Th.pair a b).txt), ("marked", .bl (Th.pair a b).mkd)]
end Th
abbrev enc : Th → D := Th.enc
theorem txt_len : ∀ t : Th, t.txt.length ≤ 3 * t.size + 1
  | .nil => by decide
  | .mk => by decide
  | .pair a b => by
    have h1 := txt_len a
    have h2 := txt_len b
    have e1 : (tx "(").length = 1 := rfl
    have e2 : (tx ")").length = 1 := rfl
    simp only [Th.txt, Th.size, List.length_append, e1, e2]
    omega
section
variable {t : Th} {M : Hm} {Q : DK}
@[simp] theorem at_many : pAttr (enc t) "many" M Q = Q (.int t.size) M := by cases t <;> simp [Th.enc, Th.size]
@[simp] theorem at_text : pAttr (enc t) "text" M Q = Q (.str t.txt) M := by cases t <;> simp [Th.enc, Th.txt]
@[simp] theorem at_marked : pAttr (enc t) "marked" M Q = Q (.bl t.mkd) M := by cases t <;> simp [Th.enc, Th.mkd]
@[simp] theorem enc_isNon : (enc t).isNon = false := by cases t <;> rfl
end
end DL
namespace DL
open PySem PySem.Spec PyProof.Rows L2
section
variable {Z : Zn} {X : Cx} {W : WX} {k n : Nat} {f : Addr} {fd : FuncData} {ps : List Str} {ar : List Ar} {S : DSp} {m : Str} {c : String} {pos apos : Pos} {o e : Expr} {es : List Expr} {To Ta Tb Tc : DTE} {Tr : DTA}
def isOf (c m : String) (d : D) (M : Hm) : Prop := match d with
  | .ins c' fs => c' = c ∧ fs.lookup m = none
  | .ref a => ∃ fs, M a = some (.ins c fs) ∧ fs.lookup m = none
  | _ => False
def wMeth (c m : String) (n : Nat) (ar : List Ar) (S : DSp) (To : DTE) (Tr : DTA) : DTE := fun σ M Q E => To σ M (fun d M1 => isOf c m d M1 ∧ Tr σ M1 (fun ds M2 => ds.length = n ∧ S (arD ar (d :: ds)) M2 Q E) E) E
theorem isOf_at {mm : String} {F H : Hp} {M : Hm} {d : D} {v : V} (V0 : View Z F M H) (rd : RD Z F d v) (h : isOf c mm d M) : ∃ a dx gs, v = .ref a ∧ H a = some (.ins (Z.ca c) dx gs) ∧ gs.lookup (Str.ofString mm) = none := by
  cases d with
  | ins c' fs =>
    obtain ⟨rfl, hl⟩ := h
    obtain ⟨a, dx, gs, rfl, hm, ha, hr⟩ := rd.ins_of
    exact ⟨a, dx, gs, rfl, V0.sub _ _ ha, hr.lookup_none hl⟩
  | ref a =>
    cases rd.ref_of
    obtain ⟨fs, hM, hl⟩ := h
    obtain ⟨dx, gs, hm, ha, hr⟩ := V0.ins hM
    exact ⟨a, dx, gs, rfl, ha, hr.lookup_none hl⟩
  | _ => exact h.elim
/-- the call itself, of f with self first -/
theorem run_own (F : FnOk X.prog X.w X.K X.mg X.base (CX X.prog X.w) k f fd ps (spOf Z ps.length S)) (hr : Room k X.A) (sh : Shape X.K fd ps (n + 1) [] ar) (hn : ar.length = ps.length) (tk : Takes X W) {pins : List (Addr × Obj)} {s : Shared} {τ : L2.St} {F0 H : Hp} {M : Hm} {ds : List D} {vs : List V} {us : List Value} {QD : DK} {ED : DX} {Q : VK}
    (I : Inv X pins τ H s) (V0 : View Z F0 M H) (rd : RDs Z F0 ds vs) (rv : Vals vs us) (hl : ds.length = n + 1) (h : S (arD ar ds) M QD ED) (hQ : WQ Z F0 QD Q) (hE : WE Z W F0 τ ED) : wpAny (model X.prog X.w) X.A (call (.ref f) us) (EP X pins τ Q) X.xe s := by
  obtain ⟨g, hb⟩ := sh.kb
  have := callG_fn (W := W) F hr hb tk pins s τ H vs [] us [] Q I rv .nil ⟨rd.length.symm.trans hl, rfl, F0, arD ar ds, M, QD, ED, ?_, ?_, V0, h, hQ, hE⟩
  · exact this
  · unfold arD; rw [List.length_map]; exact hn
  · rw [List.append_nil]; exact arRel rd (by rw [hl]; exact sh.ok)
theorem de_meth {pl : Sem Bool} {mm : String} (hz : Z.K = X.K) (hmm : Str.ofString mm = m) (cl : Cls X.K (Z.ca c)) (hm : Meth X.K (Z.ca c) m f) (F : FnOk X.prog X.w X.K X.mg X.base (CX X.prog X.w) k f fd ps (spOf Z ps.length S)) (hr : Room k X.A) (sh : Shape X.K fd ps (n + 1) [] ar) (hn : ar.length = ps.length) (tk : Takes X W)
    (ho : DE Z X W o To) (ha : DA Z X W (e :: es) Tr) (hst : starEach (e :: es) X.env = (false, eval e X.env) :: starEach es X.env) (hpl : (backTo pos (starEach es X.env)).any (·.1) = false)
    (ht : eval (.Call (.Attribute o m apos) (e :: es) [] pos) X.env = (do
      let ov ← eval o X.env
      standAt apos.atName
      let (f, first) ← holding [ov] (getMethod ov m pl)
      callWith pos f first (backTo pos (starEach (e :: es) X.env)) (backToKw pos (keywordEach [] X.env)))) :
    DE Z X W (.Call (.Attribute o m apos) (e :: es) [] pos) (wMeth c mm n ar S To Tr) := by
  subst hmm
  refine ⟨fun pins s τ H Q I ⟨F0, σ, M, QD, ED, Sr, V0, hT, hQ, hE⟩ => ?_⟩
  refine PySem.W.methodCall_KW (pl := pl) (thn (ho.run pins s τ H (fun v1 H1 => ∃ F1 d1 M1, Ext F0 F1 ∧ View Z F1 M1 H1 ∧ RD Z F1 d1 v1 ∧ isOf c mm d1 M1 ∧ Tr σ M1 (fun ds M2 => ds.length = n ∧ S (arD ar (d1 :: ds)) M2 QD ED) ED) I ⟨F0, σ, M, _, ED, Sr, V0, hT, fun F1 d1 v1 M1 H1 e1 V1 r1 ⟨q0, q1⟩ => ⟨F1, d1, M1, e1, V1, r1, q0, q1⟩, hE⟩) fun u s1 ⟨v, H1, I1, ru, F1, d1, M1, e1, V1, r1, q0, q1⟩ => ?_) ht
  obtain ⟨a, dx, gs, rfl, hH, hl⟩ := isOf_at V1 r1 q0
  cases ru
  refine getmeth_ok I1 hH cl hm hl ?_
  refine PySem.W.callWith_K (first := [.ref a]) (h₀ := X.base) I.ok.mod.kin hm.kp (thn (ha.run pos pins s1 τ H1 (fun vs H2 => ∃ F2 ds M2, Ext F1 F2 ∧ View Z F2 M2 H2 ∧ RDs Z F2 ds vs ∧ ds.length = n ∧ S (arD ar (d1 :: ds)) M2 QD ED) I1 ⟨F1, σ, M1, _, ED, Sr.ext e1, V1, q1, fun F2 ds vs M2 H2 e2 V2 r2 ⟨l, q2⟩ => ⟨F2, ds, M2, e2, V2, r2, l, q2⟩, hE.ext e1⟩) fun us s2 ⟨vs, H2, I2, rv, F2, ds, M2, e2, V2, r2, l, q2⟩ => ⟨I2.kIn, ?_⟩) hst hpl
  exact run_own F hr sh hn tk I2 V2 (.cons (r1.ext e2) r2) (.cons rfl rv) (by simp [l]) q2 (hQ.ext (e1.trans e2)) (hE.ext (e1.trans e2))
theorem de_meth0 {pl : Sem Bool} {mm : String} (hz : Z.K = X.K) (hmm : Str.ofString mm = m) (cl : Cls X.K (Z.ca c)) (hm : Meth X.K (Z.ca c) m f) (F : FnOk X.prog X.w X.K X.mg X.base (CX X.prog X.w) k f fd ps (spOf Z ps.length S)) (hr : Room k X.A) (sh : Shape X.K fd ps (0 + 1) [] ar) (hn : ar.length = ps.length) (tk : Takes X W)
    (ho : DE Z X W o To)
    (ht : eval (.Call (.Attribute o m apos) [] [] pos) X.env = (do
      let ov ← eval o X.env
      standAt apos.atName
      let (f, first) ← holding [ov] (getMethod ov m pl)
      callWith pos f first (backTo pos (starEach [] X.env)) (backToKw pos (keywordEach [] X.env)))) :
    DE Z X W (.Call (.Attribute o m apos) [] [] pos) (wMeth c mm 0 ar S To wNil) := by
  subst hmm
  refine ⟨fun pins s τ H Q I ⟨F0, σ, M, QD, ED, Sr, V0, hT, hQ, hE⟩ => ?_⟩
  refine PySem.W.methodCall_KW (pl := pl) (thn (ho.run pins s τ H (fun v1 H1 => ∃ F1 d1 M1, Ext F0 F1 ∧ View Z F1 M1 H1 ∧ RD Z F1 d1 v1 ∧ isOf c mm d1 M1 ∧ S (arD ar [d1]) M1 QD ED) I ⟨F0, σ, M, _, ED, Sr, V0, hT, fun F1 d1 v1 M1 H1 e1 V1 r1 ⟨q0, _, q1⟩ => ⟨F1, d1, M1, e1, V1, r1, q0, q1⟩, hE⟩) fun u s1 ⟨v, H1, I1, ru, F1, d1, M1, e1, V1, r1, q0, q1⟩ => ?_) ht
  obtain ⟨a, dx, gs, rfl, hH, hl⟩ := isOf_at V1 r1 q0
  cases ru
  refine getmeth_ok I1 hH cl hm hl ?_
  exact PySem.W.callWith_K0 (first := [.ref a]) I1.kIn hm.kp (run_own F hr sh hn tk I1 V1 (.cons r1 .nil) (.cons rfl .nil) rfl q1 (hQ.ext e1) (hE.ext e1))
@[simp] theorem wMeth_s {cc mm : String} {σ : SD} {M : Hm} {Q : DK} {E : DX} : wMeth cc mm n ar S To Tr σ M Q E = To σ M (fun d M1 => isOf cc mm d M1 ∧ Tr σ M1 (fun ds M2 => ds.length = n ∧ S (arD ar (d :: ds)) M2 Q E) E) E := rfl
@[simp] theorem isOf_i {cc c' mm : String} {fs : List (String × D)} {M : Hm} : isOf cc mm (.ins c' fs) M = (c' = cc ∧ fs.lookup mm = none) := rfl
@[simp] theorem isOf_r {cc mm : String} {a : Addr} {M : Hm} : isOf cc mm (.ref a) M = ∃ fs, M a = some (.ins cc fs) ∧ fs.lookup mm = none := rfl
def pIAdd (x y : D) (M : Hm) (Q : DK) : Prop := match x, y with
  | .int i, .int j => Q (.int (i + j)) M
  | .str s, .str t => s.length + t.length ≤ LL ∧ Q (.str (s ++ t)) M
  | .ref a, .ref b => ∃ xs ys, M a = some (.lst xs) ∧ M b = some (.lst ys) ∧ xs.length + ys.length ≤ LL ∧ Q (.ref a) (mup M a (.lst (xs ++ ys)))
  | _, _ => False
theorem ip_addO : PIp X .Add (rOf Z pIAdd) := by
  rintro pins s τ H x y v u Q I rx ry ⟨F, M, d, e, QD, V0, r1, r2, q, hQ⟩
  unfold pIAdd at q
  split at q
  · cases r1.int_of; cases r2.int_of
    exact iop_add pins s τ H _ _ v u Q I rx ry ⟨_, _, rfl, rfl, hQ F _ _ M H Ext.rfl' V0 (.int _) q⟩
  · cases r1.str_of; cases r2.str_of
    refine iop_add_str pins s τ H _ _ v u Q I rx ry ⟨_, _, rfl, rfl, by rw [sv_len, sv_len, LL_eq]; exact q.1, ?_⟩
    rw [sv_app]
    exact hQ F _ _ M H Ext.rfl' V0 (.str _) q.2
  · cases r1.ref_of; cases r2.ref_of
    obtain ⟨xs, ys, hx, hy, hl, q⟩ := q
    obtain ⟨us, hu, ru⟩ := V0.lst hx
    obtain ⟨ws, hw, rw'⟩ := V0.lst hy
    exact iop_ext pins s τ H _ _ v u Q I rx ry ⟨_, _, us, ws, rfl, rfl, hu, hw, by rw [← ru.length, ← rw'.length, LL_eq]; exact hl, hQ F _ _ _ _ Ext.rfl' (V0.put hx (show RM Z F (.lst _) (.lst _) from ru.append rw')) (.ref _) q⟩
  · exact q.elim
@[simp] theorem pIAdd_r {a b : Addr} {M : Hm} {Q : DK} : pIAdd (.ref a) (.ref b) M Q = ∃ xs ys, M a = some (.lst xs) ∧ M b = some (.lst ys) ∧ xs.length + ys.length ≤ LL ∧ Q (.ref a) (mup M a (.lst (xs ++ ys))) := rfl
theorem ip_subO : PIp X .Sub (rOf Z pSub) := by
  rintro pins s τ H x y v u Q I rx ry ⟨F, M, d, e, QD, V0, r1, r2, q, hQ⟩
  unfold pSub at q
  split at q
  · cases r1.int_of; cases r2.int_of
    exact iop_sub pins s τ H _ _ v u Q I rx ry ⟨_, _, rfl, rfl, hQ F _ _ M H Ext.rfl' V0 (.int _) q⟩
  · exact q.elim
theorem saug {op : Operator} {P : D → D → Hm → DK → Prop} {x : Str} {pos' : Pos} (i : Nat) (ct : Ct Z X W k) (ho : PIp X op (rOf Z P)) (he : DE Z X W e Ta) (hi : X.N[i]? = some x := by rfl) (hx : Loc X.env.scope x := by first | exact Or.inl rfl | exact Or.inr rfl) (hf : X.fn x = true ∨ X.env.scope.names.lookup x = some .local := by first | exact .inl rfl | exact .inr rfl) : DS Z X W (.AugAssign (.Name x pos') op e pos) (wAug i Ta P) := ds_aug ct.nd hi hx hf he ho ref_of
@[simp] theorem wAug_s {i : Nat} {P : D → D → Hm → DK → Prop} {K : DEn} {σ : SD} {M : Hm} : wAug i Ta P K σ M = ∃ d, σ[i]? = some (some d) ∧ Ta σ M (fun y M1 => P d y M1 (fun z M2 => K.nx (σ.set i (some z)) M2)) (fun x M1 => K.ex x σ M1) := rfl
@[simp] theorem pIAdd_i {i j : Int} {M : Hm} {Q : DK} : pIAdd (.int i) (.int j) M Q = Q (.int (i + j)) M := rfl
@[simp] theorem pIAdd_s {i j : Tx} {M : Hm} {Q : DK} : pIAdd (.str i) (.str j) M Q = (i.length + j.length ≤ LL ∧ Q (.str (i ++ j)) M) := rfl
theorem wChain_ok {P P' : D → D → Hm → DK → Prop} : ∀ τ H Q, tOf Z W (wChain P P' Ta Tb Tc) τ H Q → tChain (rOf Z P) (rOf Z P') (tOf Z W Ta) (tOf Z W Tb) (tOf Z W Tc) τ H Q :=
  fun τ H Q ⟨F, σ, M, QD, ED, S, V0, h, hQ, hE⟩ => ⟨F, σ, M, _, ED, S, V0, h, fun F1 d1 v1 M1 H1 e1 V1 r1 q1 => ⟨F1, σ, M1, _, ED, S.ext e1, V1, q1, fun F2 d2 v2 M2 H2 e2 V2 r2 q2 =>
    ⟨F2, M2, d1, d2, _, V2, r1.ext e2, r2, q2, fun F3 d3 v3 M3 H3 e3 V3 r3 ⟨k, hk, q3⟩ => by
      subst hk
      refine ⟨k, r3.bl_of, ?_⟩
      cases k with
      | false => exact hQ F3 _ _ M3 H3 ((e1.trans e2).trans e3) V3 (.bl false) q3
      | true => exact ⟨F3, σ, M3, _, ED, ((S.ext e1).ext e2).ext e3, V3, q3, fun F4 d4 v4 M4 H4 e4 V4 r4 q4 => ⟨F4, M4, d2, d4, QD, V4, (r2.ext e3).ext e4, r4, q4, hQ.ext (((e1.trans e2).trans e3).trans e4)⟩, ((hE.ext e1).ext e2).ext e3⟩⟩, hE.ext e1⟩, hE⟩
variable {a b d : Expr} {op op' : CmpOp} {P P' : D → D → Hm → DK → Prop}
theorem qchain (ho : OpR X (compareOp op) (rOf Z P)) (ho' : OpR X (compareOp op') (rOf Z P')) (ha : DE Z X W a Ta) (hb : DE Z X W b Tb) (hc : DE Z X W d Tc) (hm : lastMarks [op, op'] [b, d] = false := by with_unfolding_all rfl) : DE Z X W (.Compare a [op, op'] [b, d] pos) (wChain P P' Ta Tb Tc) :=
  PE.imp (pe_chain ho ho' ha hb hc hm) wChain_ok
theorem tchain (ho : OpR X (compareOp op) (rOf Z P)) (ho' : OpR X (compareOp op') (rOf Z P')) (ha : DE Z X W a Ta) (hb : DE Z X W b Tb) (hc : DE Z X W d Tc) (hm : lastMarks [op, op'] [b, d] = false := by with_unfolding_all rfl) : DB Z X W (.Compare a [op, op'] [b, d] pos) (wB (wChain P P' Ta Tb Tc)) := by
  refine PT.imp (pt_chain ho ho' ha hb hc hm) fun τ H Q ⟨F, σ, M, QD, ED, S, V0, h, hQ, hE⟩ => ?_
  refine wChain_ok (W := W) τ H _ ⟨F, σ, M, _, ED, S, V0, h, fun F1 d v M1 H1 e1 V1 r1 q1 => ?_, hE⟩
  obtain ⟨b, rfl, q1⟩ := q1
  exact ⟨b, r1.bl_of, hQ F1 b M1 H1 e1 V1 q1⟩
@[simp] theorem wChain_s {σ : SD} {M : Hm} {Q : DK} {E : DX} : wChain P P' Ta Tb Tc σ M Q E = Ta σ M (fun x M1 => Tb σ M1 (fun y M2 => P x y M2 (fun z M3 => ∃ k, z = .bl k ∧ if k = true then Tc σ M3 (fun w M4 => P' y w M4 Q) E else Q (.bl false) M3)) E) E := rfl
end
end DL
namespace DL
open PySem PySem.Spec PyProof.Rows L2
abbrev tIt (t : Addr) : Obj := { cls := .type "tuple_iterator", data := .fields #[.ref t, .int 0 0] }
abbrev eOb (a : Addr) : Obj := { cls := .type "enumerate", data := .fields #[.none, .bool false, .ref a, rawInt 0, .none, .none] }
open PySem.AutoSeq1 in
theorem enum_newT (t : Addr) (items : Array Value) (n : Nat) (dct : Option Addr) (sl : Array (Option Value)) :
    Meets (Builtin.«enumerate.__new__» ⟨[.type "enumerate", .ref t], []⟩) (fun _ R s => s.heap.get? t = some { cls := .type "tuple", dict := dct, data := .seq items n, slots := sl } ∧
      R (.ok (.ret (.ref (s.heap.push (tIt t)).objs.size))) { s with heap := (s.heap.push (tIt t)).push (eOb s.heap.objs.size) }) :=
  .of_wp fun prog w A R s h => by
    obtain ⟨hp, g, d, tk, os⟩ := s
    obtain ⟨at_, h⟩ := h
    have below := sub_enumerate
    have isT : Heap.IsTuple (Shared.heap ⟨hp, g, d, tk, os⟩) t items := ⟨_, at_, rfl, n, rfl⟩
    wp_walk using wpAny_loadPart' at_
    refine wpAny_stack_any fun st => wpAny_pure ?_
    split
    · rename_i c _ _ _ _ _
      cases (c == Value.type "enumerate") <;> (wp_walk using wpAny_loadPart' at_, wpAny_pyIter_tuple isT; exact ⟨_, rfl, h⟩)
    · wp_walk using wpAny_loadPart' at_, wpAny_pyIter_tuple isT
      exact ⟨_, rfl, h⟩
theorem call_enumT {prog : Program} {w : World} {A : Around} {E : Value → Shared → Prop} {s : Shared} {t : Addr} {items : Array Value} {Q : Value → Shared → Prop} (hT : s.heap.IsTuple t items)
    (h : ∀ h', IsEnum h' (s.heap.objs.size + 1) s.heap.objs.size 0 .none → h'.IsTupleIter s.heap.objs.size t 0 → (∀ b o, s.heap.get? b = some o → h'.get? b = some o) → Q (.ref (s.heap.objs.size + 1)) { s with heap := h' }) :
    wpAny (model prog w) A (call (.type "enumerate") [.ref t]) Q E s := by
  obtain ⟨⟨c, dct, dt, sl⟩, at_, hc, n, hd⟩ := hT
  dsimp only at hc hd
  subst hc hd
  refine callType_new F.called_enumerate (by decide) (F.typeCall_enumerate_1 _) (F.newCall_enumerate_1 _) (fun obj => F.args_object_init_2 obj _) F.entry_enumerate_new (enum_newT t items n dct sl) ⟨at_, ?_⟩
  have sz : (s.heap.push (tIt t)).objs.size = s.heap.objs.size + 1 := Heap.size_push ..
  have en : IsEnum ((s.heap.push (tIt t)).push (eOb s.heap.objs.size)) (s.heap.objs.size + 1) s.heap.objs.size 0 .none := by
    have q := Heap.get?_push_size (s.heap.push (tIt t)) (o := eOb s.heap.objs.size) rfl
    rw [sz] at q
    exact q
  show _ ∧ _
  rw [sz]
  exact ⟨⟨_, en, rfl⟩, h _ en ⟨_, Heap.get?_push_of_some _ (Heap.get?_push_size _ rfl), rfl, rfl⟩ fun b o y => Heap.get?_push_of_some _ (Heap.get?_push_of_some _ y)⟩
def Iet (K : PySem.W.Frag) (a : Addr) : It := ⟨fun i H => ∃ (xs : List V) (x : V), SqT K H a xs ∧ xs[i]? = some x, fun i H v H' => ∃ T x, v = .ref T ∧ H T = none ∧ H' = upd H T (.tup [.int (i : Nat), x]) ∧ ∀ xs, SqT K H a xs → xs[i]? = some x, fun i H => ∃ xs : List V, SqT K H a xs ∧ i = xs.length⟩
theorem turn_enumT {P : Program} {w : World} {K : PySem.W.Frag} {elts : List Expr} {kk : Nat} {tpos : Pos} (a e it : Addr) :
    Turn P w K (.Tuple elts kk tpos) (Iet K a) [e, it] e (fun i h => (∃ old, IsEnum h e it ((i : Nat) : Int) old) ∧ h.IsTupleIter it a i ∧ e ≠ it) where
  mem := by simp
  obj := fun i h st b hb => by
    obtain ⟨⟨old, he⟩, ⟨o, ho, hc, hd⟩, _⟩ := st
    have q : b = e ∨ b = it := by simpa using hb
    rcases q with z | z
    · rw [z]; exact ⟨_, he, fun v q => nomatch q⟩
    · rw [z]; exact ⟨o, ho, fun v q => by rw [hd] at q; cases q⟩
  keep := fun i h h' st k => let ⟨⟨old, he⟩, ⟨o, ho, r⟩, hne⟩ := st; ⟨⟨old, k e (by simp) _ he⟩, ⟨o, k it (by simp) o ho, r⟩, hne⟩
  item := by
    intro X hP hw hK hc i pins s σ H E I hf st hg
    subst hP hw hK
    obtain ⟨⟨old, he⟩, hit, hne⟩ := st
    obtain ⟨xs, x, hq, hx⟩ := hg
    obtain ⟨its, rv, isT, _⟩ := I.tuple hq
    obtain ⟨u, hu, ru⟩ := rv.get hx
    have nta : ∀ {b : Addr} {o : Obj}, s.heap.get? b = some o → o.cls ≠ .type "tuple" → a ≠ b := fun q ne z => by
      obtain ⟨o', q', c', _⟩ := isT
      rw [z, q] at q'; cases q'; exact ne c'
    have ne1 : a ≠ e := nta he (show (Value.type "enumerate" : Value) ≠ .type "tuple" from by decide)
    have ne2 : a ≠ it := by
      obtain ⟨o, q, c, _⟩ := hit
      exact nta q (by rw [c]; decide)
    have D := Draws.tuple (prog := X.prog) (w := X.w) (A := X.A.in1) (I.ok.hd hc) it a ne2 its.toArray
    have hel : e < s.heap.objs.size := Heap.lt_size he
    have hil : it < s.heap.objs.size := by obtain ⟨_, q, _⟩ := hit; exact Heap.lt_size q
    have hlt : i < its.toArray.size := by
      have := (List.getElem?_eq_some_iff.mp hu).1
      simpa using this
    refine wpAny_pyNext_enum_itemD D he ⟨hit, isT⟩ hlt hne (by simp; exact ⟨hne, Ne.symm ne1⟩) fun u2 h' tk hP ho hit' hT hsz hk => ?_
    have hP' : u2 = u := by
      have q : its.toArray[i]? = some u2 := hP
      have q2 : its[i]? = some u2 := by simpa using q
      rw [hu] at q2; exact (Option.some.inj q2).symm
    subst hP'
    refine ⟨_, rfl, wpAny_letOwnedTupleGo_enum (s := { s with heap := h', toks := tk + 1 }) ho fun h'' he' sb => ?_⟩
    have hT2 : h''.get? s.heap.objs.size = some { cls := .type "tuple", data := .seq #[.int i tk, u2] } := (sb.2 _ (Nat.ne_of_gt hel)).trans hT
    have new : ObjOk X.prog X.w (upd H s.heap.objs.size (.tup [.int (i : Nat), x])) h'' s.heap.objs.size (.tup [.int (i : Nat), x]) :=
      ⟨by show 2 ≤ sizeLine; decide, [.int i tk, u2], .cons ⟨_, rfl⟩ (.cons ru .nil), ⟨_, hT2, rfl, _, rfl⟩⟩
    have I1 : Inv X pins σ (upd H s.heap.objs.size (.tup [.int (i : Nat), x])) { s with heap := h'', toks := tk + 1 } :=
      I.turnedNew (ch := [e, it]) (fun b ob hb q => (sb.2 b (fun z => hb (by simp [z]))).trans (hk b ob (fun z => hb (by simp [z])) (fun z => hb (by simp [z])) q)) hf (Nat.le_refl _) new
    refine ⟨.ref s.heap.objs.size, _, I1, rfl, ⟨_, x, rfl, I.hok.fresh (Nat.le_refl _), rfl, fun ys hy => by rw [I.tuple_inj hy hq]; exact hx⟩, ⟨⟨u2, ?_⟩, ?_, hne⟩, fun b hb => ?_⟩
    · rw [show ((i + 1 : Nat) : Int) = (i : Int) + 1 by omega]; exact he'
    · obtain ⟨o, q, r⟩ := hit'.1
      exact ⟨o, (sb.2 it (Ne.symm hne)).trans q, r⟩
    · have hb' : b < s.heap.objs.size := by
        have q : b = e ∨ b = it := by simpa using hb
        rcases q with z | z
        · rw [z]; exact hel
        · rw [z]; exact hil
      rw [upd_ne (Nat.ne_of_lt hb')]
      exact (hf b hb).1
  done := by
    intro X hP hw hK hc i pins s σ H E I hf st hg
    subst hP hw hK
    obtain ⟨⟨old, he⟩, hit, hne⟩ := st
    obtain ⟨xs, hq, hi⟩ := hg
    obtain ⟨its, rv, isT, _⟩ := I.tuple hq
    have ne2 : a ≠ it := by
      obtain ⟨o, q, c, _⟩ := hit
      obtain ⟨o', q', c', _⟩ := isT
      intro z
      rw [z, q] at q'; cases q'
      rw [c] at c'; exact absurd c' (by decide)
    have D := Draws.tuple (prog := X.prog) (w := X.w) (A := X.A.in1) (I.ok.hd hc) it a ne2 its.toArray
    obtain ⟨f0, f1, f2, f3, f4, f5⟩ := hf it (by simp)
    have e1 : i = its.toArray.size := by rw [hi, rv.length]; simp
    subst e1
    exact wpAny_pyNext_enum_endD D he ⟨hit, isT⟩ fun h' eb => ⟨rfl, I.turned (t' := s.toks) (fun b o hb q => eb b o hb q) f0 f1 f3 f4 f5⟩
  self := fun A i s Q E st h => let ⟨⟨_, he⟩, _⟩ := st; wpAny_pyIter_enum he h
def Ies (x : Str) : It := ⟨fun i _ => i < x.cps.size, fun i H v H' => ∃ T c, v = .ref T ∧ H T = none ∧ H' = upd H T (.tup [.int (i : Nat), .str ⟨#[c]⟩]) ∧ x.cps[i]? = some c, fun i _ => i = x.cps.size⟩
theorem turn_enumS {P : Program} {w : World} {K : PySem.W.Frag} {elts : List Expr} {kk : Nat} {tpos : Pos} (x : Str) (t : Tok) (e it : Addr) :
    Turn P w K (.Tuple elts kk tpos) (Ies x) [e, it] e (fun i h => (∃ old, IsEnum h e it ((i : Nat) : Int) old) ∧ h.IsStrIter it (strIterType x) x t i ∧ e ≠ it) where
  mem := by simp
  obj := fun i h st b hb => by
    obtain ⟨⟨old, he⟩, ⟨o, ho, hc, hd⟩, _⟩ := st
    have q : b = e ∨ b = it := by simpa using hb
    rcases q with z | z
    · rw [z]; exact ⟨_, he, fun v q => nomatch q⟩
    · rw [z]; exact ⟨o, ho, fun v q => by rw [hd] at q; cases q⟩
  keep := fun i h h' st k => let ⟨⟨old, he⟩, ⟨o, ho, r⟩, hne⟩ := st; ⟨⟨old, k e (by simp) _ he⟩, ⟨o, k it (by simp) o ho, r⟩, hne⟩
  item := by
    intro X hP hw hK hc i pins s σ H E I hf st hg
    subst hP hw hK
    obtain ⟨⟨old, he⟩, hit, hne⟩ := st
    have D : Draws X.prog X.w X.A.in1 it [it] x.cps.size (SignAt x) (fun i h => h.IsStrIter it (strIterType x) x t i) := by
      have hh : X.A.in1.handled = none := I.ok.hd hc
      unfold strIterType
      cases ha : x.cps.all (· < 128)
      · rw [if_neg (by decide)]; exact Draws.strWide hh it x t
      · rw [if_pos rfl]; exact Draws.strAscii hh it x t
    have hel : e < s.heap.objs.size := Heap.lt_size he
    have hil : it < s.heap.objs.size := by obtain ⟨_, q, _⟩ := hit; exact Heap.lt_size q
    refine wpAny_pyNext_enum_itemD D he hit hg hne (by simpa using hne) fun u h' tk hP ho hit' hT hsz hk => ?_
    obtain ⟨c, t1, hcx, rfl⟩ := hP
    refine ⟨_, rfl, wpAny_letOwnedTupleGo_enum (s := { s with heap := h', toks := tk + 1 }) ho fun h'' he' sb => ?_⟩
    have hT2 : h''.get? s.heap.objs.size = some { cls := .type "tuple", data := .seq #[.int i tk, .str ⟨#[c]⟩ t1] } := (sb.2 _ (Nat.ne_of_gt hel)).trans hT
    have new : ObjOk X.prog X.w (upd H s.heap.objs.size (.tup [.int (i : Nat), .str ⟨#[c]⟩])) h'' s.heap.objs.size (.tup [.int (i : Nat), .str ⟨#[c]⟩]) :=
      ⟨by show 2 ≤ sizeLine; decide, [.int i tk, .str ⟨#[c]⟩ t1], .cons ⟨_, rfl⟩ (.cons ⟨_, rfl⟩ .nil), ⟨_, hT2, rfl, _, rfl⟩⟩
    have I1 : Inv X pins σ (upd H s.heap.objs.size (.tup [.int (i : Nat), .str ⟨#[c]⟩])) { s with heap := h'', toks := tk + 1 } :=
      I.turnedNew (ch := [e, it]) (fun b ob hb q => (sb.2 b (fun z => hb (by simp [z]))).trans (hk b ob (fun z => hb (by simp [z])) (fun z => hb (by simp [z])) q)) hf (Nat.le_refl _) new
    refine ⟨.ref s.heap.objs.size, _, I1, rfl, ⟨_, c, rfl, I.hok.fresh (Nat.le_refl _), rfl, hcx⟩, ⟨⟨.str ⟨#[c]⟩ t1, ?_⟩, ?_, hne⟩, fun b hb => ?_⟩
    · rw [show ((i + 1 : Nat) : Int) = (i : Int) + 1 by omega]; exact he'
    · obtain ⟨o, q, r⟩ := hit'
      exact ⟨o, (sb.2 it (Ne.symm hne)).trans q, r⟩
    · have hb' : b < s.heap.objs.size := by
        have q : b = e ∨ b = it := by simpa using hb
        rcases q with z | z
        · rw [z]; exact hel
        · rw [z]; exact hil
      rw [upd_ne (Nat.ne_of_lt hb')]
      exact (hf b hb).1
  done := by
    intro X hP hw hK hc i pins s σ H E I hf st hg
    subst hP hw hK
    obtain ⟨⟨old, he⟩, hit, hne⟩ := st
    have D : Draws X.prog X.w X.A.in1 it [it] x.cps.size (SignAt x) (fun i h => h.IsStrIter it (strIterType x) x t i) := by
      have hh : X.A.in1.handled = none := I.ok.hd hc
      unfold strIterType
      cases ha : x.cps.all (· < 128)
      · rw [if_neg (by decide)]; exact Draws.strWide hh it x t
      · rw [if_pos rfl]; exact Draws.strAscii hh it x t
    obtain ⟨f0, f1, f2, f3, f4, f5⟩ := hf it (by simp)
    have hi : i = x.cps.size := hg
    subst hi
    exact wpAny_pyNext_enum_endD D he hit fun h' eb => ⟨rfl, I.turned (t' := s.toks) (fun b o hb q => eb b o hb q) f0 f1 f3 f4 f5⟩
  self := fun A i s Q E st h => let ⟨⟨_, he⟩, _⟩ := st; wpAny_pyIter_enum he h
section
variable {Z : Zn} {X : Cx} {W : WX} {k : Nat} {e tg : Expr} {Ta : DTE} {Tr : DTA} {p pos tpos : Pos} {elts : List Expr} {kk : Nat}
def numD (xs : List D) : List D := (List.range xs.length).map fun (i : Nat) => D.tup [.int i, xs.getD i .non]
theorem numD_get {xs : List D} {i : Nat} {d : D} (h : (numD xs)[i]? = some d) : ∃ y, xs[i]? = some y ∧ d = .tup [.int i, y] := by
  unfold numD at h
  rw [List.getElem?_map] at h
  cases q : (List.range xs.length)[i]? with
  | none => rw [q] at h; cases h
  | some j =>
    rw [q] at h; cases h
    obtain ⟨hl, hj⟩ := List.getElem?_eq_some_iff.mp q
    rw [List.getElem_range] at hj
    subst hj
    have hl2 : i < xs.length := by simpa using hl
    exact ⟨xs[i], List.getElem?_eq_getElem hl2, by show D.tup [D.int i, xs.getD i .non] = _; rw [List.getD_eq_getElem?_getD, List.getElem?_eq_getElem hl2]; rfl⟩
theorem numD_len {xs : List D} : (numD xs).length = xs.length := by simp [numD]
def dEnum (ds : List D) (M : Hm) (Q : List D → (Hm → Prop) → Hm → Prop) : Prop := match ds with
  | [.ref a] => ∃ xs, Lz M a xs ∧ Q (numD xs) (fun M' => Lz M' a xs) M
  | [.str x] => Q (numD (x.map fun c => .str [c])) (fun _ => True) M
  | [.tup xs] => Q (numD xs) (fun _ => True) M
  | _ => False
def wEnum (Tr : DTA) : DTI := fun σ M Q E => Tr σ M (fun ds M1 => dEnum ds M1 Q) E
theorem RD.pair {F H : Hp} {M : Hm} {T : Addr} {a b : D} {v w : V} (V0 : View Z F M H) (hT : H T = none) (ra : RD Z F a v) (rb : RD Z F b w) : ∃ G', Ext F G' ∧ View Z G' M (upd H T (.tup [v, w])) ∧ RD Z G' (.tup [a, b]) (.ref T) := by
  have e := Ext.new (o := .tup [v, w]) (V0.free hT).2
  exact ⟨_, e, V0.newT hT, .tup (SqT.of upd_same) (.cons (ra.ext e) (.cons (rb.ext e) .nil))⟩
theorem di_enum (hz : Z.K = X.K) (hg : Gl X "enumerate") (hm : X.mg "enumerate" = none) (ha : DA Z X W [e] Tr) (hs : starEach [e] X.env = [(false, eval e X.env)]) : DI Z X W (.Tuple elts kk tpos) (.Call (.Name "enumerate" p) [e] [] pos) (wEnum Tr) := by
  refine ⟨fun pins s τ H R I ⟨F, σ, M, QD, ED, S, V0, hT, hQ, hE⟩ => ?_⟩
  refine Call_ (ld_blt I hg hm bt_enumerate (PyProof.Rows.callWith_type1 (thn (ha.run pos pins s τ H (fun vs H1 => ∃ F1 ds M1, Ext F F1 ∧ View Z F1 M1 H1 ∧ RDs Z F1 ds vs ∧ dEnum ds M1 QD) I ⟨F, σ, M, _, ED, S, V0, hT, fun F1 ds v1 M1 H1 e1 V1 r1 q1 => ⟨F1, ds, M1, e1, V1, r1, q1⟩, hE⟩) fun us s1 ⟨vs, H1, I1, ru, F1, ds, M1, e1, V1, r1, q1⟩ => ?_) hs rfl))
  match ds, q1, r1 with
  | [.ref a], q1, r1 =>
    obtain ⟨v, u, rfl, rfl, rd, ru⟩ := one_of r1 ru
    cases rd.ref_of
    cases ru
    obtain ⟨xs, hx, q⟩ := q1
    obtain ⟨ws, hq, rs⟩ := V1.lz hx
    rw [hz] at hq
    have q2 : R (Ite X.K a) H1 := hQ F1 (Ite X.K a) _ _ M1 H1 e1 V1 ⟨fun i d G H' M' ee v' st hi => by
      obtain ⟨y, hy, rfl⟩ := numD_get hi
      obtain ⟨vs', hq', rs'⟩ := v'.lz st
      obtain ⟨w, h1, h2⟩ := rs'.get hy
      rw [hz] at hq'
      refine ⟨⟨vs', w, hq', h1⟩, fun x H'' yy => ?_⟩
      obtain ⟨T, w', rfl, hT, rfl, hw⟩ := yy
      have := hw vs' hq'
      rw [h1] at this; cases this
      exact RD.pair v' hT (.int _) h2, fun G H' M' ee v' st => by
        obtain ⟨vs', hq', rs'⟩ := v'.lz st
        rw [hz] at hq'
        exact ⟨vs', hq', by rw [numD_len, rs'.length]; exact Nat.le_refl _⟩⟩ q
    obtain ⟨its, rv, p', _⟩ := I1.list hq
    refine call_enumerate_list p'.isList fun h' he hit hsz hk => wpAny_pyIter_enum he ?_
    have I2 : Inv X pins τ H1 { s1 with heap := h' } := I1.kept (t' := s1.toks) hk
    refine ⟨s1.heap.objs.size + 1, [s1.heap.objs.size + 1, s1.heap.objs.size], _, _, H1, rfl, I2, turn_enum _ (s1.heap.objs.size + 1) s1.heap.objs.size, ⟨⟨.none, he⟩, hit, Nat.succ_ne_self _⟩, fun b hb => ?_, q2⟩
    have hle : s1.heap.objs.size ≤ b := by
      rcases (show b = s1.heap.objs.size + 1 ∨ b = s1.heap.objs.size by simpa using hb) with z | z <;> rw [z] <;> omega
    exact I1.fpOk hle (I1.hok.fresh hle)
  | [.str x], q1, r1 =>
    obtain ⟨v, u, rfl, rfl, rd, ru⟩ := one_of r1 ru
    cases rd.str_of
    obtain ⟨t, rfl⟩ := ru
    have hcp : (sv x).cps = x.toArray := rfl
    have q2 : R (Ies (sv x)) H1 := hQ F1 (Ies (sv x)) _ _ M1 H1 e1 V1 ⟨fun i d G H' M' ee v' st hi => by
      obtain ⟨y, hy, rfl⟩ := numD_get hi
      rw [List.getElem?_map] at hy
      cases e1 : x[i]? with
      | none => rw [e1] at hy; cases hy
      | some c =>
        rw [e1] at hy; cases hy
        have hlt := (List.getElem?_eq_some_iff.mp e1).1
        refine ⟨(by show i < (sv x).cps.size; rw [hcp]; simpa using hlt), fun z H'' yy => ?_⟩
        obtain ⟨T, c', rfl, hT, rfl, h1⟩ := yy
        rw [hcp] at h1
        have : c' = c := by
          have : x[i]? = some c' := by simpa using h1
          rw [e1] at this; exact (Option.some.inj this).symm
        subst this
        exact RD.pair v' hT (.int _) (.str [c']), fun G H' M' ee v' st => by show _ = (sv x).cps.size; rw [hcp, numD_len]; simp⟩ q1
    refine call_enumerate_str fun h' he hit hsz hk => wpAny_pyIter_enum he ?_
    have I2 : Inv X pins τ H1 { s1 with heap := h' } := I1.kept (t' := s1.toks) hk
    refine ⟨s1.heap.objs.size + 1, [s1.heap.objs.size + 1, s1.heap.objs.size], _, _, H1, rfl, I2, turn_enumS (sv x) t (s1.heap.objs.size + 1) s1.heap.objs.size, ⟨⟨.none, he⟩, hit, Nat.succ_ne_self _⟩, fun b hb => ?_, q2⟩
    have hle : s1.heap.objs.size ≤ b := by
      rcases (show b = s1.heap.objs.size + 1 ∨ b = s1.heap.objs.size by simpa using hb) with z | z <;> rw [z] <;> omega
    exact I1.fpOk hle (I1.hok.fresh hle)
  | [.tup xs], q1, r1 =>
    obtain ⟨v, u, rfl, rfl, rd, ru⟩ := one_of r1 ru
    obtain ⟨a, ws, rfl, ha, rs⟩ := rd.tup_of
    cases ru
    have hq : SqT X.K H1 a ws := by rw [← hz]; exact SqT.sub V1 ha
    have q2 : R (Iet X.K a) H1 := hQ F1 (Iet X.K a) _ _ M1 H1 e1 V1 ⟨fun i d G H' M' ee v' st hi => by
      obtain ⟨y, hy, rfl⟩ := numD_get hi
      have hq' : SqT X.K H' a ws := by rw [← hz]; exact SqT.sub v' (SqT.ext ha ee)
      obtain ⟨w, h1, h2⟩ := (rs.ext ee).get hy
      refine ⟨⟨ws, w, hq', h1⟩, fun x H'' yy => ?_⟩
      obtain ⟨T, w', rfl, hT, rfl, hw⟩ := yy
      have := hw ws hq'
      rw [h1] at this; cases this
      exact RD.pair v' hT (.int _) h2, fun G H' M' ee v' st => by
        have hq' : SqT X.K H' a ws := by rw [← hz]; exact SqT.sub v' (SqT.ext ha ee)
        exact ⟨ws, hq', by rw [numD_len, rs.length]⟩⟩ q1
    obtain ⟨its, rv, isT, _⟩ := I1.tuple hq
    refine call_enumT isT fun h' he hit hk => wpAny_pyIter_enum he ?_
    have I2 : Inv X pins τ H1 { s1 with heap := h' } := I1.kept (t' := s1.toks) hk
    refine ⟨s1.heap.objs.size + 1, [s1.heap.objs.size + 1, s1.heap.objs.size], _, _, H1, rfl, I2, turn_enumT _ (s1.heap.objs.size + 1) s1.heap.objs.size, ⟨⟨.none, he⟩, hit, Nat.succ_ne_self _⟩, fun b hb => ?_, q2⟩
    have hle : s1.heap.objs.size ≤ b := by
      rcases (show b = s1.heap.objs.size + 1 ∨ b = s1.heap.objs.size by simpa using hb) with z | z <;> rw [z] <;> omega
    exact I1.fpOk hle (I1.hok.fresh hle)
def dRev (d : D) (M : Hm) (Q : List D → (Hm → Prop) → Hm → Prop) : Prop := match d with
  | .ref a => ∃ xs, Lz M a xs ∧ Q xs.reverse (fun M' => Lz M' a xs) M
  | .tup xs => Q xs.reverse (fun _ => True) M
  | _ => False
def wRev (T : DTE) : DTI := fun σ M Q E => T σ M (fun d M1 => dRev d M1 Q) E
theorem rev_get {α : Type} {xs : List α} {i : Nat} {x : α} (h : xs.reverse[i]? = some x) : xs[xs.length - 1 - i]? = some x := by
  have hl := (List.getElem?_eq_some_iff.mp h).1
  rw [List.length_reverse] at hl
  rwa [List.getElem?_reverse hl] at h
theorem di_rev (hz : Z.K = X.K) (hg : Gl X "reversed") (hm : X.mg "reversed" = none) (he : DE Z X W e Ta) (hs : starEach [e] X.env = (false, eval e X.env) :: starEach [] X.env) : DI Z X W tg (.Call (.Name "reversed" p) [e] [] pos) (wRev Ta) := by
  refine PI.imp (RT.pi_revA hg hm he hs) fun τ H R ⟨F, σ, M, QD, ED, S, V0, hT, hQ, hE⟩ => ⟨F, σ, M, _, ED, S, V0, hT, fun F1 d v M1 H1 e1 V1 r1 q => ?_, hE⟩
  cases d with
  | ref a =>
    cases r1.ref_of
    obtain ⟨xs, hx, q⟩ := q
    obtain ⟨ws, hq, rs⟩ := V1.lz hx
    rw [hz] at hq
    refine ⟨a, ws, rfl, .inl ⟨hq, hQ F1 _ _ _ M1 H1 e1 V1 ⟨fun i d G H' M' ee v' st hi => ?_, fun G H' M' ee v' st => ?_⟩ q⟩⟩
    · obtain ⟨vs', hq', rs'⟩ := v'.lz st
      rw [hz] at hq'
      obtain ⟨w, h1, h2⟩ := rs'.get (rev_get hi)
      have hl := (List.getElem?_eq_some_iff.mp hi).1
      rw [List.length_reverse] at hl
      rw [rs.length] at h1 hl
      refine ⟨⟨hl, vs', w, hq', h1⟩, fun x H'' yy => ?_⟩
      obtain ⟨rfl, yy⟩ := yy
      have := yy vs' hq'
      rw [h1] at this; cases this
      exact ⟨G, Ext.rfl', v', h2⟩
    · show ws.length ≤ _
      rw [List.length_reverse, rs.length]; exact Nat.le_refl _
  | tup xs =>
    obtain ⟨a, ws, rfl, ha, rs⟩ := r1.tup_of
    have ha1 := SqT.sub V1 ha
    rw [hz] at ha1
    refine ⟨a, ws, rfl, .inr ⟨ha1, hQ F1 _ _ _ M1 H1 e1 V1 ⟨fun i d G H' M' ee v' st hi => ?_, fun G H' M' ee v' st => ?_⟩ q⟩⟩
    · have ha2 := SqT.sub v' (SqT.ext ha ee)
      rw [hz] at ha2
      obtain ⟨w, h1, h2⟩ := rs.get (rev_get hi)
      have hl := (List.getElem?_eq_some_iff.mp hi).1
      rw [List.length_reverse] at hl
      rw [rs.length] at h1 hl
      refine ⟨⟨hl, ws, w, ha2, h1⟩, fun x H'' yy => ?_⟩
      obtain ⟨rfl, yy⟩ := yy
      have := yy ws ha2
      rw [h1] at this; cases this
      exact ⟨G, Ext.rfl', v', h2.ext ee⟩
    · show ws.length ≤ _
      rw [List.length_reverse, rs.length]; exact Nat.le_refl _
  | _ => exact q.elim
theorem ienum (c : Ct Z X W k) (hm : X.mg "enumerate" = none) (ha : DA Z X W [e] Tr) (hg : Gl X "enumerate" := by rfl) (hs : starEach [e] X.env = [(false, eval e X.env)] := by rfl) : DI Z X W (.Tuple elts kk tpos) (.Call (.Name "enumerate" p) [e] [] pos) (wEnum Tr) := di_enum c.hz hg hm ha hs
theorem irev (c : Ct Z X W k) (hm : X.mg "reversed" = none) (he : DE Z X W e Ta) (hg : Gl X "reversed" := by rfl) (hs : starEach [e] X.env = (false, eval e X.env) :: starEach [] X.env := by rfl) : DI Z X W tg (.Call (.Name "reversed" p) [e] [] pos) (wRev Ta) := di_rev c.hz hg hm he hs
@[simp] theorem wRev_s {σ : SD} {M : Hm} {Q : List D → (Hm → Prop) → Hm → Prop} {E : DX} : wRev Ta σ M Q E = Ta σ M (fun d M1 => dRev d M1 Q) E := rfl
@[simp] theorem dRev_t {xs : List D} {M : Hm} {Q : List D → (Hm → Prop) → Hm → Prop} : dRev (.tup xs) M Q = Q xs.reverse (fun _ => True) M := rfl
@[simp] theorem dRev_r {a : Addr} {M : Hm} {Q : List D → (Hm → Prop) → Hm → Prop} : dRev (.ref a) M Q = ∃ xs, Lz M a xs ∧ Q xs.reverse (fun M' => Lz M' a xs) M := rfl
@[simp] theorem wEnum_s {σ : SD} {M : Hm} {Q : List D → (Hm → Prop) → Hm → Prop} {E : DX} : wEnum Tr σ M Q E = Tr σ M (fun ds M1 => dEnum ds M1 Q) E := rfl
@[simp] theorem dEnum_r {a : Addr} {M : Hm} {Q : List D → (Hm → Prop) → Hm → Prop} : dEnum [.ref a] M Q = ∃ xs, Lz M a xs ∧ Q (numD xs) (fun M' => Lz M' a xs) M := rfl
@[simp] theorem dEnum_t {xs : List D} {M : Hm} {Q : List D → (Hm → Prop) → Hm → Prop} : dEnum [.tup xs] M Q = Q (numD xs) (fun _ => True) M := rfl
@[simp] theorem dEnum_s {x : Tx} {M : Hm} {Q : List D → (Hm → Prop) → Hm → Prop} : dEnum [.str x] M Q = Q (numD (x.map fun c => .str [c])) (fun _ => True) M := rfl
end
end DL
namespace DL
open PySem PySem.Spec PyProof.Rows L2
section
variable {Z : Zn} {X : Cx} {W : WX} {k : Nat} {e a b : Expr} {Ta Tb : DTE} {Tr : DTA} {p p2 pos pos2 : Pos} {x y : Str}
theorem cr_range1 : CallR X (.type "range") (fun vs H Q => ∃ j, vs = [V.int j] ∧ ∀ p, H p = none → Q (.ref p) (upd H p (.rng 0 j))) := by
  intro pins s σ H vs us Q I r h
  obtain ⟨j, rfl, q⟩ := h
  cases r with | cons r1 t => cases t; exact (by
    obtain ⟨t, rfl⟩ := r1
    refine call_range_1 ⟨.ref s.heap.objs.size, upd H s.heap.objs.size (.rng 0 j), I.laid (t' := s.toks + 1 + 1) (fun b o e => Heap.get?_push_of_some _ e) (Nat.le_refl _) ⟨_, _, _, Heap.get?_push_size _ rfl⟩, rfl, q _ (I.hok.fresh (Nat.le_refl _))⟩)
theorem cr_lenRng : CallR X (.builtin "len") (fun vs H Q => ∃ p j, vs = [V.ref p] ∧ H p = some (.rng 0 j) ∧ 0 ≤ j ∧ j < 4611686018427387904 ∧ Q (.int j) H) := by
  intro pins s σ H vs us Q I r h
  obtain ⟨p, j, rfl, hp, h0, h1, q⟩ := h
  cases r with | cons r1 t => cases t; exact (by
    cases r1
    obtain ⟨t, u, v, hr⟩ := I.hok p _ hp
    have e : Builtin.Range.rangeSize 0 j 1 = (j.toNat : Int) := by rw [rangeSize_one]; split <;> omega
    refine call_len_range (n := j.toNat) hr e (by omega) ?_
    have e2 : ((j.toNat : Nat) : Int) = j := by omega
    exact ⟨.int j, H, I.tok _, ⟨_, by rw [e2]⟩, q⟩)
theorem View.rng {F H : Hp} {M : Hm} {q : Addr} {lo hi : Int} (v : View Z F M H) (h : H q = none) : View Z F M (upd H q (.rng lo hi)) :=
  ⟨v.sub.trans (Ext.new h), fun c m e => by
    obtain ⟨h1, o, h2, h3⟩ := v.mt c m e
    exact ⟨h1, o, by rw [upd_ne (ne_of_none h2 h)]; exact h2, h3⟩⟩
def wLenR (Tr : DTA) : DTE := fun σ M Q E => Tr σ M (fun ds M1 => ∃ j : Int, ds = [.int j] ∧ 0 ≤ j ∧ j < R62 ∧ Q (.int j) M1) E
theorem qlenR (hl : X.mg "len" = none) (hr : X.mg "range" = none) (ha : DA Z X W [a] Tr) (hg1 : Gl X "len" := by rfl) (hg2 : Gl X "range" := by rfl) (hs : starEach [a] X.env = (false, eval a X.env) :: starEach [] X.env := by rfl)
    (hs2 : starEach [.Call (.Name "range" p2) [a] [] pos2] X.env = (false, eval (.Call (.Name "range" p2) [a] [] pos2) X.env) :: starEach [] X.env := by rfl) :
    DE Z X W (.Call (.Name "len" p) [.Call (.Name "range" p2) [a] [] pos2] [] pos) (wLenR Tr) := by
  refine PE.imp (pe_callB cr_lenRng hg1 hl bt_len (pa_cons (pe_callTy cr_range1 hg2 hr bt_range ha (by decide) (by decide) hs rfl) pa_nil hs2) (by decide) (by decide) hs2 rfl) fun τ H Q ⟨F, σ, M, QD, ED, S, V0, hT, hQ, hE⟩ => ?_
  refine ⟨F, σ, M, _, ED, S, V0, hT, fun F1 ds vs M1 H1 e1 V1 r1 ⟨j, hj, h0, h1, q⟩ => ?_, hE⟩
  refine ⟨j, r1.int1 hj, fun q' hq' => ?_⟩
  exact ⟨q', j, rfl, upd_same, h0, h1, hQ F1 _ _ M1 _ e1 (V1.rng hq') (.int j) q⟩
@[simp] theorem wLenR_s {σ : SD} {M : Hm} {Q : DK} {E : DX} : wLenR Tr σ M Q E = Tr σ M (fun ds M1 => ∃ j : Int, ds = [.int j] ∧ 0 ≤ j ∧ j < R62 ∧ Q (.int j) M1) E := rfl
theorem foldl_cps : ∀ (n : Nat) (x : Tx) (acc : Array Nat), (List.replicate n x.toArray).foldl (· ++ ·) acc = acc ++ (List.replicate n x).flatten.toArray
  | 0, x, acc => by simp
  | n + 1, x, acc => by
    rw [List.replicate_succ, List.foldl_cons, foldl_cps n x, List.replicate_succ, List.flatten_cons, Array.append_assoc]
    congr 1
    simp
theorem mul_sv (x : Tx) (j : Int) (h0 : 0 ≤ j) : Txt.mul (sv x) j = sv (List.replicate j.toNat x).flatten := by
  obtain ⟨n, rfl⟩ : ∃ n : Nat, j = n := ⟨j.toNat, by omega⟩
  unfold Txt.mul
  by_cases h1 : (n : Int) < 1
  · have : n = 0 := by omega
    subst this
    rfl
  · rw [if_neg h1]
    by_cases h2 : ((n : Int) == 1 || (sv x).length == 0) = true
    · rw [if_pos h2]
      rcases Bool.or_eq_true_iff.mp h2 with h3 | h3
      · have : n = 1 := by have := eq_of_beq h3; omega
        subst this
        simp
      · have : x = [] := by
          have := eq_of_beq h3
          rw [sv_len] at this
          exact List.length_eq_zero_iff.mp this
        subst this
        simp
    · rw [if_neg h2]
      show (⟨List.foldl _ #[] (List.replicate n x.toArray)⟩ : Str) = _
      rw [foldl_cps]
      simp [sv]
theorem op_smul : OpR X (binaryOp .Mult) (fun x y H Q => ∃ (a : Tx) (j : Int), x = .str (sv a) ∧ y = .int j ∧ 0 ≤ j ∧ j < 9223372036854775808 ∧ a.length * j.toNat ≤ LL ∧ Q (.str (sv (List.replicate j.toNat a).flatten)) H) := by
  rintro pins s σ H x y v u Q I rx ry ⟨a, j, rfl, rfl, h0, h1, hl, q⟩
  obtain ⟨t, rfl⟩ := rx
  obtain ⟨t2, rfl⟩ := ry
  refine PySem.SB.mul ⟨?_, fun h _ => ?_, fun h _ => ?_⟩ fun t' k => ?_
  · simp; omega
  · rw [sv_len]
    have h3 : (a.length : Int) * j ≤ 16777216 := by
      obtain ⟨n, rfl⟩ : ∃ n : Nat, j = n := ⟨j.toNat, by omega⟩
      rw [Int.toNat_natCast] at hl
      have : ((a.length * n : Nat) : Int) ≤ 16777216 := by unfold LL at hl; omega
      simpa using this
    have : (a.length : Int) ≤ (2 ^ 63 - 1) / j := Int.le_ediv_of_mul_le (by omega) (by omega)
    omega
  · rw [sv_len]
    show decide (_ > PySem.sizeLine) = false
    rw [decide_eq_false_iff_not, LL_eq]
    omega
  · rw [mul_sv _ _ h0]
    exact ⟨.str _, H, I.tok _, ⟨_, rfl⟩, q⟩
def pMulL (x y : D) (M : Hm) (Q : DK) : Prop := match x, y with
  | .int i, .int j => CMul i j ∧ Q (.int (i * j)) M
  | .ref a, .int j => ∃ xs, M a = some (.lst xs) ∧ -9223372036854775808 ≤ j ∧ j < 9223372036854775808 ∧ xs.length * j.toNat ≤ LL ∧ ∀ p, M p = none → Q (.ref p) (mup M p (.lst (List.replicate j.toNat xs).flatten))
  | .str x, .int j => 0 ≤ j ∧ j < 9223372036854775808 ∧ x.length * j.toNat ≤ LL ∧ Q (.str (List.replicate j.toNat x).flatten) M
  | _, _ => False
theorem RDs.rep {F : Hp} {ds : List D} {vs : List V} (r : RDs Z F ds vs) : ∀ n, RDs Z F (List.replicate n ds).flatten (List.replicate n vs).flatten
  | 0 => .nil
  | n + 1 => by
    rw [List.replicate_succ, List.replicate_succ, List.flatten_cons, List.flatten_cons]
    exact r.append (RDs.rep r n)
theorem op_mulL : OpR X (binaryOp .Mult) (rOf Z pMulL) := by
  rintro pins s τ H x y v u Q I rx ry ⟨F, M, d, e, QD, V0, r1, r2, q, hQ⟩
  unfold pMulL at q
  split at q
  · cases r1.int_of; cases r2.int_of
    exact op_mul pins s τ H _ _ v u Q I rx ry ⟨_, _, rfl, rfl, q.1, hQ F _ _ M H Ext.rfl' V0 (.int _) q.2⟩
  · cases r1.ref_of; cases r2.int_of
    obtain ⟨xs, hx, h1, h2, hl, q⟩ := q
    obtain ⟨us, hu, ru⟩ := V0.lst hx
    exact op_rep pins s τ H _ _ v u Q I rx ry ⟨_, _, us, rfl, rfl, hu, by simpa using h1, by simpa using h2, by rw [← ru.length, LL_eq]; exact hl, fun p hp => hQ F _ _ _ _ Ext.rfl' (V0.newL hp (ru.rep _)) (.ref p) (q p (V0.free hp).1)⟩
  · cases r1.str_of; cases r2.int_of
    obtain ⟨h1, h2, hl, q⟩ := q
    exact op_smul pins s τ H _ _ v u Q I rx ry ⟨_, _, rfl, rfl, h1, h2, hl, hQ F _ _ M H Ext.rfl' V0 (.str _) q⟩
  · exact q.elim
@[simp] theorem pMulL_s {x : Tx} {j : Int} {M : Hm} {Q : DK} : pMulL (.str x) (.int j) M Q = (0 ≤ j ∧ j < 9223372036854775808 ∧ x.length * j.toNat ≤ LL ∧ Q (.str (List.replicate j.toNat x).flatten) M) := rfl
theorem qmulL (ha : DE Z X W a Ta) (hb : DE Z X W b Tb) : DE Z X W (.BinOp a .Mult b pos) (w2 pMulL Ta Tb) := de_bin op_mulL ref_of ha hb
@[simp] theorem pMulL_i {i j : Int} {M : Hm} {Q : DK} : pMulL (.int i) (.int j) M Q = (CMul i j ∧ Q (.int (i * j)) M) := rfl
@[simp] theorem pMulL_r {a : Addr} {j : Int} {M : Hm} {Q : DK} : pMulL (.ref a) (.int j) M Q = ∃ xs, M a = some (.lst xs) ∧ -9223372036854775808 ≤ j ∧ j < 9223372036854775808 ∧ xs.length * j.toNat ≤ LL ∧ ∀ p, M p = none → Q (.ref p) (mup M p (.lst (List.replicate j.toNat xs).flatten)) := rfl
section
variable {n : Nat} {f : Addr} {fd : FuncData} {ps : List Str} {ar : List Ar} {S : DSp} {m : Str} {c : String} {apos : Pos} {o : Expr} {es : List Expr} {To : DTE} {pl : Sem Bool}
theorem qmeth (mm : String) (ct : Ct Z X W k) (cl : Cls X.K (Z.ca c)) (hm : Meth X.K (Z.ca c) m f) (F : FnOk X.prog X.w X.K X.mg X.base (CX X.prog X.w) (k + 3) f fd ps (spOf Z ps.length S)) (sh : Shape X.K fd ps (n + 1) [] ar) (hn : ar.length = ps.length) (ho : DE Z X W o To) (ha : DA Z X W (e :: es) Tr)
    (hmm : Str.ofString mm = m := by rfl) (hst : starEach (e :: es) X.env = (false, eval e X.env) :: starEach es X.env := by rfl) (hpl : (backTo pos (starEach es X.env)).any (·.1) = false := by rfl)
    (ht : eval (.Call (.Attribute o m apos) (e :: es) [] pos) X.env = (do
      let ov ← eval o X.env
      standAt apos.atName
      let (f, first) ← holding [ov] (getMethod ov m pl)
      callWith pos f first (backTo pos (starEach (e :: es) X.env)) (backToKw pos (keywordEach [] X.env))) := by rfl) : DE Z X W (.Call (.Attribute o m apos) (e :: es) [] pos) (wMeth c mm n ar S To Tr) := de_meth ct.hz hmm cl hm F ct.hr sh hn ct.tk ho ha hst hpl ht
theorem qmeth0 (mm : String) (ct : Ct Z X W k) (cl : Cls X.K (Z.ca c)) (hm : Meth X.K (Z.ca c) m f) (F : FnOk X.prog X.w X.K X.mg X.base (CX X.prog X.w) (k + 3) f fd ps (spOf Z ps.length S)) (sh : Shape X.K fd ps (0 + 1) [] ar) (hn : ar.length = ps.length) (ho : DE Z X W o To)
    (hmm : Str.ofString mm = m := by rfl)
    (ht : eval (.Call (.Attribute o m apos) [] [] pos) X.env = (do
      let ov ← eval o X.env
      standAt apos.atName
      let (f, first) ← holding [ov] (getMethod ov m pl)
      callWith pos f first (backTo pos (starEach [] X.env)) (backToKw pos (keywordEach [] X.env))) := by rfl) : DE Z X W (.Call (.Attribute o m apos) [] [] pos) (wMeth c mm 0 ar S To wNil) := de_meth0 ct.hz hmm cl hm F ct.hr sh hn ct.tk ho ht
end
/-- the texts in a row -/
def strsOf : List D → Option (List Tx)
  | [] => some []
  | .str x :: r => (strsOf r).map (x :: ·)
  | _ => none
end
end DL
namespace DL
open PySem PySem.Spec PyProof.Rows L2
section
variable {Z : Zn} {X : Cx} {W : WX} {k : Nat}
def pSCount (d : D) (ds : List D) (M : Hm) (Q : DK) : Prop := match d, ds with
  | .str x, [.str [c]] => Q (.int (x.count c : Nat)) M
  | _, _ => False
theorem cnt_count (c : Nat) : ∀ l : List Nat, PyProof.Rows.cnt c l = (l.count c : Nat)
  | [] => rfl
  | n :: r => by
    rw [PyProof.Rows.cnt_cons, cnt_count c r, List.count_cons]
    by_cases h : n = c
    · subst h; simp; omega
    · simp [h]
theorem md_scount : MtD Z "str" (fun x xs H Q => ∃ a b, x = .str a ∧ xs = [.str b] ∧ Q (.int (Txt.count a b)) H) pSCount := by
  intro F H M d ds v vs QD Q V0 r rs h hQ
  unfold pSCount at h
  split at h
  · cases r.str_of
    cases rs with | cons r1 t => cases t; cases r1.str_of; exact (by
      refine ⟨_, _, rfl, rfl, ?_⟩
      rw [show sv [_] = ⟨#[_]⟩ from rfl, PyProof.Rows.count_cnt, cnt_count]
      exact hQ F _ _ M H Ext.rfl' V0 (.int _) (by simpa [sv] using h))
  · exact h.elim
@[simp] theorem pSCount_s {x : Tx} {c : Nat} {M : Hm} {Q : DK} : pSCount (.str x) [.str [c]] M Q = Q (.int (x.count c : Nat)) M := rfl
variable {a b : Expr} {x y : Str} {px py pt pt2 pos : Pos} {Tr : DTA}
def wPar (i j : Nat) (Tr : DTA) : DTS := fun K σ M => Tr σ M (fun ds M1 => ∃ d e, ds = [d, e] ∧ K.nx ((σ.set i (some d)).set j (some e)) M1) (fun x M1 => K.ex x σ M1)
@[simp] theorem wPar_s {i j : Nat} {K : DEn} {σ : SD} {M : Hm} : wPar i j Tr K σ M = Tr σ M (fun ds M1 => ∃ d e, ds = [d, e] ∧ K.nx ((σ.set i (some d)).set j (some e)) M1) (fun x M1 => K.ex x σ M1) := rfl
theorem spar (i j : Nat) {kt k2} (c : Ct Z X W k) (ha : DA Z X W [a, b] Tr) (hi : X.N[i]? = some x := by rfl) (hj : X.N[j]? = some y := by rfl) (hij : i ≠ j := by decide)
    (hx : X.env.scope.names.lookup x = some .local := by rfl) (hy : X.env.scope.names.lookup y = some .local := by rfl)
    (hw : swappedStores [.Tuple [.Name x px, .Name y py] kt pt] (.Tuple [a, b] k2 pt2) X.env = pure (some [x, y]) := by rfl)
    (hs : swapsWithSole [.Tuple [.Name x px, .Name y py] kt pt] (.Tuple [a, b] k2 pt2) pos.line X.env = pure false := by rfl) :
    DS Z X W (.Assign [.Tuple [.Name x px, .Name y py] kt pt] (.Tuple [a, b] k2 pt2) pos) (wPar i j Tr) :=
  PS.imp (ps_par c.calm c.nd hi hj hij hx hy ha hw hs) fun K τ H ⟨F, σ, M, KD, S, V, h, k⟩ => ⟨F, σ, M, _, _, S, V, h, fun G1 ds vs M1 H1 e v1 r ⟨d1, d2, hd, q⟩ => by
    subst hd
    cases r with | cons r1 r => cases r with | cons r2 r => cases r; exact ⟨_, _, rfl, k.nx G1 _ _ M1 H1 e (((S.ext e).set r1 i).set r2 j) v1 q⟩, k.we S⟩
end
end DL
namespace DL
open PySem PySem.Spec PyProof.Rows L2
/-- an own class of exceptions straight over a built-in one -/
structure XCls (K : PySem.W.Frag) (C : Addr) (newId : String) (bmB : List Value) : Prop where
  ini : PySem.W.excInitIn K C bmB newId = true
  ovr : PySem.W.excOver K C bmB = true
  dct : PySem.W.hasDictIn K C = true
  sa : PySem.W.findIn K (.ref C) "__setattr__" = some (some (.builtin "object.__setattr__"))
  exC : PySem.W.subIn K (.ref C) (.type "BaseException") = some true
  tyC : PySem.W.typeIn K (.ref C) = some (.type "type")
  kC : PySem.W.keepIn K (.ref C) = true
section
variable {prog : Program} {w : World} {A : Around} {R : Result → Shared → Prop} {hp : Heap} {g : Array GenState} {d : Drawn} {t : Nat} {os : OsState} {K : PySem.W.Frag} {C x : Addr} {B newId : String} {bmB : List Value}
open PySem.HandSPX PySem.Builtin PySem.Builtin.ObjectAttr in
/-- the first field: the dict is laid -/
theorem xstore {nm : Str} {tk : Tok} {v : Value} {fv : Array Value} (SF : PySem.StoreFacts B bmB "object.__setattr__" "object") (T : XCls K C newId bmB) (kin : K.In hp)
    (hx : hp.get? x = some { cls := .ref C, data := .fields fv }) (hf : PySem.W.findIn K (.ref C) nm = some none)
    (done : ∀ h' tk' dx, (∀ b o, b ≠ x → hp.get? b = some o → h'.get? b = some o) → hp.objs.size ≤ dx → dx ≠ x → h'.get? x = some { cls := .ref C, dict := some dx, data := .fields fv } →
      h'.Ns1 dx (fun y => if y = nm then some v else none) → R (.ok (.ret .none)) ⟨h', g, d, tk', os⟩) :
    codeAny (model prog w) A (.call (.builtin "object.__setattr__") ⟨[.ref x, .str nm tk, v], []⟩) R ⟨hp, g, d, t, os⟩ := by
  obtain ⟨cd, hcd, hd⟩ := PySem.W.any_some T.dct
  have L : PySem.W.Looks (model prog w) hp (classData C) cd := PySem.W.looks_clsIn kin hcd
  have far : x ≠ hp.objs.size := Nat.ne_of_lt (Heap.lt_size hx)
  refine PySem.W.osa_openX (od := none) SF kin ⟨hx, rfl, rfl, trivial⟩ T.ovr (r := none) (by unfold PySem.W.takerIn; rw [hf]; rfl) fun b => ?_
  show wpAny _ _ (storeInOwnDict (.ref x) (.ref C) (.str nm tk) nm v b) _ _ _
  obtain ⟨c1, c2, c3, c4, c5, hdct, c6, c7, c8, c9, c10⟩ := cd
  dsimp only at hd
  subst hd
  unfold storeInOwnDict ownDictForStores
  repeat (first | with_reducible refine store_in_new ?_ ?_ | with_reducible refine wpAny_loadPart_at hx ?_ | with_reducible refine L.at ?_ | wp_step)
  case h.h.h.hq.refine_1 =>
    have at_ := (Heap.get?_update_ne _ _ x (fun o => { cls := o.cls, dict := some hp.objs.size, data := o.data, slots := o.slots }) far.symm).trans (Heap.get?_push_at (h := hp) (o := { cls := .type "dict", data := .dict #[] }) rfl rfl)
    exact ⟨_, #[], _, at_, rfl, fun e he => absurd he (by simp), fun _ => rfl⟩
  case h.h.h.hq.refine_2 =>
    intro h' tk' ns same
    have push : ∀ {b : Addr} {o : Obj}, hp.get? b = some o → (hp.push { cls := .type "dict", data := .dict #[] }).get? b = some o := fun e => Heap.get?_push_of_some _ e
    refine done h' tk' hp.objs.size (fun b o hb ho => ?_) (Nat.le_refl _) far.symm ?_ ns
    · rw [same.2 b (Nat.ne_of_lt (Heap.lt_size ho)), Heap.get?_update_ne _ _ _ _ hb]
      exact push ho
    · rw [same.2 x far]
      exact Heap.get?_update_self _ (push hx) rfl
end
section
variable {X : Cx} {pins : List (Addr × Obj)} {s : Shared} {σ : L2.St} {H : Hp} {A : Around} {E : Value → Shared → Prop} {C a : Addr} {B newId initId : String} {bmB : List Value}
/-- the exception's object, as laid out -/
abbrev xo (C : Addr) (d : Option Addr) (t1 : Addr) : Obj := { cls := .ref C, dict := d, data := .fields #[.ref t1, .none, .none, .none, .bool false, .none] }
/-- self.f = v where self is an exception being made, without fields as yet -/
theorem xset {f : Str} {y : V} {u : Value} {Q : Unit → Shared → Prop} (SF : PySem.StoreFacts B bmB "object.__setattr__" "object") (T : XCls X.K C newId bmB) (I : Inv X pins σ H s) (e : H a = some (exo a C none)) (hf : PySem.W.findIn X.K (.ref C) f = some none) (ry : RelV y u)
    (h : ∀ dx s', H dx = none → dx ≠ a → Inv X pins σ (upd (upd H dx (exd dx [(f, y)])) a (exo a C (some dx))) s' → Q () s') : wpAny (model X.prog X.w) A (setAttr (.ref a) f u) Q E s := by
  obtain ⟨t1, he⟩ := exo_at I.hok e
  obtain ⟨hp, gs, dr, tk, os⟩ := s
  refine PySem.W.set_plain (od := none) (ox := xo C none t1) I.kIn ⟨he, rfl, rfl, trivial⟩ T.sa ?_
  refine xstore SF T I.kIn he hf fun h' tk' dx keep ge ne hx hn => ?_
  have dxn : H dx = none := I.hok.fresh ge
  have old : ∀ {b : Addr} {o : Obj}, hp.get? b = some o → b ≠ dx := fun z => Nat.ne_of_lt (Nat.lt_of_lt_of_le (Heap.lt_size z) ge)
  have nota : ∀ {b : Addr}, H b = none → b ≠ a := fun z w => by rw [w, e] at z; cases z
  have off : ∀ {b : Addr}, b ≠ a → b ≠ dx → upd (upd H dx (exd dx [(f, y)])) a (exo a C (some dx)) b = H b := fun h1 h2 => by rw [upd_ne h1, upd_ne h2]
  refine h dx _ dxn ne (I.un (t' := tk') ⟨?_, ?_, ?_, ?_, ?_, ?_, ?_⟩ fun b o q => ?_)
  · exact fun b o z n _ _ => keep b o (nota n) z
  · exact fun b o z n _ _ => ⟨o.slots, keep b o (nota n) z⟩
  · exact fun b o z n _ => (off (nota n) (old z)).trans n
  · intro b o z _
    by_cases q : b = a
    · subst q; exact ⟨_, hx⟩
    · exact ⟨o, keep b o q z⟩
  · exact fun b xs z => (off (at_ne e z exo_tup) (ne_of_none z dxn)).trans z
  · exact fun b o v z => (off (at_ne e z exo_frz) (ne_of_none z dxn)).trans z
  · exact fun b ps z => ⟨#[], by rw [off (at_ne e z exo_tbl) (ne_of_none z dxn), z]; simp⟩
  · by_cases q1 : b = a
    · subst q1
      rw [upd_same] at q; cases q
      exact exo_ok hx
    · rw [upd_ne q1] at q
      by_cases q2 : b = dx
      · subst q2
        rw [upd_same] at q; cases q
        exact exd_ok hn (relO_put (fs := []) ry fun _ => True.intro)
      · rw [upd_ne q2] at q
        have own : ∀ {c : Addr} {u : Addr}, H c = some (.own u) → c ≠ a := fun z => at_ne e z exo_own
        refine (I.hok b o q).stay (fun c v hc z => keep c v ?_ z) (fun c hc => (off (own hc) (ne_of_none hc dxn)).trans hc) (fun c xs hc => (off (at_ne e hc exo_tup) (ne_of_none hc dxn)).trans hc)
        rcases hc with hc | hc
        · exact hc ▸ q1
        · exact own hc
/-- B.__init__(self, ..): no field is touched -/
theorem xinit {us : List Value} {Q : Value → Shared → Prop} (FB : PySem.ExcBaseFacts B newId initId bmB) (T : XCls X.K C newId bmB) (I : Inv X pins σ H s) (e : H a = some (exo a C none)) (hl : us.length ≤ sizeLine) (h : ∀ s', Inv X pins σ H s' → Q .none s') :
    wpAny (model X.prog X.w) A (call (.builtin initId) (.ref a :: us)) Q E s := by
  obtain ⟨_, _, _, _, _, _, _, _, _, _, _, _, _, _, _, _, hC, tail⟩ := PySem.W.excInit_of I.kIn T.ini
  obtain ⟨t1, he⟩ := exo_at I.hok e
  obtain ⟨hp, gs, dr, tk, os⟩ := s
  refine wpAny_call (PySem.HandSPX.init_base FB tail hC he hl fun h' t2 keep hx => h _ ?_)
  have J := I.write (t' := tk) (x := a) (e := a) (o := exo a C none) (by rw [e]; trivial) (.inl rfl) keep ⟨_, hx⟩ (exo_ok hx)
  have same : upd H a (exo a C none) = H := funext fun b => by
    by_cases q : b = a
    · subst q; rw [upd_same, e]
    · exact upd_ne q
  rw [same] at J
  exact J
end
section
variable {X : Cx} {o e : Expr} {es : List Expr} {to te : TE} {ta : TA} {f x : Str} {p p' p1 p2 pos : Pos} {B newId initId : String} {bmB : List Value}
def tXini (K : PySem.W.Frag) (newId : String) (bmB : List Value) (ta : TA) : TE := fun σ H Q => ta σ H fun vs H1 => ∃ (a C : Addr) (ws : List V), vs = .ref a :: ws ∧ ws.length ≤ 1000 ∧ XCls K C newId bmB ∧ H1 a = some (exo a C none) ∧ Q .non H1
def tXset (K : PySem.W.Frag) (newId : String) (bmB : List Value) (f : Str) (to te : TE) : TS := fun D σ H => te σ H fun y H1 => to σ H1 fun x H2 => ∃ a C : Addr, x = .ref a ∧ XCls K C newId bmB ∧ PySem.W.findIn K (.ref C) f = some none ∧
  H2 a = some (exo a C none) ∧ ∀ dx, H2 dx = none → dx ≠ a → D.nx σ (upd (upd H2 dx (exd dx [(f, y)])) a (exo a C (some dx)))
theorem pe_xinit {pl : Sem Bool} (FB : PySem.ExcBaseFacts B newId initId bmB) (hg : Gl X x) (hm : X.mg x = none) (hb : bootBuiltins x = some (.type B)) (ty : typeOf (.type B) = pure (.type "type")) (hk : PySem.W.findCls X.K (.type B) (.type "type") "__init__" = some (.val (.builtin initId)))
    (hs : Manifest.isStub B = false) (hh : PySem.W.handedIn (.builtin initId) = true) (ha : PA X (e :: es) ta) (hn : x ≠ "__name__" := by decide) (hdb : (x == ("__debug__" : Str)) = false := by decide)
    (hc : eval (.Call (.Attribute (.Name x p1) "__init__" p2) (e :: es) [] pos) X.env = (do
      let ov ← eval (.Name x p1) X.env
      standAt p2.atName
      let (f, first) ← holding [ov] (getMethod ov "__init__" pl)
      callWith pos f first (backTo pos (starEach (e :: es) X.env)) (backToKw pos (keywordEach [] X.env))) := by rfl)
    (he : starEach (e :: es) X.env = (false, eval e X.env) :: starEach es X.env := by rfl) (hpl : (backTo pos (starEach es X.env)).any (·.1) = false := by rfl) :
    PE X (.Call (.Attribute (.Name x p1) "__init__" p2) (e :: es) [] pos) (tXini X.K newId bmB ta) := by
  refine ⟨fun pins s σ H Q I h => PySem.W.methodCall_KW (ld_blt I hg hm hb ?_ hn hdb) hc⟩
  obtain ⟨m, fr⟩ := I.fr
  refine PySem.W.method_type fr I.ok.mod.kin ty hs hk hh ?_
  show wpAny _ _ (callWith pos (Value.builtin initId) [] (backTo pos (starEach (e :: es) X.env)) []) _ _ _
  refine PyProof.Rows.callWith_method1 (thn (ha.run pos pins _ σ H _ (I.tok _) h) fun us s1 got => ?_) he hpl
  obtain ⟨vs, H1, I1, r1, a, C, ws, rfl, hl, T, ea, q⟩ := got
  cases r1 with
  | @cons _ u0 _ ur ra rest =>
    cases (show u0 = Value.ref a from ra)
    exact xinit FB T I1 ea (by rw [← rest.length, sizeLine_eq]; omega) fun s' J => ⟨.non, H1, J, rfl, q⟩
theorem ps_xset (SF : PySem.StoreFacts B bmB "object.__setattr__" "object") (ho : PE X o to) (he : PE X e te) (hs : swapsWith e (some (.Attribute o f p')) pos.line X.env = pure false := by rfl) :
    PS X (.Assign [.Attribute o f p'] e pos) (tXset X.K newId bmB f to te) := by
  refine ⟨fun pins s σ H D I h => plainObj_wpAny_Assign_Attribute (thn (he.run pins s σ H _ I h) fun u s1 got => ?_) hs⟩
  obtain ⟨y, H1, I1, ry, q1⟩ := got
  refine thn (ho.run pins s1 σ H1 _ I1 q1) fun v s2 got => ?_
  obtain ⟨x, H2, I2, rx, a, C, rfl, T, hf, ea, q⟩ := got
  cases (show v = Value.ref a from rx)
  exact xset SF T I2 ea hf ry fun dx s' n ne J => ⟨σ, _, J, q dx n ne⟩
/-- C(e, ..) where C is an own class of exceptions, its __init__ keeping sp -/
def tXmk (C : Addr) (sp : Sp) (ta : TA) : L2.St → Hp → XK → Prop := fun σ H Q => ta σ H fun vs H1 => vs.length ≤ 1000 ∧ ∀ a, H1 a = none → sp (.ref a :: vs) (upd H1 a (exo a C none))
  (fun v H2 => v = .non ∧ ∃ (d : Addr) (fs : List (Str × V)), H2 a = some (exo a C (some d)) ∧ H2 d = some (exd d fs) ∧ H1 d = none ∧ Q (.ref C) (some d) (upd (del H2 a) d (.xd fs))) (fun _ _ _ => False)
theorem pmk_x {CX : CXT} {C fI : Addr} {k : Nat} {fd : FuncData} {ps : List Str} {sp : Sp} (FB : PySem.ExcBaseFacts B newId initId bmB) (T : XCls X.K C newId bmB) (iC : PySem.W.findIn X.K (.ref C) "__init__" = some (some (.ref fI))) (tI : PySem.W.typeIn X.K (.ref fI) = some (.type "function"))
    (F : FnOk X.prog X.w X.K X.mg X.base CX k fI fd ps sp) (hr : Room (k + 1) X.A) (hb : Binds X.K fd ps []) (hx : Passes CX X (fun _ _ _ => False)) (hg : Gl X x) (hm : X.mg x = some (.ref C)) (ha : PA X (e :: es) ta)
    (hdb : (x == ("__debug__" : Str)) = false := by decide) (he : starEach (e :: es) X.env = (false, eval e X.env) :: starEach es X.env := by rfl) (hpl : (backTo pos (starEach es X.env)).any (·.1) = false := by rfl) :
    PMk X (.Call (.Name x p) (e :: es) [] pos) (tXmk C sp ta) := by
  intro pins s σ H Q I h
  refine wpAny_Call_Name_kw (ld_glob I hg hm ?_ hdb)
  refine PySem.W.callWith_K (h₀ := X.base) I.ok.mod.kin T.kC (thn (ha.run pos pins s σ H _ I h) fun us s1 got => ?_) he hpl
  obtain ⟨vs, H1, I1, rv, hz, q⟩ := got
  refine ⟨I1.kIn, ?_⟩
  obtain ⟨_, _, _, _, _, _, _, _, _, _, _, _, _, _, _, _, hC, tail⟩ := PySem.W.excInit_of I1.kIn T.ini
  obtain ⟨hp, gs, dr, tk, os⟩ := s1
  generalize ha0 : hp.objs.size + 1 = a at *
  have far : hp.objs.size ≤ a := by omega
  have na : H1 a = none := I1.hok.fresh far
  have grow : ∀ b o, hp.get? b = some o → ((hp.push (PySem.W.kdv_tup us)).push (PySem.HandSPX.excO C hp.objs.size)).get? b = some o := fun b o z => Heap.get?_push_of_some _ (Heap.get?_push_of_some _ z)
  have at_ : ((hp.push (PySem.W.kdv_tup us)).push (PySem.HandSPX.excO C hp.objs.size)).get? a = some (PySem.HandSPX.excO C hp.objs.size) := by subst ha0; heap_get
  have I2 := I1.laid (t' := tk) (a := a) (o := exo a C none) (h' := (hp.push (PySem.W.kdv_tup us)).push (PySem.HandSPX.excO C hp.objs.size)) grow far (exo_ok at_)
  have want := q a na
  have rv2 : Vals (V.ref a :: vs) (Value.ref a :: us) := .cons rfl rv
  have hlen : (Value.ref a :: us).length = ps.length := rv2.length.symm.trans (F.len _ _ _ _ want)
  have hus : us.length ≤ sizeLine := by rw [← rv.length, sizeLine_eq]; omega
  subst ha0
  have bind := hb _ (Value.ref (hp.objs.size + 1) :: us) I2.kIn (by simpa using hlen)
  rw [List.append_nil] at bind
  refine wpAny_call (PySem.HandSPX.call_own FB tail hC (PySem.W.looks_findIn I1.kIn iC) (fun self => PySem.W.bind_fn I1.kIn self tI) hus
    (codeAny_mono (F.run _ X.stack _ _ ⟨.ref (hp.objs.size + 1) :: us, []⟩ (.ref (hp.objs.size + 1) :: us) _ _ (fun _ _ _ => False) (hr.make C us []) (I2.env0.make C us []) bind rv2 want) fun r s' got => ?_))
  match r, got with
  | .error er, got => exact hx pins σ _ _ er s' I2 got
  | .ok .next, got => exact got.elim
  | .ok .brk, got => exact got.elim
  | .ok .cont, got => exact got.elim
  | .ok (.ret u), got =>
    obtain ⟨v, H2, os2, bare, un2, hok2, rv, rfl, d, fs, ea, ed, dn, q2⟩ := got
    obtain ⟨h2, g2, d2, t2, os'⟩ := s'
    exact ⟨rv, mk_end (raises_own T.exC T.tyC) I1 far grow un2 hok2 os2 bare ea ed dn q2⟩
end
/-- what __init__ of such a class keeps -/
def spX (K : PySem.W.Frag) (newId : String) (bmB : List Value) (f : Str) : Sp := fun vs H Q _ => ∃ (a C : Addr) (v : V), vs = [.ref a, v] ∧ XCls K C newId bmB ∧ PySem.W.findIn K (.ref C) f = some none ∧ H a = some (exo a C none) ∧
  ∀ dx, H dx = none → dx ≠ a → Q .non (upd (upd H dx (exd dx [(f, v)])) a (exo a C (some dx)))
abbrev tXbody (K : PySem.W.Frag) (newId : String) (bmB : List Value) (f msg : Str) : TS := tSeq (tDrop (tXini K newId bmB (tCons (tVar 0) (tCons (tC (.str msg)) tNil)))) (tXset K newId bmB f (tVar 0) (tVar 1))
theorem fn_x {P : Program} {w : World} {K : PySem.W.Frag} {mg : Str → Option Value} {base : Heap} {nm qual : Str} {params : Arguments} {scope : Scope} {dvs : List V} {kws : List (Str × V)} {fI : Addr} {fd : FuncData} {k : Nat} {newId : String} {bmB : List Value} {p0 q f msg : Str}
    {body : List Stmt} (F : FunD K nm qual params body scope dvs kws fI fd) (S : FnScope [p0, q] [p0, q] scope)
    (hb : ∀ (cdv : Value) (A : Around) (outer : List Env) (s : Shared) (H : Hp) (E : XK), PSs (cxOf (CX P w) P w K mg base [p0, q] qual scope fI cdv A outer s H E) body (tXbody K newId bmB f msg)) :
    FnOk P w K mg base (CX P w) (k + 1) fI fd [p0, q] (spX K newId bmB f) := by
  refine F.ok S (fun vs H Q E h => ?_) fun cdv A outer s H vs Q E hr h => ⟨_, hb cdv A outer s H E, ?_⟩
  · obtain ⟨a, C, v, rfl, _⟩ := h
    rfl
  · obtain ⟨a, C, v, rfl, T, hf, ea, q⟩ := h
    refine ⟨.ref a, rfl, ?_⟩
    exact ⟨a, C, [.str msg], rfl, by simp, T, ea, v, rfl, .ref a, rfl, a, C, rfl, T, hf, ea, fun dx n ne => q dx n ne⟩
theorem View.newX {Z : Zn} {F H : Hp} {M : Hm} {a : Addr} (v : View Z F M H) (h : H a = none) {fs : List (String × D)} {gs : List (Str × V)} (r : RDf Z F fs gs) : View Z F (mup M a (.xd fs)) (upd H a (.xd gs)) := by
  have hF := (v.free h).2
  refine ⟨fun b o e => ?_, fun b m e => ?_⟩
  · by_cases q : b = a
    · subst q; rw [hF] at e; cases e
    · rw [upd_ne q]; exact v.sub b o e
  · by_cases q : b = a
    · subst q
      rw [mup_same] at e; cases e
      exact ⟨hF, _, upd_same, r⟩
    · rw [mup_ne q] at e
      obtain ⟨h1, o, h2, h3⟩ := v.mt b m e
      exact ⟨h1, o, by rw [upd_ne q]; exact h2, h3⟩
def wRaise (c f : String) (Ta : DTE) : DTS := fun K σ M => Ta σ M (fun d M1 => ∀ p, M1 p = none → K.ex ⟨c, p⟩ σ (mup M1 p (.xd [(f, d)]))) (fun x M1 => K.ex x σ M1)
@[simp] theorem wRaise_s {c f : String} {Ta : DTE} {K : DEn} {σ : SD} {M : Hm} : wRaise c f Ta K σ M = Ta σ M (fun d M1 => ∀ p, M1 p = none → K.ex ⟨c, p⟩ σ (mup M1 p (.xd [(f, d)]))) (fun x M1 => K.ex x σ M1) := rfl
theorem wRaise_ok {Z : Zn} {W : WX} {K : PySem.W.Frag} {c f : String} {Ta : DTE} {newId : String} {bmB : List Value} (T : XCls K (Z.ca c) newId bmB) (hf : PySem.W.findIn K (.ref (Z.ca c)) (Str.ofString f) = some none) :
    ∀ KE τ H, sOf Z W (wRaise c f Ta) KE τ H → tXmk (Z.ca c) (spX K newId bmB (Str.ofString f)) (aOf Z W (wCons Ta wNil)) τ H (fun cls d H' => W cls d τ H') := by
  rintro KE τ H ⟨F, σ, M, KD, S, V, h, k⟩
  refine ⟨F, σ, M, fun ds M1 => match ds with | [d] => ∀ p, M1 p = none → KD.ex ⟨c, p⟩ σ (mup M1 p (.xd [(f, d)])) | _ => False, _, S, V, h, fun G ds vs M1 H1 e v1 r q => ?_, k.we S⟩
  match ds, vs, r, q with
  | [d], [v], r, q =>
    have rd : RD Z G d v := by cases r; assumption
    refine ⟨by simp, fun a ha => ⟨a, _, v, rfl, T, hf, upd_same, fun dx n ne => ⟨rfl, dx, [(Str.ofString f, v)], upd_same, ?_, ?_, ?_⟩⟩⟩
    · rw [upd_ne ne, upd_same]
    · rw [upd_ne ne] at n; exact n
    · rw [upd_ne ne] at n
      have mem : upd (del (upd (upd (upd H1 a (exo a (Z.ca c) none)) dx (exd dx [(Str.ofString f, v)])) a (exo a (Z.ca c) (some dx))) a) dx (.xd [(Str.ofString f, v)]) = upd H1 dx (.xd [(Str.ofString f, v)]) := by
        funext b
        by_cases h1 : b = dx
        · subst h1; rw [upd_same, upd_same]
        · rw [upd_ne h1, upd_ne h1]
          by_cases h2 : b = a
          · subst h2; rw [del_same, ha]
          · rw [del_ne h2, upd_ne h2, upd_ne h1, upd_ne h2]
      rw [mem]
      exact k.ex _ ⟨c, dx⟩ _ _ σ τ _ _ e (S.ext e) (v1.newX n (.cons rd .nil)) ⟨rfl, rfl⟩ (q dx (v1.free n).1)
  | [], _, r, q => exact q.elim
  | _ :: _ :: _, _, r, q => exact q.elim
theorem ds_raise {Z : Zn} {X : Cx} {W : WX} {c f : String} {e : Expr} {x : Str} {p pos pos' : Pos} {Ta : DTE} {B newId initId : String} {bmB : List Value} {fI : Addr} {k : Nat} {fd : FuncData} {ps : List Str} (hz : Z.K = X.K) (calm : X.calm = true) (tk : Takes X W) (FB : PySem.ExcBaseFacts B newId initId bmB) (T : XCls X.K (Z.ca c) newId bmB)
    (hf : PySem.W.findIn X.K (.ref (Z.ca c)) (Str.ofString f) = some none) (iC : PySem.W.findIn X.K (.ref (Z.ca c)) "__init__" = some (some (.ref fI))) (tI : PySem.W.typeIn X.K (.ref fI) = some (.type "function"))
    (F : FnOk X.prog X.w X.K X.mg X.base (CX X.prog X.w) k fI fd ps (spX X.K newId bmB (Str.ofString f))) (hr : Room (k + 1) X.A) (hb : Binds X.K fd ps []) (hg : Gl X x) (hm : X.mg x = some (.ref (Z.ca c))) (ha : DE Z X W e Ta)
    (hdb : (x == ("__debug__" : Str)) = false) (he : starEach [e] X.env = (false, eval e X.env) :: starEach [] X.env) (hpl : (backTo pos' (starEach [] X.env)).any (·.1) = false) :
    DS Z X W (.Raise (some (.Call (.Name x p) [e] [] pos')) none pos) (wRaise c f Ta) :=
  PS.imp (ps_raise calm tk (pmk_x FB T iC tI F hr hb (passes_call tk fun _ _ _ _ z => z.elim) hg hm (da_cons ha da_nil he) hdb he hpl)) (wRaise_ok T hf)
end DL
namespace DL
open PySem PySem.Spec PyProof.Rows L2
theorem SRel.drop {Z : Zn} {F : Hp} {σ : SD} {τ : L2.St} (s : SRel Z F σ τ) (i : Nat) : SRel Z F (σ.set i none) (τ.set i none) := by
  refine ⟨by simp [s.len], fun j d h => ?_⟩
  by_cases q : i = j
  · subst q
    by_cases hl : i < σ.length
    · rw [List.getElem?_set_self hl] at h; cases h
    · rw [List.getElem?_eq_none (by simpa using hl)] at h; cases h
  · rw [List.getElem?_set_ne q] at h ⊢
    exact s.at_ j d h
/-- the ends of a suite: the name is gone behind it, nothing is raised in it -/
def sEn (i : Nat) (K : DEn) : DEn := { nx := fun σ M => K.nx (σ.set i none) M, rt := K.rt, ex := fun _ _ _ => False, bk := fun σ M => K.bk (σ.set i none) M, ct := fun σ M => K.ct (σ.set i none) M }
def wTry (xs : List String) (ct : String → Bool) (i : Nat) (S : DTS) (S2 : Addr → XD → DTS) : DTS := fun K σ M =>
  S { K with ex := fun x σ' M' => x.cls ∈ xs ∧ if ct x.cls = true then ∀ a, M' a = none → S2 a x (sEn i K) (σ'.set i (some (.ref a))) M' else K.ex x σ' M' } σ M
section
variable {Z : Zn} {X : Cx} {W : WX} {x n : Str} {c : Value} {i : Nat} {body suite : List Stmt} {b₀ : Stmt} {np pos pos' : Pos} {S : DTS} {S2 : Addr → XD → DTS} {xs : List String} {ct : String → Bool}
/-- the suite's reading, below -/
def tSuite (Z : Zn) (xs : List String) (ct : String → Bool) (S2 : Addr → XD → DTS) (a : Addr) (cls : Value) (d : Option Addr) : TS := fun K τ H => ∃ x : XD, cls = .ref (Z.ca x.cls) ∧ d = some x.at_ ∧ (x.cls ∈ xs ∧ ct x.cls = true) ∧ sOf Z NX (S2 a x) K τ H
theorem pss_suite {a : Addr} {oe : Obj} {cls : Value} {d : Option Addr} {pn : List (Addr × Obj)} {sts : List Stmt} (hz : Zc cls d oe) (hf : ∃ vs, oe.data = .fields vs)
    (h : ∀ x : XD, x.cls ∈ xs → ct x.cls = true → Zc (.ref (Z.ca x.cls)) (some x.at_) oe → DSs Z (X.suite a ((a, oe) :: pn)) NX sts (S2 a x)) : PSs (X.suite a ((a, oe) :: pn)) sts (tSuite Z xs ct S2 a cls d) :=
  ⟨fun pins s τ H D I q => by
    obtain ⟨x, rfl, rfl, ⟨hm, hc⟩, q⟩ := q
    exact (h x hm hc hz).run pins s τ H D I q⟩
theorem ds_try_as (hz : Z.K = X.K) (hs : X.stack = X.env :: X.outer) (hf : X.env.frame = some X.env.locals) (hN : X.N.Nodup) (hi : X.N[i]? = some n) (hln : X.env.kindOf n = some .local) (hc : Names X x c) (tk : Takes X W)
    (hct : ∀ y ∈ xs, PySem.W.exmOne X.K (.ref (Z.ca y)) c = some (ct y))
    (hb : ∀ (W : WX) (pn : List (Addr × Obj)) (xe : Value → Shared → Prop), Takes (X.tr pn xe) W → PassesOwn (model X.prog X.w) X.A X.env xe → DSs Z (X.tr pn xe) W body S)
    (hsu : ∀ (a : Addr) (oe : Obj) (pn : List (Addr × Obj)) (y : XD), y.cls ∈ xs → ct y.cls = true → Zc (.ref (Z.ca y.cls)) (some y.at_) oe → (∃ vs, oe.data = .fields vs) → DSs Z (X.suite a ((a, oe) :: pn)) NX (b₀ :: suite) (S2 a y)) :
    DS Z X W (.Try body [.ExceptHandler (some (.Name x np)) (some n) (b₀ :: suite) pos'] [] [] pos) (wTry xs ct i S S2) := by
  refine PS.imp (ps_try_as (ts := tSuite Z xs ct S2) hs hf hN hi hln hc tk hb fun a oe cls d pn hzc hfl => pss_suite hzc hfl fun y hm hcy hzy => hsu a oe pn y hm hcy hzy hfl) ?_
  rintro K τ H ⟨F, σ, M, KD, SR, V, h, k⟩
  refine ⟨F, σ, M, _, SR, V, h, ⟨k.nx, k.rt, k.bk, k.ct, ?_⟩⟩
  rintro G y cv dct σ' τ' M' H' e s v ⟨rfl, rfl⟩ ⟨hm, q⟩
  refine ⟨ct y.cls, hct _ hm, fun hb a ha => ?_, fun hb => ?_⟩
  · rw [if_pos hb] at q
    have hMa : M' a = none := by
      cases e1 : M' a with
      | none => rfl
      | some m => obtain ⟨_, o, h2, _⟩ := v.mt a m e1; rw [ha] at h2; cases h2
    refine ⟨y, rfl, rfl, ⟨hm, hb⟩, G, _, M', sEn i KD, s.set (.ref a) i, v, q a hMa, ⟨fun G2 σ2 τ2 M2 H2 e2 s2 v2 q2 => ?_, k.rt.ext e, fun G2 σ2 τ2 M2 H2 e2 s2 v2 q2 => ?_, fun G2 σ2 τ2 M2 H2 e2 s2 v2 q2 => ?_, fun _ _ _ _ _ _ _ _ _ _ _ _ z => z.elim⟩⟩
    · exact k.nx G2 _ _ M2 H2 (e.trans e2) (s2.drop i) v2 q2
    · exact k.bk G2 _ _ M2 H2 (e.trans e2) (s2.drop i) v2 q2
    · exact k.ct G2 _ _ M2 H2 (e.trans e2) (s2.drop i) v2 q2
  · rw [if_neg (by rw [hb]; decide)] at q
    exact k.ex G y _ _ σ' τ' M' H' e s v ⟨rfl, rfl⟩ q
/-- except C: the same, without a name -/
def sEn0 (K : DEn) : DEn := { nx := K.nx, rt := K.rt, ex := fun _ _ _ => False, bk := K.bk, ct := K.ct }
def wTry0 (xs : List String) (ct : String → Bool) (S S2 : DTS) : DTS := fun K σ M => S { K with ex := fun x σ' M' => x.cls ∈ xs ∧ if ct x.cls = true then S2 (sEn0 K) σ' M' else K.ex x σ' M' } σ M
theorem ds_try0 {S2 : DTS} (hz : Z.K = X.K) (hs : X.stack = X.env :: X.outer) (hf : X.env.frame = some X.env.locals) (hc : Names X x c) (tk : Takes X W) (hct : ∀ y ∈ xs, PySem.W.exmOne X.K (.ref (Z.ca y)) c = some (ct y))
    (hb : ∀ (W : WX) (pn : List (Addr × Obj)) (xe : Value → Shared → Prop), Takes (X.tr pn xe) W → PassesOwn (model X.prog X.w) X.A X.env xe → DSs Z (X.tr pn xe) W body S)
    (hsu : ∀ (a : Addr) (oe : Obj) (pn : List (Addr × Obj)), DSs Z (X.suite a ((a, oe) :: pn)) NX (b₀ :: suite) S2) :
    DS Z X W (.Try body [.ExceptHandler (some (.Name x np)) none (b₀ :: suite) pos'] [] [] pos) (wTry0 xs ct S S2) := by
  refine PS.imp (ps_try_only (ts := fun a cls d => sOf Z NX S2) hs hf hc tk hb fun a oe cls d pn _ _ => hsu a oe pn) ?_
  rintro K τ H ⟨F, σ, M, KD, SR, V, h, k⟩
  refine ⟨F, σ, M, _, SR, V, h, ⟨k.nx, k.rt, k.bk, k.ct, ?_⟩⟩
  rintro G y cv dct σ' τ' M' H' e s v ⟨rfl, rfl⟩ ⟨hm, q⟩
  refine ⟨ct y.cls, hct _ hm, fun hb a _ => ?_, fun hb => ?_⟩
  · rw [if_pos hb] at q
    exact ⟨G, σ', M', sEn0 KD, s, v, q, ⟨k.nx.ext e, k.rt.ext e, k.bk.ext e, k.ct.ext e, fun _ _ _ _ _ _ _ _ _ _ _ _ z => z.elim⟩⟩
  · rw [if_neg (by rw [hb]; decide)] at q
    exact k.ex G y _ _ σ' τ' M' H' e s v ⟨rfl, rfl⟩ q
end
/-- what a class of exceptions says to those who ask its instances -/
structure XAsk (K : PySem.W.Frag) (C : Addr) : Prop where
  ga : PySem.W.findIn K (.ref C) "__getattribute__" = some (some (.builtin "BaseException.__getattribute__"))
  gg : PySem.W.findIn K (.ref C) "__getattr__" = some none
  exC : PySem.W.subIn K (.ref C) (.type "BaseException") = some true
  dct : PySem.W.hasDictIn K C = true
  cl : PySem.W.findIn K (.ref C) "__class__" = some (some (.builtin "object.__class__"))
  gs : PySem.W.specialIn K (.builtin "object.__class__") "__get__" = some (some (.builtin "getset_descriptor.__get__"))
  tk : PySem.W.takesIn K (.builtin "object.__class__") = some true
  ob : PySem.W.mroIn K C (.type "object") = some true
section
variable {Z : Zn} {X : Cx} {W : WX} {a C d : Addr} {oe : Obj} {pn pins : List (Addr × Obj)} {s : Shared} {τ : L2.St} {H : Hp} {gs : List (Str × V)}
theorem x_there (I : Inv (X.suite a ((a, oe) :: pn)) pins τ H s) (hz : Zc (.ref C) (some d) oe) (hf : ∃ vs, oe.data = .fields vs) (hd : H d = some (.xd gs)) :
    ∃ (od : Obj) (mA : Str → Option Value), PySem.W.InstAt s.heap a oe C (some od) ∧ (∀ name, PySem.W.lookIn name od = some (mA name)) ∧ ∀ f, RelO (gs.lookup f) (mA f) := by
  have q := I.hok d _ hd
  obtain ⟨mA, hn, hr⟩ : ∃ mA, s.heap.Ns1 d mA ∧ ∀ f, RelO (gs.lookup f) (mA f) := q
  obtain ⟨od, ho, hl⟩ := lookIn_ns hn
  obtain ⟨ha, _⟩ := I.pin (a, oe) (List.mem_append_left _ List.mem_cons_self)
  obtain ⟨vs, hv⟩ := hf
  refine ⟨od, mA, ⟨ha, hz.1, ?_, ?_⟩, hl, hr⟩
  · unfold PySem.W.notCls; rw [hv] <;> rfl
  · rw [hz.2]; exact ho
/-- n.f, n the exception that the suite holds -/
def wXf (i : Nat) (a : Addr) (x : XD) (f : String) : DTE := fun σ M Q _ => σ[i]? = some (some (.ref a)) ∧ ∃ fs y, M x.at_ = some (.xd fs) ∧ fs.lookup f = some y ∧ Q y M
@[simp] theorem wXf_s {i : Nat} {x : XD} {f : String} {σ : SD} {M : Hm} {Q : DK} {E : DX} : wXf i a x f σ M Q E = (σ[i]? = some (some (.ref a)) ∧ ∃ fs y, M x.at_ = some (.xd fs) ∧ fs.lookup f = some y ∧ Q y M) := rfl
theorem de_xf (i : Nat) {x : XD} {n : Str} {f : String} {ff : Str} {p pos : Pos} (hz : Zc (.ref (Z.ca x.cls)) (some x.at_) oe) (hf : ∃ vs, oe.data = .fields vs) (T : XAsk X.K (Z.ca x.cls)) (hno : PySem.W.findIn X.K (.ref (Z.ca x.cls)) (Str.ofString f) = some none) (hff : Str.ofString f = ff)
    (hv : PE (X.suite a ((a, oe) :: pn)) (.Name n p) (tVar i)) (hb : attributeBase (.Name n p) ff X.env (eval (.Name n p) X.env) = eval (.Name n p) X.env) : DE Z (X.suite a ((a, oe) :: pn)) W (.Attribute (.Name n p) ff pos) (wXf i a x f) := by
  subst hff
  refine ⟨fun pins s τ H Q I h => ?_⟩
  obtain ⟨F, σ, M, QD, ED, S, V0, ⟨hi, fs, y, hm, hl, q⟩, hQ, hE⟩ := h
  obtain ⟨v, hv2, rv⟩ := S.at_ i _ hi
  cases rv.ref_of
  refine attr_of hb (thn (hv.run pins s τ H (fun v H1 => v = .ref a ∧ H1 = H) I ⟨.ref a, hv2, rfl, rfl⟩) fun u s1 got => ?_)
  obtain ⟨_, H1, I1, ru, rfl, rfl⟩ := got
  cases (show u = Value.ref a from ru)
  obtain ⟨_, o, ho, ro⟩ := V0.mt _ _ hm
  cases o with
  | xd gs =>
    obtain ⟨od, mA, J, look, rel⟩ := x_there I1 hz hf ho
    obtain ⟨v, hg, rv⟩ := RDf.lookup (show RDf Z F fs gs from ro) hl
    obtain ⟨w, hw, rw'⟩ := RelO.some_of (v := v) (o := mA (Str.ofString f)) (by rw [← hg]; exact rel _)
    exact HandSPX.exc_get I1.kIn J T.ga T.gg T.exC (PySem.W.findObj_own T.dct hno rfl (by rw [look, hw])) (handed_of rw') ⟨v, H1, I1.tok _, rw', hQ F y v M H1 Ext.rfl' V0 rv q⟩
  | _ => exact ro.elim
/-- isinstance(n, ..), n the exception that the suite holds -/
def rXis (K : PySem.W.Frag) (C a d : Addr) : List V → Hp → VK → Prop := fun xs H Q => ∃ (c : V) (b : Bool), xs = [.ref a, c] ∧ (∃ gs, H d = some (.xd gs)) ∧
  ((∃ cv, (∀ u, RelV c u → u = cv) ∧ PySem.W.kitOne K (.ref C) cv = some b) ∨ ∃ tp ws us, c = .ref tp ∧ SqT K H tp ws ∧ (∀ vs, Vals ws vs → vs = us) ∧ PySem.W.kitAny K (.ref C) us = some b) ∧ Q (.bl b) H
theorem call_xis (T : XAsk X.K C) (hz : Zc (.ref C) (some d) oe) (hf : ∃ vs, oe.data = .fields vs) : CallR (X.suite a ((a, oe) :: pn)) (.builtin "isinstance") (rXis X.K C a d) := by
  intro pins s τ H xs us Q I r h
  obtain ⟨c, b, rfl, ⟨gs, hd⟩, alt, q⟩ := h
  obtain ⟨od, mA, J, look, rel⟩ := x_there I hz hf hd
  have ks : (PySem.W.clsIn X.K C).isSome = true := by
    obtain ⟨cd, e, _⟩ := PySem.W.any_some T.dct
    rw [e]; rfl
  have kit := PySem.W.kitx_exc (x := a) (ox := oe) (od := some od) ks T.ga T.gg T.exC T.cl T.gs T.tk T.ob
  cases r with
  | cons rx rr =>
    cases rr with
    | cons rt rr =>
      cases rr
      cases rx
      rcases alt with ⟨cv, hcv, e⟩ | ⟨tp, ws, us, rfl, ht, hus, e⟩
      · cases hcv _ rt
        exact PySem.W.kia_one kit I.kIn J e (fun z => nomatch z) fun tk => ⟨.bl b, H, I.kept (t' := tk) fun _ _ z => z, rfl, q⟩
      · cases rt
        obtain ⟨its, rv, ⟨o, ho, hc, n, hdt⟩, _⟩ := I.tuple ht
        cases hus _ rv
        obtain ⟨oc, odd, oda, osl⟩ := o
        dsimp only at hc hdt
        subst hc hdt
        exact PySem.W.kia_tup kit I.kIn J ho e (fun z => nomatch z) fun tk => ⟨.bl b, H, I.kept (t' := tk) fun _ _ z => z, rfl, q⟩
/-- the program's exceptions: their bases, what stands above these -/
def xBase (y : String) : String := if y = "NoText" ∨ y = "NoProgram" ∨ y = "NoRoom" ∨ y = "NoSaying" then "ValueError" else if y = "NoStep" then "LookupError" else if y = "TooGreat" then "OverflowError" else if y = "NoName" then "KeyError" else ""
def xMro (b : String) : List String := if b = "ValueError" then ["ValueError", "Exception", "BaseException", "object"] else if b = "LookupError" then ["LookupError", "Exception", "BaseException", "object"] else if b = "OverflowError" then ["OverflowError", "ArithmeticError", "Exception", "BaseException", "object"]
  else if b = "KeyError" then ["KeyError", "LookupError", "Exception", "BaseException", "object"] else []
def isX (y t : String) : Bool := y == t || (xMro (xBase y)).contains t
/-- the values of written classes -/
def isCls : V → Bool
  | .ref _ => true | .ty _ => true | _ => false
def clsV : V → Value
  | .ref a => .ref a | .ty n => .type n | _ => .none
theorem rel_cls {v : V} {u : Value} (h : isCls v = true) (r : RelV v u) : u = clsV v := by
  cases v <;> first | exact r | cases h
theorem rel_clss : ∀ {vs : List V} {us : List Value}, vs.all isCls = true → Vals vs us → us = vs.map clsV
  | [], _, _, .nil => rfl
  | v :: vs, _, h, .cons r rs => by
    simp only [List.all_cons, Bool.and_eq_true] at h
    rw [List.map_cons, rel_cls h.1 r, rel_clss h.2 rs]
def tCs (vs : List V) : TA := fun _ H Q => Q vs H
theorem pa_cs0 : PA X [] (tCs []) := PA.imp pa_nil fun _ _ _ h => h
theorem pa_cs {e : Expr} {es : List Expr} {v : V} {vs : List V} (h : PE X e (tC v)) (hr : PA X es (tCs vs)) (hs : starEach (e :: es) X.env = (false, eval e X.env) :: starEach es X.env := by rfl) : PA X (e :: es) (tCs (v :: vs)) := PA.imp (pa_cons h hr hs) fun _ _ _ h => h
def wXis (i : Nat) (a : Addr) (x : XD) (ns : List String) : DTE := fun σ M Q _ => σ[i]? = some (some (.ref a)) ∧ (∃ fs, M x.at_ = some (.xd fs)) ∧ Q (.bl (ns.any (isX x.cls))) M
@[simp] theorem wXis_s {i : Nat} {x : XD} {ns : List String} {σ : SD} {M : Hm} {Q : DK} {E : DX} : wXis i a x ns σ M Q E = (σ[i]? = some (some (.ref a)) ∧ (∃ fs, M x.at_ = some (.xd fs)) ∧ Q (.bl (ns.any (isX x.cls))) M) := rfl
theorem de_xis1 (i : Nat) {x : XD} {ns : List String} {n y y0 : Str} {v : V} {p p1 p2 pos : Pos} (hz : Zc (.ref (Z.ca x.cls)) (some x.at_) oe) (hf : ∃ vs, oe.data = .fields vs) (T : XAsk X.K (Z.ca x.cls)) (hc : isCls v = true)
    (hk : PySem.W.kitOne X.K (.ref (Z.ca x.cls)) (clsV v) = some (ns.any (isX x.cls))) (hg : Gl X y0) (hm : X.mg y0 = none) (hb : bootBuiltins y0 = some (.builtin "isinstance"))
    (hv : PE (X.suite a ((a, oe) :: pn)) (.Name n p) (tVar i)) (hy : PE (X.suite a ((a, oe) :: pn)) (.Name y p1) (tC v)) (h0 : y0 ≠ "__name__" := by decide) (h1 : (y0 == ("__debug__" : Str)) = false := by decide)
    (s1 : starEach [.Name n p, .Name y p1] X.env = (false, eval (.Name n p) X.env) :: starEach [.Name y p1] X.env := by rfl) (s2 : starEach [.Name y p1] X.env = (false, eval (.Name y p1) X.env) :: starEach [] X.env := by rfl) (s3 : (backTo pos (starEach [.Name y p1] X.env)).any (·.1) = false := by rfl) :
    DE Z (X.suite a ((a, oe) :: pn)) W (.Call (.Name y0 p2) [.Name n p, .Name y p1] [] pos) (wXis i a x ns) := by
  refine PE.imp (pe_callB (call_xis (d := x.at_) T hz hf) hg hm hb (pa_cons hv (pa_cons hy pa_nil s2) s1) h0 h1 s1 s3) fun τ H Q h => ?_
  obtain ⟨F, σ, M, QD, ED, S, V0, ⟨hi, ⟨fs, hmm⟩, q⟩, hQ, hE⟩ := h
  obtain ⟨v', hv2, rv⟩ := S.at_ i _ hi
  cases rv.ref_of
  obtain ⟨_, o, ho, ro⟩ := V0.mt _ _ hmm
  cases o with
  | xd gs => exact ⟨.ref a, hv2, v, _, rfl, ⟨gs, ho⟩, .inl ⟨_, fun u r => rel_cls hc r, hk⟩, hQ F _ _ M H Ext.rfl' V0 (.bl _) q⟩
  | _ => exact ro.elim
theorem de_xisT (i : Nat) {x : XD} {ns : List String} {n y0 : Str} {vs : List V} {es : List Expr} {j : Nat} {p p1 p2 pos : Pos} (hz : Zc (.ref (Z.ca x.cls)) (some x.at_) oe) (hf : ∃ vs, oe.data = .fields vs) (T : XAsk X.K (Z.ca x.cls)) (hc : vs.all isCls = true) (hl : vs.length ≤ 100)
    (hk : PySem.W.kitAny X.K (.ref (Z.ca x.cls)) (vs.map clsV) = some (ns.any (isX x.cls))) (hg : Gl X y0) (hm : X.mg y0 = none) (hb : bootBuiltins y0 = some (.builtin "isinstance"))
    (hv : PE (X.suite a ((a, oe) :: pn)) (.Name n p) (tVar i)) (hy : PA (X.suite a ((a, oe) :: pn)) es (tCs vs)) (h0 : y0 ≠ "__name__" := by decide) (h1 : (y0 == ("__debug__" : Str)) = false := by decide)
    (s1 : starEach [.Name n p, .Tuple es j p1] X.env = (false, eval (.Name n p) X.env) :: starEach [.Tuple es j p1] X.env := by rfl) (s2 : starEach [.Tuple es j p1] X.env = (false, eval (.Tuple es j p1) X.env) :: starEach [] X.env := by rfl) (s3 : (backTo pos (starEach [.Tuple es j p1] X.env)).any (·.1) = false := by rfl) :
    DE Z (X.suite a ((a, oe) :: pn)) W (.Call (.Name y0 p2) [.Name n p, .Tuple es j p1] [] pos) (wXis i a x ns) := by
  refine PE.imp (pe_callB (call_xis (d := x.at_) T hz hf) hg hm hb (pa_cons hv (pa_cons (pe_tup hy) pa_nil s2) s1) h0 h1 s1 s3) fun τ H Q h => ?_
  obtain ⟨F, σ, M, QD, ED, S, V0, ⟨hi, ⟨fs, hmm⟩, q⟩, hQ, hE⟩ := h
  obtain ⟨v', hv2, rv⟩ := S.at_ i _ hi
  cases rv.ref_of
  refine ⟨.ref a, hv2, by rw [sizeLine_eq]; omega, fun tp htp => ?_⟩
  have V1 := V0.newT htp (vs := vs)
  obtain ⟨_, o, ho, ro⟩ := V1.mt _ _ hmm
  cases o with
  | xd gs => exact ⟨.ref tp, _, rfl, ⟨gs, ho⟩, .inr ⟨tp, vs, _, rfl, SqT.of upd_same, fun us r => rel_clss hc r, hk⟩, hQ _ _ _ M _ (Ext.new (V0.free htp).2) V1 (.bl _) q⟩
  | _ => exact ro.elim
end
def newOf (b : String) : String := b ++ ".__new__"
def iniOf (b : String) : String := b ++ ".__init__"
def bmOf (b : String) : List Value := (xMro b).map Value.type
def tV (K : PySem.W.Frag) (t : String) : V := if xBase t = "" then .ty t else .ref (cA K t)
theorem tV_cls {K : PySem.W.Frag} {t : String} : isCls (tV K t) = true := by unfold tV; split <;> rfl
structure XFacts (K : PySem.W.Frag) (c f : String) (fI : Addr) : Prop where
  cls : XCls K (cA K c) (newOf (xBase c)) (bmOf (xBase c))
  ask : XAsk K (cA K c)
  nof : PySem.W.findIn K (.ref (cA K c)) (Str.ofString f) = some none
  ini : PySem.W.findIn K (.ref (cA K c)) "__init__" = some (some (.ref fI))
  fty : PySem.W.typeIn K (.ref fI) = some (.type "function")
  bcl : PySem.W.findCls K (.type (xBase c)) (.type "type") "__init__" = some (.val (.builtin (iniOf (xBase c))))
def oV (a : Option Value) (v : Value) : Bool := match a with | some x => x == v | none => false
theorem oV_ok {a : Option Value} {v : Value} (h : oV a v = true) : a = some v := by
  cases a with
  | none => cases h
  | some x => rw [eq_of_beq (show (x == v) = true from h)]
def cfB (a : Option PySem.W.CFound) (s : String) : Bool := match a with | some (.val (.builtin t)) => t == s | _ => false
theorem cfB_ok {a : Option PySem.W.CFound} {s : String} (h : cfB a s = true) : a = some (.val (.builtin s)) := by
  unfold cfB at h
  split at h
  · rw [eq_of_beq h]
  · cases h
def xfB (K : PySem.W.Frag) (c f : String) (fI : Addr) : Bool :=
  PySem.W.excInitIn K (cA K c) (bmOf (xBase c)) (newOf (xBase c)) && (PySem.W.excOver K (cA K c) (bmOf (xBase c)) && (PySem.W.hasDictIn K (cA K c) && (He.eqO (PySem.W.findIn K (.ref (cA K c)) "__setattr__") (some (some (.builtin "object.__setattr__"))) &&
  (isoB (PySem.W.subIn K (.ref (cA K c)) (.type "BaseException")) true && (oV (PySem.W.typeIn K (.ref (cA K c))) (.type "type") && (PySem.W.keepIn K (.ref (cA K c)) &&
  (He.eqO (PySem.W.findIn K (.ref (cA K c)) "__getattribute__") (some (some (.builtin "BaseException.__getattribute__"))) && (He.eqO (PySem.W.findIn K (.ref (cA K c)) "__getattr__") (some none) && (He.eqO (PySem.W.findIn K (.ref (cA K c)) "__class__") (some (some (.builtin "object.__class__"))) &&
  (He.eqO (PySem.W.specialIn K (.builtin "object.__class__") "__get__") (some (some (.builtin "getset_descriptor.__get__"))) && (isoB (PySem.W.takesIn K (.builtin "object.__class__")) true && (isoB (PySem.W.mroIn K (cA K c) (.type "object")) true &&
  (He.eqO (PySem.W.findIn K (.ref (cA K c)) (Str.ofString f)) (some none) && (He.eqO (PySem.W.findIn K (.ref (cA K c)) "__init__") (some (some (.ref fI))) && (oV (PySem.W.typeIn K (.ref fI)) (.type "function") && cfB (PySem.W.findCls K (.type (xBase c)) (.type "type") "__init__") (iniOf (xBase c)))))))))))))))))
theorem xf_of {K : PySem.W.Frag} {c f : String} {fI : Addr} (h : xfB K c f fI = true) : XFacts K c f fI := by
  unfold xfB at h
  simp only [Bool.and_eq_true] at h
  obtain ⟨h1, h2, h3, h4, h5, h6, h7, h8, h9, h10, h11, h12, h13, h14, h15, h16, h17⟩ := h
  exact ⟨⟨h1, h2, h3, He.eqO_ok h4, isoB_ok h5, oV_ok h6, h7⟩, ⟨He.eqO_ok h8, He.eqO_ok h9, isoB_ok h5, h3, He.eqO_ok h10, He.eqO_ok h11, isoB_ok h12, isoB_ok h13⟩, He.eqO_ok h14, He.eqO_ok h15, oV_ok h16, cfB_ok h17⟩
def xisB (K : PySem.W.Frag) (xs ts : List String) : Bool := (xs.all fun y => ts.all fun t => isoB (PySem.W.kitOne K (.ref (cA K y)) (clsV (tV K t))) (isX y t)) && xs.all fun y => xs.all fun c => isoB (PySem.W.exmOne K (.ref (cA K y)) (.ref (cA K c))) (y == c)
structure XIs (K : PySem.W.Frag) (xs ts : List String) : Prop where
  kit : ∀ y ∈ xs, ∀ t ∈ ts, PySem.W.kitOne K (.ref (cA K y)) (clsV (tV K t)) = some (isX y t)
  exm : ∀ y ∈ xs, ∀ c ∈ xs, PySem.W.exmOne K (.ref (cA K y)) (.ref (cA K c)) = some (y == c)
theorem xis_of {K : PySem.W.Frag} {xs ts : List String} (h : xisB K xs ts = true) : XIs K xs ts := by
  unfold xisB at h
  simp only [Bool.and_eq_true, List.all_eq_true] at h
  exact ⟨fun y hy t ht => isoB_ok (h.1 y hy t ht), fun y hy c hc => isoB_ok (h.2 y hy c hc)⟩
theorem kitAny_of {K : PySem.W.Frag} {t : Value} {b : String → Bool} : ∀ {ts : List String}, (∀ c ∈ ts, PySem.W.kitOne K t (clsV (tV K c)) = some (b c)) → PySem.W.kitAny K t ((ts.map (tV K)).map clsV) = some (ts.any b)
  | [], _ => rfl
  | c :: ts, h => by
    have ih := kitAny_of (ts := ts) fun d hd => h d (List.mem_cons_of_mem _ hd)
    rw [List.map_cons, List.map_cons, List.any_cons]
    unfold PySem.W.kitAny
    rw [h c List.mem_cons_self]
    cases b c with
    | true => rfl
    | false => simpa only [Bool.false_or] using ih
end DL
namespace DL
open PySem PySem.Spec PyProof.Rows L2
structure XBs (c : String) : Prop where
  fb : PySem.ExcBaseFacts (xBase c) (newOf (xBase c)) (iniOf (xBase c)) (bmOf (xBase c))
  sf : PySem.StoreFacts (xBase c) (bmOf (xBase c)) "object.__setattr__" "object"
  ty : typeOf (.type (xBase c)) = pure (.type "type")
  st : Manifest.isStub (xBase c) = false
  hd : PySem.W.handedIn (.builtin (iniOf (xBase c))) = true
theorem xb_V {c : String} (e : xBase c = "ValueError") : XBs c := by
  have e1 : newOf (xBase c) = "ValueError.__new__" := by rw [e]; rfl
  have e2 : iniOf (xBase c) = "ValueError.__init__" := by rw [e]; rfl
  have e3 : bmOf (xBase c) = [.type "ValueError", .type "Exception", .type "BaseException", .type "object"] := by rw [e]; rfl
  refine ⟨?_, ?_, ?_, ?_, ?_⟩
  · rw [e1, e2, e3, e]; exact PySem.F.excBase_ValueError
  · rw [e3, e]; exact PySem.F.store_ValueError
  · rw [e]; kernel_rfl
  · rw [e]; decide +kernel
  · rw [e2]; decide +kernel
theorem xb_O {c : String} (e : xBase c = "OverflowError") : XBs c := by
  have e1 : newOf (xBase c) = "OverflowError.__new__" := by rw [e]; rfl
  have e2 : iniOf (xBase c) = "OverflowError.__init__" := by rw [e]; rfl
  have e3 : bmOf (xBase c) = [.type "OverflowError", .type "ArithmeticError", .type "Exception", .type "BaseException", .type "object"] := by rw [e]; rfl
  refine ⟨?_, ?_, ?_, ?_, ?_⟩
  · rw [e1, e2, e3, e]; exact PySem.F.excBase_OverflowError
  · rw [e3, e]; exact PySem.F.store_OverflowError
  · rw [e]; kernel_rfl
  · rw [e]; decide +kernel
  · rw [e2]; decide +kernel
theorem xb_L {c : String} (e : xBase c = "LookupError") : XBs c := by
  have e1 : newOf (xBase c) = "LookupError.__new__" := by rw [e]; rfl
  have e2 : iniOf (xBase c) = "LookupError.__init__" := by rw [e]; rfl
  have e3 : bmOf (xBase c) = [.type "LookupError", .type "Exception", .type "BaseException", .type "object"] := by rw [e]; rfl
  refine ⟨?_, ?_, ?_, ?_, ?_⟩
  · rw [e1, e2, e3, e]; exact PySem.F.excBase_LookupError
  · rw [e3, e]; exact PySem.F.store_LookupError
  · rw [e]; kernel_rfl
  · rw [e]; decide +kernel
  · rw [e2]; decide +kernel
theorem xb_NoText : XBs "NoText" := xb_V (by decide +kernel)
theorem xb_NoProgram : XBs "NoProgram" := xb_V (by decide +kernel)
theorem xb_NoRoom : XBs "NoRoom" := xb_V (by decide +kernel)
theorem xb_NoSaying : XBs "NoSaying" := xb_V (by decide +kernel)
theorem xb_NoStep : XBs "NoStep" := xb_L (by decide +kernel)
theorem xb_TooGreat : XBs "TooGreat" := xb_O (by decide +kernel)
theorem bt_ValueError : bootBuiltins "ValueError" = some (.type "ValueError") := by kernel_rfl
theorem bt_OverflowError : bootBuiltins "OverflowError" = some (.type "OverflowError") := by kernel_rfl
theorem bt_LookupError : bootBuiltins "LookupError" = some (.type "LookupError") := by kernel_rfl
theorem bt_KeyError : bootBuiltins "KeyError" = some (.type "KeyError") := by kernel_rfl
theorem bx_V {c : String} (e : xBase c = "ValueError") : bootBuiltins "ValueError" = some (.type (xBase c)) := by rw [e]; exact bt_ValueError
theorem bx_O {c : String} (e : xBase c = "OverflowError") : bootBuiltins "OverflowError" = some (.type (xBase c)) := by rw [e]; exact bt_OverflowError
theorem bx_L {c : String} (e : xBase c = "LookupError") : bootBuiltins "LookupError" = some (.type (xBase c)) := by rw [e]; exact bt_LookupError
theorem bx_NoText : bootBuiltins "ValueError" = some (.type (xBase "NoText")) := bx_V (by decide +kernel)
theorem bx_NoProgram : bootBuiltins "ValueError" = some (.type (xBase "NoProgram")) := bx_V (by decide +kernel)
theorem bx_NoRoom : bootBuiltins "ValueError" = some (.type (xBase "NoRoom")) := bx_V (by decide +kernel)
theorem bx_NoSaying : bootBuiltins "ValueError" = some (.type (xBase "NoSaying")) := bx_V (by decide +kernel)
theorem bx_NoStep : bootBuiltins "LookupError" = some (.type (xBase "NoStep")) := bx_L (by decide +kernel)
theorem bx_TooGreat : bootBuiltins "OverflowError" = some (.type (xBase "TooGreat")) := bx_O (by decide +kernel)
section
variable {cs es0 : List String} {X : Cx} {W : WX} {k : Nat} {e : Expr} {x n : Str} {p p1 p2 pos pos' np : Pos} {Ta : DTE} {fI : Addr} {fd : FuncData} {ps : List Str} {xs ts : List String} {a : Addr} {oe : Obj} {pn : List (Addr × Obj)}
theorem sraise (nm f : String) (c : Ct (znOf X.K cs es0) X W k) (B : XBs nm) (XF : XFacts X.K nm f fI) (F : FnOk X.prog X.w X.K X.mg X.base (CX X.prog X.w) (k + 2) fI fd ps (spX X.K (newOf (xBase nm)) (bmOf (xBase nm)) (Str.ofString f))) (hb : Binds X.K fd ps []) (hm : X.mg x = some (.ref (cA X.K nm))) (ha : DE (znOf X.K cs es0) X W e Ta)
    (hg : Gl X x := by rfl) (hdb : (x == ("__debug__" : Str)) = false := by decide) (he : starEach [e] X.env = (false, eval e X.env) :: starEach [] X.env := by rfl) (hpl : (backTo pos' (starEach [] X.env)).any (·.1) = false := by rfl) :
    DS (znOf X.K cs es0) X W (.Raise (some (.Call (.Name x p) [e] [] pos')) none pos) (wRaise nm f Ta) := ds_raise rfl c.calm c.tk B.fb XF.cls XF.nof XF.ini XF.fty F c.hr hb hg hm ha hdb he hpl
theorem Ct.tr {Z : Zn} {W' : WX} (c : Ct Z X W k) {pn : List (Addr × Obj)} {xe : Value → Shared → Prop} (tk : Takes (X.tr pn xe) W') (po : PassesOwn (model X.prog X.w) X.A X.env xe) : Ct Z (X.tr pn xe) W' k :=
  ⟨c.hz, c.hr, tk, c.eq.to rfl rfl rfl rfl rfl, fun d hd => ⟨(c.ne d hd).ob, (c.ne d hd).ne⟩, ⟨c.isi.tt, c.isi.to_, c.isi.ot, c.isi.oo, c.isi.cl, c.isi.gt⟩, c.calm, c.nd, po⟩
/-- what is known within a suite -/
structure Cs (Z : Zn) (X : Cx) : Prop where
  hz : Z.K = X.K
  isi : IsiF Z X
  nd : X.N.Nodup
theorem Ct.su {Z : Zn} (c : Ct Z X W k) : Cs Z (X.suite a pn) := ⟨c.hz, ⟨c.isi.tt, c.isi.to_, c.isi.ot, c.isi.oo, c.isi.cl, c.isi.gt⟩, c.nd⟩
/-- the exception that the suite holds -/
structure Xh (Z : Zn) (K : PySem.W.Frag) (nm : String) (d : Addr) (oe : Obj) (xs ts : List String) : Prop where
  hz : Zc (.ref (Z.ca nm)) (some d) oe
  hf : ∃ vs, oe.data = .fields vs
  ask : XAsk K (Z.ca nm)
  kit : ∀ t ∈ ts, PySem.W.kitOne K (.ref (Z.ca nm)) (clsV (tV K t)) = some (isX nm t)
theorem stry {b₀ : Stmt} {body suite : List Stmt} {S : DTS} {S2 : Addr → XD → DTS} (nm f : String) (i : Nat) (c : Ct (znOf X.K cs es0) X W k) (XF : XFacts X.K nm f fI) (IS : XIs X.K xs ts) (hmem : nm ∈ xs) (hm : X.mg x = some (.ref (cA X.K nm)))
    (hb : ∀ (W : WX) (pn : List (Addr × Obj)) (xe : Value → Shared → Prop), Ct (znOf X.K cs es0) (X.tr pn xe) W k → DSs (znOf X.K cs es0) (X.tr pn xe) W body S)
    (hsu : ∀ (a : Addr) (oe : Obj) (pn : List (Addr × Obj)) (d : Addr), Cs (znOf X.K cs es0) (X.suite a ((a, oe) :: pn)) → Xh (znOf X.K cs es0) X.K nm d oe xs ts → DSs (znOf X.K cs es0) (X.suite a ((a, oe) :: pn)) NX (b₀ :: suite) (S2 a ⟨nm, d⟩))
    (hs : X.stack = X.env :: X.outer := by rfl) (hfr : X.env.frame = some X.env.locals := by rfl) (hi : X.N[i]? = some n := by rfl) (hln : X.env.kindOf n = some .local := by rfl) (hg : Gl X x := by rfl) (hdb : (x == ("__debug__" : Str)) = false := by decide) :
    DS (znOf X.K cs es0) X W (.Try body [.ExceptHandler (some (.Name x np)) (some n) (b₀ :: suite) pos'] [] [] pos) (wTry xs (fun y => y == nm) i S S2) :=
  ds_try_as rfl hs hfr c.nd hi hln ⟨hg, hdb, .inl hm⟩ c.tk (fun y hy => IS.exm y hy nm hmem) (fun W pn xe tk po => hb W pn xe (c.tr tk po)) fun a oe pn y hy hcy hzc hfl => by
    obtain ⟨cl, d⟩ := y
    cases (eq_of_beq hcy : cl = nm)
    exact hsu a oe pn d c.su ⟨hzc, hfl, XF.ask, fun t ht => IS.kit nm hmem t ht⟩
theorem stry0 {b₀ : Stmt} {body suite : List Stmt} {S S2 : DTS} (nm : String) (c : Ct (znOf X.K cs es0) X W k) (IS : XIs X.K xs ts) (hmem : nm ∈ xs) (hm : X.mg x = some (.ref (cA X.K nm)))
    (hb : ∀ (W : WX) (pn : List (Addr × Obj)) (xe : Value → Shared → Prop), Ct (znOf X.K cs es0) (X.tr pn xe) W k → DSs (znOf X.K cs es0) (X.tr pn xe) W body S)
    (hsu : ∀ (a : Addr) (oe : Obj) (pn : List (Addr × Obj)), Cs (znOf X.K cs es0) (X.suite a ((a, oe) :: pn)) → DSs (znOf X.K cs es0) (X.suite a ((a, oe) :: pn)) NX (b₀ :: suite) S2)
    (hs : X.stack = X.env :: X.outer := by rfl) (hfr : X.env.frame = some X.env.locals := by rfl) (hg : Gl X x := by rfl) (hdb : (x == ("__debug__" : Str)) = false := by decide) :
    DS (znOf X.K cs es0) X W (.Try body [.ExceptHandler (some (.Name x np)) none (b₀ :: suite) pos'] [] [] pos) (wTry0 xs (fun y => y == nm) S S2) :=
  ds_try0 rfl hs hfr ⟨hg, hdb, .inl hm⟩ c.tk (fun y hy => IS.exm y hy nm hmem) (fun W pn xe tk po => hb W pn xe (c.tr tk po)) fun a oe pn => hsu a oe pn c.su
theorem sxf {nm : String} {d : Addr} {ff : Str} (f : String) (i : Nat) (h : Xh (znOf X.K cs es0) X.K nm d oe xs ts) (hno : PySem.W.findIn X.K (.ref (cA X.K nm)) (Str.ofString f) = some none) (hv : PE (X.suite a ((a, oe) :: pn)) (.Name n p) (tVar i))
    (hff : Str.ofString f = ff := by rfl) (hb : attributeBase (.Name n p) ff X.env (eval (.Name n p) X.env) = eval (.Name n p) X.env := by rfl) :
    DE (znOf X.K cs es0) (X.suite a ((a, oe) :: pn)) W (.Attribute (.Name n p) ff pos) (wXf i a ⟨nm, d⟩ f) := de_xf i (x := ⟨nm, d⟩) h.hz h.hf h.ask hno hff hv hb
theorem sxis1 {nm : String} {d : Addr} {y y0 : Str} (t : String) (i : Nat) (h : Xh (znOf X.K cs es0) X.K nm d oe xs ts) (ht : t ∈ ts) (hm : X.mg y0 = none) (hb : bootBuiltins y0 = some (.builtin "isinstance")) (hv : PE (X.suite a ((a, oe) :: pn)) (.Name n p) (tVar i)) (hy : PE (X.suite a ((a, oe) :: pn)) (.Name y p1) (tC (tV X.K t)))
    (hg : Gl X y0 := by rfl) (h0 : y0 ≠ "__name__" := by decide) (h1 : (y0 == ("__debug__" : Str)) = false := by decide)
    (s1 : starEach [.Name n p, .Name y p1] X.env = (false, eval (.Name n p) X.env) :: starEach [.Name y p1] X.env := by rfl) (s2 : starEach [.Name y p1] X.env = (false, eval (.Name y p1) X.env) :: starEach [] X.env := by rfl) (s3 : (backTo pos (starEach [.Name y p1] X.env)).any (·.1) = false := by rfl) :
    DE (znOf X.K cs es0) (X.suite a ((a, oe) :: pn)) W (.Call (.Name y0 p2) [.Name n p, .Name y p1] [] pos) (wXis i a ⟨nm, d⟩ [t]) :=
  de_xis1 i (x := ⟨nm, d⟩) h.hz h.hf h.ask tV_cls (by rw [List.any_cons, List.any_nil, Bool.or_false]; exact h.kit t ht) hg hm hb hv hy h0 h1 s1 s2 s3
theorem sxisT {nm : String} {d : Addr} {y0 : Str} {es : List Expr} {j : Nat} (us : List String) (i : Nat) (h : Xh (znOf X.K cs es0) X.K nm d oe xs ts) (ht : ∀ t ∈ us, t ∈ ts) (hm : X.mg y0 = none) (hb : bootBuiltins y0 = some (.builtin "isinstance")) (hv : PE (X.suite a ((a, oe) :: pn)) (.Name n p) (tVar i)) (hy : PA (X.suite a ((a, oe) :: pn)) es (tCs (us.map (tV X.K))))
    (hl : us.length ≤ 100 := by decide) (hg : Gl X y0 := by rfl) (h0 : y0 ≠ "__name__" := by decide) (h1 : (y0 == ("__debug__" : Str)) = false := by decide)
    (s1 : starEach [.Name n p, .Tuple es j p1] X.env = (false, eval (.Name n p) X.env) :: starEach [.Tuple es j p1] X.env := by rfl) (s2 : starEach [.Tuple es j p1] X.env = (false, eval (.Tuple es j p1) X.env) :: starEach [] X.env := by rfl) (s3 : (backTo pos (starEach [.Tuple es j p1] X.env)).any (·.1) = false := by rfl) :
    DE (znOf X.K cs es0) (X.suite a ((a, oe) :: pn)) W (.Call (.Name y0 p2) [.Name n p, .Tuple es j p1] [] pos) (wXis i a ⟨nm, d⟩ us) :=
  de_xisT i (x := ⟨nm, d⟩) h.hz h.hf h.ask (by rw [List.all_map, List.all_eq_true]; exact fun _ _ => tV_cls) (by rw [List.length_map]; exact hl) (kitAny_of fun t h2 => h.kit t (ht t h2)) hg hm hb hv hy h0 h1 s1 s2 s3
theorem ssetS {Z : Zn} {x : Str} {pos' : Pos} (i : Nat) (c : Cs Z X) (he : DE Z X W e Ta) (hi : X.N[i]? = some x := by rfl) (hx : Loc X.env.scope x := by first | exact Or.inl rfl | exact Or.inr rfl) (hf : X.fn x = true ∨ X.env.scope.names.lookup x = some .local := by first | exact .inl rfl | exact .inr rfl) (hs : swapsWith e (some (.Name x pos')) pos.line X.env = pure false := by rfl) : DS Z X W (.Assign [.Name x pos'] e pos) (wAsg Ta (wName i)) := ds_set c.nd hi hx hf he hs
end
theorem pe_own {X : Cx} {e : Expr} {K : PySem.W.Frag} {t : String} (h : xBase t ≠ "") (hp : PE X e (tC (.ref (cA K t)))) : PE X e (tC (tV K t)) := by
  unfold tV; rw [if_neg h]; exact hp
theorem pe_bti {X : Cx} {e : Expr} {K : PySem.W.Frag} {t : String} (h : xBase t = "") (hp : PE X e (tC (.ty t))) : PE X e (tC (tV K t)) := by
  unfold tV; rw [if_pos h]; exact hp
theorem qisS {Z : Zn} {X : Cx} {W : WX} {a : Expr} {Ta : DTE} {x y : Str} {p p2 pos : Pos} {own : Bool} {n : String} (c : Cs Z X) (hcl : if own then n ∈ Z.cs else n ∈ plainTs) (hm : X.mg x = none) (hv : bootBuiltins x = some (.builtin "isinstance")) (ha : DE Z X W a Ta) (hy : PE X (.Name y p2) (tC (if own then .ref (Z.ca n) else .ty n)))
    (hg : Gl X x := by rfl) (hn : x ≠ "__name__" := by decide) (hdb : (x == ("__debug__" : Str)) = false := by decide) (he : starEach [a, .Name y p2] X.env = (false, eval a X.env) :: starEach [.Name y p2] X.env := by rfl) (he2 : starEach [.Name y p2] X.env = (false, eval (.Name y p2) X.env) :: starEach [] X.env := by rfl) (hpl : (backTo pos (starEach [.Name y p2] X.env)).any (·.1) = false := by rfl) :
    DE Z X W (.Call (.Name x p) [a, .Name y p2] [] pos) (wIsi own n Ta) := de_isi c.isi c.hz hcl hg hm hv ha hy hn hdb he he2 hpl
def pEqS (x y : D) (M : Hm) (Q : DK) : Prop := match x, y with
  | .int i, .int j => Q (.bl (i == j)) M
  | .int _, .non => Q (.bl false) M
  | .non, .int _ => Q (.bl false) M
  | .str x, .str y => Q (.bl (x == y)) M
  | _, _ => False
@[simp] theorem pEqS_i {i j : Int} {M : Hm} {Q : DK} : pEqS (.int i) (.int j) M Q = Q (.bl (i == j)) M := rfl
@[simp] theorem pEqS_n {i : Int} {M : Hm} {Q : DK} : pEqS (.int i) .non M Q = Q (.bl false) M := rfl
@[simp] theorem pEqS_s {x y : Tx} {M : Hm} {Q : DK} : pEqS (.str x) (.str y) M Q = Q (.bl (x == y)) M := rfl
theorem oEqS {Z : Zn} {X : Cx} : OpR X (compareOp .Eq) (rOf Z pEqS) := by
  rintro pins s τ H x y v u Q I rx ry ⟨F, M, d, e, QD, V0, r1, r2, q, hQ⟩
  unfold pEqS at q
  split at q
  · cases r1.int_of; cases r2.int_of
    exact op_eq pins s τ H _ _ v u Q I rx ry ⟨rfl, by rw [dec_int]; exact hQ F _ _ M H Ext.rfl' V0 (.bl _) q⟩
  · cases r1.int_of; cases r2.non_of
    exact op_eq pins s τ H _ _ v u Q I rx ry ⟨rfl, hQ F _ _ M H Ext.rfl' V0 (.bl _) q⟩
  · cases r1.non_of; cases r2.int_of
    exact op_eq pins s τ H _ _ v u Q I rx ry ⟨rfl, hQ F _ _ M H Ext.rfl' V0 (.bl _) q⟩
  · cases r1.str_of; cases r2.str_of
    refine op_eq pins s τ H _ _ v u Q I rx ry ⟨rfl, ?_⟩
    have e : ∀ x y : Tx, decide (V.str (sv x) = V.str (sv y)) = (x == y) := fun x y => by
      rw [Bool.eq_iff_iff]
      simp [sv]
    rw [e]
    exact hQ F _ _ M H Ext.rfl' V0 (.bl _) q
  · exact q.elim
end DL
namespace DL
open PySem PySem.Spec PyProof.Rows L2
section
variable {Z : Zn} {X : Cx} {W : WX} {k : Nat}
def pSum (ds : List D) (M : Hm) (Q : DK) : Prop := match ds with
  | [.ref a] => ∃ ns : List Int, Lz M a (ns.map .int) ∧ Q (.int ns.sum) M
  | _ => False
theorem RDs.ints {F : Hp} : ∀ {ns : List Int} {vs : List V}, RDs Z F (ns.map .int) vs → vs = ns.map .int
  | [], _, .nil => rfl
  | n :: ns, _, .cons r rs => by
    cases r.int_of
    rw [RDs.ints rs]; rfl
theorem ref_sum : RefC Z (rSum Z.K) pSum := by
  intro F H M ds vs QD Q V0 r h hQ
  unfold pSum at h
  split at h
  · obtain ⟨ns, hl, h⟩ := h
    cases r with | cons r t => cases t; cases r.ref_of; exact (by
      obtain ⟨vs, hq, rs⟩ := V0.lz hl
      cases rs.ints
      exact ⟨_, ns, rfl, hq, hQ F _ _ M H Ext.rfl' V0 (.int _) h⟩)
  · exact h.elim
def pTuple (ds : List D) (M : Hm) (Q : DK) : Prop := match ds with
  | [.ref a] => ∃ xs, Lz M a xs ∧ Q (.tup xs) M
  | [.tup xs] => Q (.tup xs) M
  | _ => False
abbrev rTuple (K : PySem.W.Frag) : List V → Hp → VK → Prop := fun xs H Q => ∃ p ys, xs = [.ref p] ∧ ((SqL K H p ys ∧ ∀ l, H l = none → Q (.ref l) (upd H l (.tup ys))) ∨ (SqT K H p ys ∧ Q (.ref p) H))
theorem ref_tuple : RefC Z (rTuple Z.K) pTuple := by
  intro F H M ds vs QD Q V0 r h hQ
  unfold pTuple at h
  split at h
  · obtain ⟨xs, hl, h⟩ := h
    cases r with | cons r t => cases t; cases r.ref_of; exact (by
      obtain ⟨vs, hq, rs⟩ := V0.lz hl
      exact ⟨_, vs, rfl, .inl ⟨hq, fun l hl => hQ _ _ _ M _ (Ext.new (V0.free hl).2) (V0.newT hl) (.tup (SqT.of upd_same) (rs.ext (Ext.new (V0.free hl).2))) h⟩⟩)
  · cases r with | cons r t => cases t; exact (by
      obtain ⟨a, us, rfl, ha, rs⟩ := r.tup_of
      exact ⟨_, us, rfl, .inr ⟨SqT.sub V0 ha, hQ F _ _ M H Ext.rfl' V0 (.tup ha rs) h⟩⟩)
  · exact h.elim
def pList (ds : List D) (M : Hm) (Q : DK) : Prop := match ds with
  | [.ref a] => ∃ xs, Lz M a xs ∧ ∀ p, M p = none → Q (.ref p) (mup M p (.lst xs))
  | [.tup xs] => ∀ p, M p = none → Q (.ref p) (mup M p (.lst xs))
  | _ => False
abbrev rList (K : PySem.W.Frag) : List V → Hp → VK → Prop := fun xs H Q => ∃ p ys, xs = [.ref p] ∧ (SqL K H p ys ∨ SqT K H p ys) ∧ ∀ l, H l = none → Q (.ref l) (upd H l (.lst ys))
theorem ref_list : RefC Z (rList Z.K) pList := by
  intro F H M ds vs QD Q V0 r h hQ
  unfold pList at h
  split at h
  · obtain ⟨xs, hl, h⟩ := h
    cases r with | cons r t => cases t; cases r.ref_of; exact (by
      obtain ⟨vs, hq, rs⟩ := V0.lz hl
      exact ⟨_, vs, rfl, .inl hq, fun l hl => hQ F _ _ _ _ Ext.rfl' (V0.newL hl rs) (.ref l) (h l (V0.free hl).1)⟩)
  · cases r with | cons r t => cases t; exact (by
      obtain ⟨a, us, rfl, ha, rs⟩ := r.tup_of
      exact ⟨_, us, rfl, .inr (SqT.sub V0 ha), fun l hl => hQ F _ _ _ _ Ext.rfl' (V0.newL hl rs) (.ref l) (h l (V0.free hl).1)⟩)
  · exact h.elim
@[simp] theorem pSum_r {a : Addr} {M : Hm} {Q : DK} : pSum [.ref a] M Q = ∃ ns : List Int, Lz M a (ns.map .int) ∧ Q (.int ns.sum) M := rfl
@[simp] theorem pTuple_r {a : Addr} {M : Hm} {Q : DK} : pTuple [.ref a] M Q = ∃ xs, Lz M a xs ∧ Q (.tup xs) M := rfl
@[simp] theorem pTuple_t {xs : List D} {M : Hm} {Q : DK} : pTuple [.tup xs] M Q = Q (.tup xs) M := rfl
@[simp] theorem pList_r {a : Addr} {M : Hm} {Q : DK} : pList [.ref a] M Q = ∃ xs, Lz M a xs ∧ ∀ p, M p = none → Q (.ref p) (mup M p (.lst xs)) := rfl
@[simp] theorem pList_t {xs : List D} {M : Hm} {Q : DK} : pList [.tup xs] M Q = ∀ p, M p = none → Q (.ref p) (mup M p (.lst xs)) := rfl
def joinT (sep : Tx) : List Tx → Tx
  | [] => []
  | [x] => x
  | x :: y :: r => x ++ sep ++ joinT sep (y :: r)
theorem join_sv (sep : Tx) : ∀ ts : List Tx, Txt.join (sv sep) (ts.map sv) = sv (joinT sep ts) := by
  intro ts
  show Builtin.Str.glued (sv sep) (ts.map sv) = _
  rw [StrLaws.glued_eq_join]
  induction ts with
  | nil => rfl
  | cons x r ih =>
    cases r with
    | nil => rfl
    | cons y r =>
      show sv x ++ sv sep ++ Str.join (sv sep) ((y :: r).map sv) = _
      rw [ih]
      show _ = sv (x ++ sep ++ joinT sep (y :: r))
      rw [sv_app, sv_app]
def pJoin (d : D) (ds : List D) (M : Hm) (Q : DK) : Prop := match d, ds with
  | .str sep, [.ref a] => ∃ ts : List Tx, Lz M a (ts.map .str) ∧ (ts.map (·.length)).sum + ts.length * sep.length ≤ LL ∧ Q (.str (joinT sep ts)) M
  | _, _ => False
theorem RDs.strs {F : Hp} : ∀ {ts : List Tx} {vs : List V}, RDs Z F (ts.map .str) vs → vs = (ts.map sv).map V.str
  | [], _, .nil => rfl
  | t :: ts, _, .cons r rs => by
    cases r.str_of
    rw [RDs.strs rs]; rfl
theorem md_join : MtD Z "str" (fun x xs H Q => ∃ a p, ∃ ys : List Str, x = .str a ∧ xs = [.ref p] ∧ (SqL Z.K H p (ys.map V.str) ∨ SqT Z.K H p (ys.map V.str)) ∧ (ys.map (·.length)).sum + ys.length * a.length ≤ 16777216 ∧ Q (.str (Txt.join a ys)) H) pJoin := by
  intro F H M d ds v vs QD Q V0 r rs h hQ
  unfold pJoin at h
  split at h
  · rename_i sep a
    cases r.str_of
    obtain ⟨ts, hl, hz, q⟩ := h
    cases rs with | cons r1 t => cases t; cases r1.ref_of; exact (by
      obtain ⟨us, hq, ru⟩ := V0.lz hl
      cases ru.strs
      refine ⟨_, _, ts.map sv, rfl, rfl, .inl hq, ?_, ?_⟩
      · rw [List.map_map, List.length_map, sv_len]
        have e : ((fun x : Str => x.length) ∘ sv) = fun x : Tx => x.length := funext fun x => sv_len x
        rw [e]
        exact hz
      · rw [join_sv]
        exact hQ F _ _ M H Ext.rfl' V0 (.str _) q)
  · exact h.elim
@[simp] theorem pJoin_r {sep : Tx} {a : Addr} {M : Hm} {Q : DK} : pJoin (.str sep) [.ref a] M Q = ∃ ts : List Tx, Lz M a (ts.map .str) ∧ (ts.map (·.length)).sum + ts.length * sep.length ≤ LL ∧ Q (.str (joinT sep ts)) M := rfl
end
/-- what a table holds, asked for the keys qs -/
structure TblF (K : PySem.W.Frag) (w : World) (d : Addr) (qs : List String) (t : List (String × Int)) : Prop where
  kd : ∃ es n, KDict K w d es n
  at_ : ∀ s ∈ qs, match t.lookup s with
    | some i => ∃ tk, PySem.W.nsIn K d (Str.ofString s) = some (some (.int i tk))
    | none => PySem.W.nsIn K d (Str.ofString s) = some none
def tblB (K : PySem.W.Frag) (d : Addr) (qs : List String) (t : List (String × Int)) : Bool := qs.all fun s => match t.lookup s, PySem.W.nsIn K d (Str.ofString s) with
  | some i, some (some (.int j _)) => i == j
  | none, some none => true
  | _, _ => false
theorem tbl_of {K : PySem.W.Frag} {w : World} {d : Addr} {qs : List String} {t : List (String × Int)} (kd : ∃ es n, KDict K w d es n) (h : tblB K d qs t = true) : TblF K w d qs t := by
  refine ⟨kd, fun s hs => ?_⟩
  have q := List.all_eq_true.mp h s hs
  revert q
  cases t.lookup s with
  | none =>
    cases e : PySem.W.nsIn K d (Str.ofString s) with
    | none => intro q; cases q
    | some o => cases o with
      | none => intro _; rfl
      | some v => intro q; cases q
  | some i =>
    cases e : PySem.W.nsIn K d (Str.ofString s) with
    | none => intro q; cases q
    | some o => cases o with
      | none => intro q; cases q
      | some v => cases v with
        | int j tk => intro q; cases (eq_of_beq q); exact ⟨tk, rfl⟩
        | _ => intro q; cases q
section
variable {Z : Zn} {X : Cx} {W : WX} {k : Nat} {d : Addr} {qs : List String} {t : List (String × Int)} {a b e : Expr} {Ta Tb : DTE} {pos p : Pos} {x : Str}
def wTin (neg : Bool) (qs : List String) (t : List (String × Int)) (Ta : DTE) : DTE := fun σ M Q E => Ta σ M (fun y M1 => ∃ s ∈ qs, y = .str (tx s) ∧ Q (.bl (neg ^^ (t.lookup s).isSome)) M1) E
def wTix (qs : List String) (t : List (String × Int)) (Ta : DTE) : DTE := fun σ M Q E => Ta σ M (fun y M1 => ∃ s ∈ qs, y = .str (tx s) ∧ ∃ i, t.lookup s = some i ∧ Q (.int i) M1) E
@[simp] theorem wTin_s {neg : Bool} {σ : SD} {M : Hm} {Q : DK} {E : DX} : wTin neg qs t Ta σ M Q E = Ta σ M (fun y M1 => ∃ s ∈ qs, y = .str (tx s) ∧ Q (.bl (neg ^^ (t.lookup s).isSome)) M1) E := rfl
@[simp] theorem wTix_s {σ : SD} {M : Hm} {Q : DK} {E : DX} : wTix qs t Ta σ M Q E = Ta σ M (fun y M1 => ∃ s ∈ qs, y = .str (tx s) ∧ ∃ i, t.lookup s = some i ∧ Q (.int i) M1) E := rfl
theorem tin_ns (T : TblF X.K X.w d qs t) {s : String} (hs : s ∈ qs) : ∃ r, PySem.W.nsIn X.K d (Str.ofString s) = some r ∧ r.isSome = (t.lookup s).isSome := by
  have f := T.at_ s hs
  revert f
  cases t.lookup s with
  | none => intro f; exact ⟨_, f, rfl⟩
  | some i => rintro ⟨tk, f⟩; exact ⟨_, f, rfl⟩
abbrev rTin (K : PySem.W.Frag) (d : Addr) (neg : Bool) : R2 := fun x y H Q => ∃ (z : Str) (r : Option Value), x = .str z ∧ y = .ref d ∧ PySem.W.nsIn K d z = some r ∧ Q (.bl (neg ^^ r.isSome)) H
theorem op_tin {es : Array DictEntry} {n : Nat} (kd : KDict X.K X.w d es n) {neg : Bool} : OpR X (compareOp (if neg then .NotIn else .In)) (rTin X.K d neg) := by
  cases neg
  · intro pins s σ H x y v u Q I rx ry ⟨z, r, e1, e2, e3, q⟩
    exact op_in_kd kd pins s σ H x y v u Q I rx ry ⟨z, r, e1, e2, e3, by simpa using q⟩
  · intro pins s σ H x y v u Q I rx ry ⟨z, r, e1, e2, e3, q⟩
    exact op_notIn_kd kd pins s σ H x y v u Q I rx ry ⟨z, r, e1, e2, e3, by simpa using q⟩
theorem tin_ok (T : TblF X.K X.w d qs t) {neg : Bool} : ∀ τ H Q, tOf Z W (wTin neg qs t Ta) τ H Q → tOp (rTin X.K d neg) (tOf Z W Ta) (tC (.ref d)) τ H Q := by
  rintro τ H Q ⟨F, σ, M, QD, ED, S, V0, h, hQ, hE⟩
  refine ⟨F, σ, M, _, ED, S, V0, h, fun G y v M1 H1 e1 V1 r1 q1 => ?_, hE⟩
  obtain ⟨s, hs, rfl, q⟩ := q1
  cases r1.str_of
  obtain ⟨r, f, g⟩ := tin_ns T hs
  refine ⟨_, r, rfl, rfl, (by rw [sv_tx]; exact f), ?_⟩
  rw [g]
  exact hQ G _ _ M1 H1 e1 V1 (.bl _) q
theorem de_tin (T : TblF X.K X.w d qs t) (ha : DE Z X W a Ta) (hb : PE X (.Name x p) (tC (.ref d))) (hm : behindInMarks .In (.Name x p) = false) : DE Z X W (.Compare a [.In] [.Name x p] pos) (wTin false qs t Ta) := by
  obtain ⟨es, n, kd⟩ := T.kd
  exact PE.imp (pe_cmpR (op_tin kd (neg := false)) ha hb hm) (tin_ok T)
theorem de_tnin (T : TblF X.K X.w d qs t) (ha : DE Z X W a Ta) (hb : PE X (.Name x p) (tC (.ref d))) (hm : behindInMarks .NotIn (.Name x p) = false) : DE Z X W (.Compare a [.NotIn] [.Name x p] pos) (wTin true qs t Ta) := by
  obtain ⟨es, n, kd⟩ := T.kd
  exact PE.imp (pe_cmpR (op_tin kd (neg := true)) ha hb hm) (tin_ok T)
theorem tin_t (T : TblF X.K X.w d qs t) {neg : Bool} : ∀ τ H Q, bOf Z W (wB (wTin neg qs t Ta)) τ H Q → tTest (tOp (rTin X.K d neg) (tOf Z W Ta) (tC (.ref d))) τ H Q := by
  rintro τ H Q ⟨F, σ, M, QD, ED, S, V0, h, hQ, hE⟩
  refine tin_ok (W := W) T τ H _ ⟨F, σ, M, _, ED, S, V0, h, fun F1 d v M1 H1 e1 V1 r1 q1 => ?_, hE⟩
  obtain ⟨b, rfl, q1⟩ := q1
  exact ⟨b, r1.bl_of, hQ F1 b M1 H1 e1 V1 q1⟩
theorem db_tin (T : TblF X.K X.w d qs t) (ha : DE Z X W a Ta) (hb : PE X (.Name x p) (tC (.ref d))) (hm : behindInMarks .In (.Name x p) = false) : DB Z X W (.Compare a [.In] [.Name x p] pos) (wB (wTin false qs t Ta)) := by
  obtain ⟨es, n, kd⟩ := T.kd
  exact PT.imp (pt_cmpR (op_tin kd (neg := false)) ha hb hm) (tin_t T)
theorem db_tnin (T : TblF X.K X.w d qs t) (ha : DE Z X W a Ta) (hb : PE X (.Name x p) (tC (.ref d))) (hm : behindInMarks .NotIn (.Name x p) = false) : DB Z X W (.Compare a [.NotIn] [.Name x p] pos) (wB (wTin true qs t Ta)) := by
  obtain ⟨es, n, kd⟩ := T.kd
  exact PT.imp (pt_cmpR (op_tin kd (neg := true)) ha hb hm) (tin_t T)
theorem de_tix (T : TblF X.K X.w d qs t) (ha : PE X (.Name x p) (tC (.ref d))) (hb : DE Z X W b Tb) (hs : PlainIx b) : DE Z X W (.Subscript (.Name x p) b pos) (wTix qs t Tb) := by
  obtain ⟨es, n, kd⟩ := T.kd
  refine PE.imp (pe_ix ix_kdict ha hb hs) fun τ H Q h => ?_
  obtain ⟨F, σ, M, QD, ED, S, V0, h, hQ, hE⟩ := h
  refine ⟨F, σ, M, _, ED, S, V0, h, fun G y v M1 H1 e1 V1 r1 q1 => ?_, hE⟩
  obtain ⟨s, hs, rfl, i, hi, q⟩ := q1
  cases r1.str_of
  have f := T.at_ s hs
  rw [hi] at f
  obtain ⟨tk, f⟩ := f
  exact ⟨d, _, .int i, rfl, rfl, ⟨es, n, _, kd.at_, kd.lit, (by rw [sv_tx]; exact f), ⟨tk, rfl⟩⟩, hQ G _ _ M1 H1 e1 V1 (.int i) q⟩
/-- TABLE.get(e, i) -/
def wTget (qs : List String) (t : List (String × Int)) (i : Int) (Ta : DTE) : DTE := fun σ M Q E => Ta σ M (fun y M1 => ∃ s ∈ qs, y = .str (tx s) ∧ Q (.int ((t.lookup s).getD i)) M1) E
@[simp] theorem wTget_s {i : Int} {σ : SD} {M : Hm} {Q : DK} {E : DX} : wTget qs t i Ta σ M Q E = Ta σ M (fun y M1 => ∃ s ∈ qs, y = .str (tx s) ∧ Q (.int ((t.lookup s).getD i)) M1) E := rfl
theorem de_tget {i : Int} {f : Expr} {apos cpos : Pos} (T : TblF X.K X.w d qs t) (ho : PE X (.Name x p) (tC (.ref d))) (he : DE Z X W e Ta) (hf : PE X f (tC (.int i))) (m : M2 X (.Name x p) "get" apos e f cpos) :
    DE Z X W (.Call (.Attribute (.Name x p) "get" apos) [e, f] [] cpos) (wTget qs t i Ta) := by
  obtain ⟨es, n, kd⟩ := T.kd
  refine ⟨fun pins s τ H Q I h => ?_⟩
  obtain ⟨F, σ, M, QD, ED, S, V0, h, hQ, hE⟩ := h
  refine wpAny_Call_method m.base m.few m.line PySem.F.plainAttrs_dict PySem.F.slot_dict_get PySem.F.type_dict_get (thn (ho.run pins s τ H (fun v H1 => v = .ref d ∧ H1 = H) I ⟨rfl, rfl⟩) fun u s1 got => ?_)
  obtain ⟨_, H1, I1, ru, rfl, rfl⟩ := got
  cases (show u = Value.ref d from ru)
  have mp := PySem.W.mapOf_K (prog := X.prog) (w := X.w) I1.kIn kd.at_ kd.lit
  refine ⟨mp.typeIs, fun b q => ?_, ?_⟩
  · cases q
    exact ⟨_, I1.kIn _ _ kd.at_, rfl⟩
  rw [m.trees]
  refine Calls.callWith_builtin rfl (Calls.evalArgs_plain (Calls.spliced_cons (thn (he.run pins s1 τ H1 (fun v H2 => ∃ s ∈ qs, v = .str (Str.ofString s) ∧ Q (.int ((t.lookup s).getD i)) H2) I1
    ⟨F, σ, M, _, ED, S, V0, h, fun G y v M1 H1 e1 V1 r1 ⟨s, hs, ey, q⟩ => ⟨s, hs, ?_, hQ G _ _ M1 H1 e1 V1 (.int _) q⟩, hE⟩) fun iv s2 got => ?_)))
  · subst ey
    rw [r1.str_of, sv_tx]
  obtain ⟨_, H2, I2, rv, s, hs, rfl, q⟩ := got
  refine Calls.spliced_cons (thn (hf.run pins s2 τ H2 (fun v H3 => v = .int i ∧ H3 = H2) I2 ⟨rfl, rfl⟩) fun fv s3 got => ?_)
  obtain ⟨_, H3, I3, rf, rfl, rfl⟩ := got
  refine Calls.spliced_nil ?_
  obtain ⟨tk, rfl⟩ := (show ∃ t, iv = Value.str _ t from rv)
  have mp3 := PySem.W.mapOf_K (prog := X.prog) (w := X.w) I3.kIn kd.at_ kd.lit
  refine call_meetsIn PySem.F.slot_dict_get mp3.typeIs PySem.F.entry_dict_get (PySem.F.args_dict_get_3 _ _ _) (meets_dict_get_default (PySem.strKind X.prog X.w) d (PySem.strKind_is X.prog X.w _ tk) kd.low fv) ⟨_, mp3, ?_⟩
  have f := T.at_ s hs
  revert f q
  cases t.lookup s with
  | none =>
    intro q f
    rw [PySem.W.find_K kd.at_ f]
    exact ⟨.int i, H3, I3.tok _, rf, q⟩
  | some j =>
    rintro q ⟨tk2, f⟩
    rw [PySem.W.find_K kd.at_ f]
    exact ⟨.int j, H3, I3.tok _, ⟨tk2, rfl⟩, q⟩
end
section
variable {Z : Zn} {X : Cx} {W : WX} {k : Nat} {a b d : Expr} {x y z : Str} {px py pz pt pt2 pos : Pos} {Tr : DTA}
def wPar3 (i j l : Nat) (Tr : DTA) : DTS := fun K σ M => Tr σ M (fun ds M1 => ∃ u v w, ds = [u, v, w] ∧ K.nx (((σ.set i (some u)).set j (some v)).set l (some w)) M1) (fun x M1 => K.ex x σ M1)
@[simp] theorem wPar3_s {i j l : Nat} {K : DEn} {σ : SD} {M : Hm} : wPar3 i j l Tr K σ M = Tr σ M (fun ds M1 => ∃ u v w, ds = [u, v, w] ∧ K.nx (((σ.set i (some u)).set j (some v)).set l (some w)) M1) (fun x M1 => K.ex x σ M1) := rfl
theorem spar3 (i j l : Nat) {kt k2} (c : Ct Z X W k) (ha : DA Z X W [a, b, d] Tr) (hi : X.N[i]? = some x := by rfl) (hj : X.N[j]? = some y := by rfl) (hl : X.N[l]? = some z := by rfl) (hij : i ≠ j := by decide) (hil : i ≠ l := by decide) (hjl : j ≠ l := by decide)
    (hx : X.env.scope.names.lookup x = some .local := by rfl) (hy : X.env.scope.names.lookup y = some .local := by rfl) (hzz : X.env.scope.names.lookup z = some .local := by rfl)
    (hw : swappedStores [.Tuple [.Name x px, .Name y py, .Name z pz] kt pt] (.Tuple [a, b, d] k2 pt2) X.env = pure (some [x, y, z]) := by rfl)
    (hs : swapsWithSole [.Tuple [.Name x px, .Name y py, .Name z pz] kt pt] (.Tuple [a, b, d] k2 pt2) pos.line X.env = pure false := by rfl) :
    DS Z X W (.Assign [.Tuple [.Name x px, .Name y py, .Name z pz] kt pt] (.Tuple [a, b, d] k2 pt2) pos) (wPar3 i j l Tr) :=
  PS.imp (ps_par3 c.calm c.nd hi hj hl hij hil hjl hx hy hzz ha hw hs) fun K τ H ⟨F, σ, M, KD, S, V, h, k⟩ => ⟨F, σ, M, _, _, S, V, h, fun G1 ds vs M1 H1 e v1 r ⟨d1, d2, d3, hd, q⟩ => by
    subst hd
    cases r with | cons r1 r => cases r with | cons r2 r => cases r with | cons r3 r => cases r; exact ⟨_, _, _, rfl, k.nx G1 _ _ M1 H1 e ((((S.ext e).set r1 i).set r2 j).set r3 l) v1 q⟩, k.we S⟩
end
end DL
namespace DL
open PySem PySem.Spec PyProof.Rows L2
/-- a def's promise, whatever is handled -/
structure FnW (P : Program) (w : World) (K : PySem.W.Frag) (mg : Str → Option Value) (base : Heap) (Y : CXT) (k : Nat) (f : Addr) (fd : FuncData) (ps : List Str) (sp : Sp) : Prop where
  len : ∀ vs H Q E, sp vs H Q E → vs.length = ps.length
  go : ∀ (A : Around) (outer : List Env) (s : Shared) (H : Hp) (args : Args) (us : List Value) (vs : List V) (Q : VK) (E : XK), L2H.RoomH k A → Env0 P w K mg base A outer s H → BindsTo s fd args (ps.zip us) → Vals vs us → sp vs H Q E → codeAny (model P w) A (.call (.ref f) args) (CR Y outer P w H s Q E) s
/-- a body's context, whatever is handled -/
def cxW (Y : CXT) (P : Program) (w : World) (K : PySem.W.Frag) (mg : Str → Option Value) (base : Heap) (N : List Str) (qual : Str) (scope : Scope) (f : Addr) (cd : Value) (A : Around) (outer : List Env) (s : Shared) (H : Hp) (E : XK) : Cx :=
  { cxOf Y P w K mg base N qual scope f cd A outer s H E with calm := false }
section
variable {Y : CXT} {P : Program} {w : World} {K : PySem.W.Frag} {mg : Str → Option Value} {base : Heap} {N ps : List Str} {qual : Str} {scope : Scope} {f : Addr} {cd : Value} {A : Around} {outer : List Env} {s s1 : Shared} {H : Hp} {E : XK} {us : List Value} {vs : List V}
/-- nothing handled -/
def offH (A : Around) : Around := { A with handled := none }
theorem Env0.off (e : Env0 P w K mg base A outer s H) : Env0 P w K mg base (offH A) outer s H := ⟨e.frames, e.mod, e.bs, e.bsz, e.funs, e.frf, e.hok, e.bare⟩
theorem inv_startW (S : FnScope N ps scope) (e0 : Env0 P w K mg base A outer s H) (hl : vs.length = ps.length) (r : Vals vs us)
    (x : InCallC s s.heap.objs.size (bindL (envOfC qual scope s.heap.objs.size f cd).kindOf (ps.zip us) fun _ => none) (cellsFrom (s.heap.objs.size + 1) scope.names []) (bindC (envOfC qual scope s.heap.objs.size f cd).kindOf (ps.zip us) fun _ => none) s1) :
    Inv (cxW Y P w K mg base N qual scope f cd A outer s H E) [] (L2.start N vs) H s1 := by
  have J : Inv (cxOf Y P w K mg base N qual scope f cd (offH A) outer s H E) [] (L2.start N vs) H s1 := inv_start S rfl (Env0.off e0) hl r x
  have o := J.ok
  exact ⟨⟨o.mod, o.kind, o.glob, o.blt, o.above, o.inj, o.has, o.cab, fun z => Bool.noConfusion (show false = true from z), Around.frames_deeper e0.frames, o.stk, o.exf, o.bs, o.bsz, o.noex, o.exfs, o.funs, o.frf⟩, J.os, J.bare, J.base, J.loc, J.cell, J.free, J.freeC, J.pin, J.hok, J.len⟩
theorem fnW {k : Nat} {x : Str} {params : Arguments} {body : List Stmt} {dvs : List V} {kws : List (Str × V)} {fd : FuncData} {sp : Sp} (F : FunD K x qual params body scope dvs kws f fd) (S : FnScope N ps scope) (len : ∀ vs H Q E, sp vs H Q E → vs.length = ps.length)
    (hbody : ∀ (cdv : Value) (A : Around) (outer : List Env) (s : Shared) (H : Hp) (vs : List V) (Q : VK) (E : XK), sp vs H Q E → ∃ t, PSs (cxW Y P w K mg base N qual scope f cdv A outer s H E) body t ∧ t { nx := fun _ H' => Q .non H', rt := Q } (L2.start N vs) H) :
    FnW P w K mg base Y (k + 1) f fd ps sp := by
  obtain ⟨oc, od, dV, kV, doc, pm, an, cdv, ct, osl, rfl, lk, hcd, _, _⟩ := F.ex
  refine ⟨len, fun A outer s H args us vs Q E hr e0 hb r hsp => ?_⟩
  have hl := len _ _ _ _ hsp
  have KX : K.In s.heap := e0.mod.kin.keeps fun b o e => (e0.bs b o e).1
  refine codeAny_call_function hr.depth (KX _ _ lk) rfl S.co S.gen rfl (PySem.W.codeRec_of KX hcd) (hb _ _ _ _ ?_)
  refine wpAny_newFunctionEnv_cells S.kind (fun ⟨n, v⟩ hy => (S.par n (List.of_mem_zip hy).1).elim .inl fun q => .inr ⟨q, PySem.W.cellsFrom_some _ _ _ (.inl q)⟩) fun env he s1 x => ?_
  subst he
  refine ⟨(e0.mod.nolimit.keeps fun b o e => (e0.bs b o e).1).keeps x.toInCall.keep, codeAny_func ?_⟩
  obtain ⟨t, ht, hq⟩ := hbody cdv A outer s H vs Q E hsp
  refine wpAny_mono (ht.run [] s1 (L2.start N vs) H _ (inv_startW S e0 hl r x) hq) (fun fl s' hs => ?_) fun e s' hs => hs
  cases fl with
  | ret u => exact hs.elim fun v h => h.elim fun σ' h => h.elim fun H' ⟨J, rv, q⟩ => ⟨v, H', J.os, J.bare, J.base, J.hok, rv, q⟩
  | next => exact hs.elim fun σ' h => h.elim fun H' ⟨J, q⟩ => ⟨V.non, H', J.os, J.bare, J.base, J.hok, rfl, q⟩
  | brk => exact hs.elim fun _ h => h.elim fun _ h => h.2.elim
  | cont => exact hs.elim fun _ h => h.elim fun _ h => h.2.elim
end
section
variable {P : Program} {w : World} {K : PySem.W.Frag} {mg : Str → Option Value} {base : Heap} {x qual : Str} {params : Arguments} {body : List Stmt} {scope : Scope} {dvs : List V} {kws : List (Str × V)} {f : Addr} {fd : FuncData} {Z : Zn} {N ps : List Str} {k : Nat} {T : DTS}
theorem fn_w (F : FunD K x qual params body scope dvs kws f fd) (S : FnScope N ps scope)
    (h : ∀ (cdv : Value) (A : Around) (outer : List Env) (s : Shared) (H : Hp) (E : XK), DSs Z (cxW (CX P w) P w K mg base N qual scope f cdv A outer s H E) (fun cls d _ H => E cls d H) body T) :
    FnW P w K mg base (CX P w) (k + 1) f fd ps (spOf Z ps.length (wBody N T)) := by
  refine fnW F S (fun vs H Q E q => q.len) fun cdv A outer s H vs Q E q => ⟨_, h cdv A outer s H E, ?_⟩
  obtain ⟨F, ds, M, QD, ED, hl, r, V0, q, hQ, hE⟩ := q
  exact ⟨F, startD N ds, M, _, srel_start r, V0, q, ⟨fun G σ τ M' H' e s v ⟨M'', hs, q⟩ => hQ G .non .non M'' H' e (v.less hs) .non q, fun G d v M' H' e vw r ⟨M'', hs, q⟩ => hQ G d v M'' H' e (vw.less hs) r q, fun _ _ _ _ _ _ _ _ z => z.elim, fun _ _ _ _ _ _ _ _ z => z.elim, fun G x cv dct σ τ M' H' e s v rx q => hE G x cv dct M' H' e v rx q⟩⟩
end
theorem roomW {k : Nat} {A : Around} (r : L2H.RoomH (k + 1) A) (C : Addr) (us : List Value) (kw : List (Str × Value)) : L2H.RoomH k (A.under (.builtin "type.__call__" ⟨.ref C :: us, kw⟩)) :=
  ⟨by have d := r.dp; rw [make_depth]; omega, by have u := r.un; rw [make_units]; omega⟩
section
variable {Z : Zn} {X : Cx} {k n : Nat} {f C : Addr} {fd : FuncData} {ps ks : List Str} {ar : List Ar} {S P : DSp} {x : Str} {p pos : Pos} {e : Expr} {es : List Expr} {kws : List Keyword} {Tr Tk : DTA}
theorem callG_mkW {W : WX} {sp : Sp} {g : List Value → List Value → List Value} {gV : List V → List V → List V} (M : Mk X.K C f) (F : FnW X.prog X.w X.K X.mg X.base (CX X.prog X.w) k f fd ps sp) (hr : L2H.RoomH (k + 1) X.A) (hb : KBn X.K fd ps (n + 1) ks g gV) (tk : Takes X W) :
    CallG X (.ref C) ks (fun τ vs zs H Q => vs.length = n ∧ zs.length = ks.length ∧ ∀ x dx, H x = none → H dx = none → dx ≠ x →
      sp (gV (.ref x :: vs) zs) (upd (upd H dx (.own x)) x (.ins C dx [])) (fun v H2 => v = .non ∧ Q (.ref x) H2) (L2.WE W τ)) := by
  rintro pins s σ H vs zs us ws Q I r rz ⟨l1, l2, h⟩
  have hq := h (s.heap.objs.size + 1) s.heap.objs.size (I.hok.fresh (Nat.le_succ _)) (I.hok.fresh (Nat.le_refl _)) (Nat.ne_of_lt (Nat.lt_succ_self _))
  have I2 := Inv.made (C := C) I
  have r1 : Vals (V.ref (s.heap.objs.size + 1) :: vs) (Value.ref (s.heap.objs.size + 1) :: us) := .cons rfl r
  have r2 := hb.rel r1 rz
  have e1 : (Value.ref (s.heap.objs.size + 1) :: us).length = n + 1 := r1.length.symm.trans (congrArg Nat.succ l1)
  have e2 : ws.length = ks.length := rz.length.symm.trans l2
  refine wpAny_call (make_map (f := f) I.kIn M.makes M.init (beq_iff_eq.mp M.fn) (codeAny_mono (F.go _ X.stack _ _ ⟨Value.ref (s.heap.objs.size + 1) :: us, ks.zip ws⟩ (g (Value.ref (s.heap.objs.size + 1) :: us) ws) _ _ (L2.WE W σ) (roomW hr C us (ks.zip ws))
    (I2.env0.make C us (ks.zip ws)) (hb.to _ (Value.ref (s.heap.objs.size + 1) :: us) ws I2.kIn e1 e2) r2 hq) fun r s' hq' => ?_))
  cases r with
  | error e => exact passAt tk σ pins _ _ e s' I2 hq'
  | ok fl =>
    cases fl with
    | ret u =>
      obtain ⟨v, H', I3, rv, ev, q3⟩ := I2.after hq'
      subst ev
      exact ⟨rv, ⟨V.ref (s.heap.objs.size + 1), H', I3, rfl, q3⟩⟩
    | next => exact False.elim hq'
    | brk => exact False.elim hq'
    | cont => exact False.elim hq'
theorem smakeW (M : Mk X.K C f) (F : FnW X.prog X.w X.K X.mg X.base (CX X.prog X.w) k f fd ps (spOf Z ps.length S)) (mk : MkOk Z C ps.length S P) (hr : L2H.RoomH (k + 1) X.A) (sh : ShapeC X.K fd ps n ks ar) (hn : ar.length + 1 = ps.length) (hm : X.mg x = some (.ref C))
    (ha : DA Z X NX (e :: es) Tr) (hkw : DKw Z X NX kws Tk) (hg : Gl X x := by rfl)
    (hall : (backToKw pos (keywordEach kws X.env)).all (·.1.isSome) = true := by rfl) (hks : (backToKw pos (keywordEach kws X.env)).filterMap (·.1) = ks := by rfl)
    (hdb : (x == ("__debug__" : Str)) = false := by decide) (he : starEach (e :: es) X.env = (false, eval e X.env) :: starEach es X.env := by rfl)
    (hpl : (backTo pos (starEach (e :: es) X.env)).any (·.1) = false := by rfl) (hpk : (backToKw pos (keywordEach kws X.env)).any (·.1.isNone) = false := by rfl) :
    DE Z X NX (.Call (.Name x p) (e :: es) kws pos) (wCall n ks.length ar P Tr Tk) := by
  obtain ⟨g, hb⟩ := sh.kb
  exact PE.imp (pe_callG (callG_mkW M F hr hb takesN) hg hm M.kp ha hkw hall hks hdb he hpl hpk) (wMk_ok sh.ok hn mk)
end
section
variable {cs es0 : List String} {X : Cx} {W : WX} {k : Nat} {x n : Str} {p pos pos' np : Pos} {fI : Addr} {xs ts : List String}
/-- as stry, the suite knows its room -/
theorem stryR {b₀ : Stmt} {body suite : List Stmt} {S : DTS} {S2 : Addr → XD → DTS} (nm f : String) (i : Nat) (c : Ct (znOf X.K cs es0) X W k) (XF : XFacts X.K nm f fI) (IS : XIs X.K xs ts) (hmem : nm ∈ xs) (hm : X.mg x = some (.ref (cA X.K nm)))
    (hb : ∀ (W : WX) (pn : List (Addr × Obj)) (xe : Value → Shared → Prop), Ct (znOf X.K cs es0) (X.tr pn xe) W k → DSs (znOf X.K cs es0) (X.tr pn xe) W body S)
    (hsu : ∀ (a : Addr) (oe : Obj) (pn : List (Addr × Obj)) (d : Addr), Cs (znOf X.K cs es0) (X.suite a ((a, oe) :: pn)) → L2H.RoomH 3 (X.suite a ((a, oe) :: pn)).A → Xh (znOf X.K cs es0) X.K nm d oe xs ts → DSs (znOf X.K cs es0) (X.suite a ((a, oe) :: pn)) NX (b₀ :: suite) (S2 a ⟨nm, d⟩))
    (hs : X.stack = X.env :: X.outer := by rfl) (hfr : X.env.frame = some X.env.locals := by rfl) (hi : X.N[i]? = some n := by rfl) (hln : X.env.kindOf n = some .local := by rfl) (hg : Gl X x := by rfl) (hdb : (x == ("__debug__" : Str)) = false := by decide) :
    DS (znOf X.K cs es0) X W (.Try body [.ExceptHandler (some (.Name x np)) (some n) (b₀ :: suite) pos'] [] [] pos) (wTry xs (fun y => y == nm) i S S2) :=
  stry nm f i c XF IS hmem hm hb (fun a oe pn d cs xh => hsu a oe pn d cs ⟨by have := c.hr.dp; show X.A.depth + 3 * 3 + 5 < _; omega, by have := c.hr.un; show X.A.units + 16 * 3 + 200 < _; omega⟩ xh) hs hfr hi hln hg hdb
theorem stry0R {b₀ : Stmt} {body suite : List Stmt} {S S2 : DTS} (nm : String) (c : Ct (znOf X.K cs es0) X W k) (IS : XIs X.K xs ts) (hmem : nm ∈ xs) (hm : X.mg x = some (.ref (cA X.K nm)))
    (hb : ∀ (W : WX) (pn : List (Addr × Obj)) (xe : Value → Shared → Prop), Ct (znOf X.K cs es0) (X.tr pn xe) W k → DSs (znOf X.K cs es0) (X.tr pn xe) W body S)
    (hsu : ∀ (a : Addr) (oe : Obj) (pn : List (Addr × Obj)), Cs (znOf X.K cs es0) (X.suite a ((a, oe) :: pn)) → L2H.RoomH 3 (X.suite a ((a, oe) :: pn)).A → DSs (znOf X.K cs es0) (X.suite a ((a, oe) :: pn)) NX (b₀ :: suite) S2)
    (hs : X.stack = X.env :: X.outer := by rfl) (hfr : X.env.frame = some X.env.locals := by rfl) (hg : Gl X x := by rfl) (hdb : (x == ("__debug__" : Str)) = false := by decide) :
    DS (znOf X.K cs es0) X W (.Try body [.ExceptHandler (some (.Name x np)) none (b₀ :: suite) pos'] [] [] pos) (wTry0 xs (fun y => y == nm) S S2) :=
  stry0 nm c IS hmem hm hb (fun a oe pn cs => hsu a oe pn cs ⟨by have := c.hr.dp; show X.A.depth + 3 * 3 + 5 < _; omega, by have := c.hr.un; show X.A.units + 16 * 3 + 200 < _; omega⟩) hs hfr hg hdb
end
theorem sattW {Z : Zn} {X : Cx} {W : WX} {fields : List String} (f : String) {e o : Expr} {x : Str} {Ta Tb : DTE} {pos pos' : Pos} (hz : Z.K = X.K) (C : Clz Z fields) (hf : f ∈ fields) (ho : DE Z X W o Ta) (hv : DE Z X W e Tb) (hx : Str.ofString f = x := by rfl) (hs : swapsWith e (some (.Attribute o x pos')) pos.line X.env = pure false := by rfl) :
    DS Z X W (.Assign [.Attribute o x pos'] e pos) (wSetA Ta Tb f) := ds_setA hz C hf hx ho hv hs
def pNeS (x y : D) (M : Hm) (Q : DK) : Prop := match x, y with
  | .int i, .int j => Q (.bl (!(i == j))) M
  | _, _ => False
@[simp] theorem pNeS_i {i j : Int} {M : Hm} {Q : DK} : pNeS (.int i) (.int j) M Q = Q (.bl (!(i == j))) M := rfl
theorem oNeS {Z : Zn} {X : Cx} : OpR X (compareOp .NotEq) (rOf Z pNeS) := by
  rintro pins s τ H x y v u Q I rx ry ⟨F, M, d, e, QD, V0, r1, r2, q, hQ⟩
  unfold pNeS at q
  split at q
  · cases r1.int_of; cases r2.int_of
    exact op_ne pins s τ H _ _ v u Q I rx ry ⟨rfl, by rw [dec_int]; exact hQ F _ _ M H Ext.rfl' V0 (.bl _) q⟩
  · exact q.elim
end DL
namespace DL
open PySem PySem.Spec PyProof.Rows L2
def gLst (K : PySem.W.Frag) (n : Nat) (t : TGs) : TG := fun v σ H Q => ∃ a xs, v = .ref a ∧ SqL K H a xs ∧ xs.length = n ∧ t xs σ H Q
theorem pg_lst {X : Cx} {es : List Expr} {k n : Nat} {t : TGs} {pos : Pos} (hc : X.calm = true) (h : PGs X es t) (hn : (assignEach es X.env).length = n) (hst : (assignEach es X.env).findIdx? (·.1) = none) : PG X (.Tuple es k pos) (gLst X.K n t) := by
  refine ⟨fun pins s σ H v u Q I r hw => ?_⟩
  obtain ⟨a, xs, rfl, hq, hl, hw⟩ := hw
  cases r
  obtain ⟨its, rv, ht, hz⟩ := I.list hq
  obtain ⟨o, m, e1, e2, e3, e4⟩ := ht
  have L : s.heap.IsList a its.toArray := ⟨o, e1, e2, m, e4⟩
  rw [assign_Tuple]
  refine wpAny_bind (wpAny_standAt ?_)
  unfold unpack
  rw [hst, show (assignEach es X.env).length = its.toArray.size by simp [hn, ← hl, rv.length]]
  refine wpAny_bind (wpAny_holding (PySem.W.kun_itemsOf (I.ok.hd hc) L fun h' hx => ?_))
  exact h.run pins _ σ H xs _ Q (I.kept (t' := s.toks) fun b o e => hx b o (Nat.ne_of_lt (Heap.lt_size e)) e) rv hw
def wNamesL (is : List Nat) : DTG := fun d σ M Q _ => ∃ a ds, d = .ref a ∧ Lz M a ds ∧ ds.length = is.length ∧ Q (setAll is ds σ) M
@[simp] theorem wNamesL_s {is : List Nat} {d : D} {σ : SD} {M : Hm} {QS : SD → Hm → Prop} {E : DX} : wNamesL is d σ M QS E = ∃ a ds, d = .ref a ∧ Lz M a ds ∧ ds.length = is.length ∧ QS (setAll is ds σ) M := rfl
section
variable {Z : Zn} {X : Cx} {W : WX} {k : Nat} {es : List Expr} {pos : Pos}
theorem gtupL {is : List Nat} {j : Nat} (c : Ct Z X W k) (h : PGs X es (gNames is)) (hn : (assignEach es X.env).length = is.length := by rfl) (hst : (assignEach es X.env).findIdx? (·.1) = none := by rfl) : DG Z X W (.Tuple es j pos) (wNamesL is) :=
  PG.imp (pg_lst c.calm h hn hst) fun v τ H Q ⟨F, σ, M, d, QD, ED, S, V, r, h, hQ, hE⟩ => by
    obtain ⟨a, ds, rfl, hl, hn2, q⟩ := h
    cases r
    obtain ⟨vs, h1, rs⟩ := V.lz hl
    exact ⟨a, vs, rfl, by rw [← c.hz]; exact h1, rs.length.symm.trans hn2, rs.length.symm.trans hn2, hQ F _ _ M H Ext.rfl' (srel_all is S rs) V q⟩
end
end DL
namespace DL
open PySem PySem.Spec PyProof.Rows L2
theorem sv_key {x y : Tx} : ((Sum.inr (sv x) : L2.Key) = Sum.inr (sv y)) ↔ x = y := ⟨fun h => sv_inj (Sum.inr.inj h), fun h => by rw [h]⟩
theorem kval {Z : Zn} {F : Hp} (y : Tx) : ∀ {kvs : List (Tx × D)} {ks : List (L2.Key × V)}, RDk Z F kvs ks → (kvs.lookup y = none ∧ valV ks (Sum.inr (sv y)) = none) ∨ ∃ d v, kvs.lookup y = some d ∧ valV ks (Sum.inr (sv y)) = some v ∧ RD Z F d v
  | _, _, .nil => .inl ⟨rfl, rfl⟩
  | _, _, @RDk.cons _ _ x d v kvs ks h r => by
    rw [List.lookup_cons]
    by_cases e : y = x
    · subst e
      exact .inr ⟨d, v, by simp, valV_pos rfl, h⟩
    · have e1 : (y == x) = false := beq_eq_false_iff_ne.mpr e
      have e2 : ¬ ((Sum.inr (sv x) : L2.Key) = Sum.inr (sv y)) := fun q => e (sv_key.mp q).symm
      rw [e1]
      rw [valV_neg (p := ((Sum.inr (sv x) : L2.Key), v)) e2]
      exact kval y r
/-- a value stored -/
def dput (x : Tx) (d : D) (kvs : List (Tx × D)) : List (Tx × D) := if (kvs.lookup x).isSome then kvs.map (fun kv => if kv.1 = x then (x, d) else kv) else kvs ++ [(x, d)]
theorem dput_len (x : Tx) (d : D) (kvs : List (Tx × D)) : (dput x d kvs).length ≤ kvs.length + 1 := by
  unfold dput; split <;> simp
theorem lookup_map (x : Tx) (d : D) (y : Tx) : ∀ kvs : List (Tx × D), (kvs.map (fun kv => if kv.1 = x then (x, d) else kv)).lookup y = if y = x then (kvs.lookup y).map fun _ => d else kvs.lookup y
  | [] => by simp
  | (z, e) :: r => by
    rw [List.map_cons, List.lookup_cons, List.lookup_cons (a := y)]
    have ih := lookup_map x d y r
    by_cases hz : z = x
    · subst hz
      rw [if_pos rfl]
      by_cases hy : y = z
      · subst hy; simp
      · have : (y == z) = false := beq_eq_false_iff_ne.mpr hy
        simp only [this, ih, if_neg hy]
    · rw [if_neg hz]
      by_cases hy : y = z
      · subst hy; simp [hz]
      · have : (y == z) = false := beq_eq_false_iff_ne.mpr hy
        simp only [this, ih]
theorem lookup_app (x : Tx) (d : D) (y : Tx) : ∀ kvs : List (Tx × D), kvs.lookup x = none → (kvs ++ [(x, d)]).lookup y = if y = x then some d else kvs.lookup y
  | [], _ => by
    by_cases hy : y = x
    · subst hy; simp
    · have : (y == x) = false := beq_eq_false_iff_ne.mpr hy
      simp [List.lookup_cons, this, hy]
  | (z, e) :: r, h => by
    rw [List.lookup_cons] at h
    rw [List.cons_append, List.lookup_cons, List.lookup_cons (a := y)]
    have hz : (x == z) = false := by
      cases q : x == z with
      | true => rw [q] at h; cases h
      | false => rfl
    rw [hz] at h
    by_cases hy : y = z
    · subst hy
      have : ¬ y = x := fun q => by rw [q] at hz; simp at hz
      simp [this]
    · have : (y == z) = false := beq_eq_false_iff_ne.mpr hy
      simp only [this, lookup_app x d y r h]
theorem lookup_put (x : Tx) (d : D) (y : Tx) (kvs : List (Tx × D)) : (dput x d kvs).lookup y = if y = x then some d else kvs.lookup y := by
  unfold dput
  cases e : kvs.lookup x with
  | none => simp only [Option.isSome_none, Bool.false_eq_true, if_false]; exact lookup_app x d y kvs e
  | some u =>
    simp only [Option.isSome_some, if_true]
    rw [lookup_map]
    by_cases h : y = x
    · subst h; rw [if_pos rfl, if_pos rfl, e]; rfl
    · rw [if_neg h, if_neg h]
theorem rdk_len {Z : Zn} {F : Hp} : ∀ {kvs : List (Tx × D)} {ks : List (L2.Key × V)}, RDk Z F kvs ks → kvs.length = ks.length
  | _, _, .nil => rfl
  | _, _, .cons _ r => congrArg Nat.succ (rdk_len r)
theorem rdk_app {Z : Zn} {F : Hp} {x : Tx} {d : D} {v : V} (h : RD Z F d v) : ∀ {kvs : List (Tx × D)} {ks : List (L2.Key × V)}, RDk Z F kvs ks → RDk Z F (kvs ++ [(x, d)]) (ks ++ [(Sum.inr (sv x), v)])
  | _, _, .nil => .cons h .nil
  | _, _, .cons h' r => .cons h' (rdk_app h r)
theorem rdk_map {Z : Zn} {F : Hp} {x : Tx} {d : D} {v : V} (h : RD Z F d v) : ∀ {kvs : List (Tx × D)} {ks : List (L2.Key × V)}, RDk Z F kvs ks → RDk Z F (kvs.map fun kv => if kv.1 = x then (x, d) else kv) (ks.map fun kv => if kv.1 = Sum.inr (sv x) then (kv.1, v) else kv)
  | _, _, .nil => .nil
  | _, _, @RDk.cons _ _ y e u kvs ks h' r => by
    rw [List.map_cons, List.map_cons]
    by_cases q : y = x
    · subst q
      rw [if_pos rfl, if_pos rfl]
      exact .cons h (rdk_map h r)
    · rw [if_neg q, if_neg (fun z => q (sv_key.mp z))]
      exact .cons h' (rdk_map h r)
theorem rdk_put {Z : Zn} {F : Hp} {x : Tx} {d : D} {v : V} (h : RD Z F d v) {kvs : List (Tx × D)} {ks : List (L2.Key × V)} (r : RDk Z F kvs ks) : RDk Z F (dput x d kvs) (putK ks (Sum.inr (sv x)) v) := by
  unfold dput putK
  rw [valV_any]
  rcases kval x r with ⟨e1, e2⟩ | ⟨d', v', e1, e2, _⟩
  · rw [e1, e2]; exact rdk_app h r
  · rw [e1, e2]; exact rdk_map h r
theorem View.dct {Z : Zn} {F : Hp} {M : Hm} {H : Hp} {a : Addr} {kvs : List (Tx × D)} (V0 : View Z F M H) (h : M a = some (.dct kvs)) : ∃ ks, H a = some (.dK ks) ∧ RDk Z F kvs ks := by
  obtain ⟨_, o, h2, h3⟩ := V0.mt a _ h
  cases o <;> first | exact ⟨_, h2, h3⟩ | exact h3.elim
theorem View.newK {Z : Zn} {F : Hp} {M : Hm} {H : Hp} {a : Addr} (v : View Z F M H) (h : H a = none) : View Z F (mup M a (.dct [])) (upd H a (.dK [])) := by
  refine ⟨v.sub.trans (Ext.new h), fun b m e => ?_⟩
  by_cases q : b = a
  · subst q
    rw [mup_same] at e; cases e
    exact ⟨(v.free h).2, _, upd_same, .nil⟩
  · rw [mup_ne q] at e
    obtain ⟨h1, o, h2, h3⟩ := v.mt b m e
    exact ⟨h1, o, by rw [upd_ne q]; exact h2, h3⟩
section
variable {Z : Zn} {X : Cx} {W : WX} {k : Nat} {o i e : Expr} {pos pos' : Pos} {Ta Tb Tc : DTE}
theorem Ct.hu (c : Ct Z X W k) : X.A.units + 1 < cLine := by have := c.hr.un; omega
def wDNew : DTE := fun _ M Q _ => ∀ p, M p = none → Q (.ref p) (mup M p (.dct []))
theorem qdnew : DE Z X W (.Dict [] [] pos) wDNew :=
  PE.imp pe_dnewK fun τ H Q ⟨F, σ, M, QD, ED, S, V, h, hQ, hE⟩ => fun p hp => hQ F _ _ _ _ Ext.rfl' (V.newK hp) (.ref p) (h p (V.free hp).1)
/-- d[k] -/
def pDGet (o y : D) (M : Hm) (Q : DK) : Prop := ∃ a x kvs d, o = .ref a ∧ y = .str x ∧ M a = some (.dct kvs) ∧ kvs.lookup x = some d ∧ Q d M
theorem qdget (c : Ct Z X W k) (ho : DE Z X W o Ta) (hi : DE Z X W i Tb) (hs : NoSl i := by intro _ _; rfl) : DE Z X W (.Subscript o i pos) (w2 pDGet Ta Tb) :=
  PE.imp (pe_dget c.hu ho hi hs) fun τ H Q ⟨F, σ, M, QD, ED, S, V, h, hQ, hE⟩ => ⟨F, σ, M, _, ED, S, V, h, fun F1 d v M1 H1 e1 V1 r1 q1 =>
    ⟨F1, σ, M1, _, ED, S.ext e1, V1, q1, fun F2 d2 v2 M2 H2 e2 V2 r2 q2 => by
      obtain ⟨a, x, kvs, d', rfl, rfl, hm, hl, q⟩ := q2
      cases r1.ref_of; cases r2.str_of
      obtain ⟨ks, hk, rk⟩ := V2.dct hm
      rcases kval x rk with ⟨z, _⟩ | ⟨d'', v', z1, z2, z3⟩
      · rw [hl] at z; cases z
      · rw [hl] at z1; cases z1
        exact ⟨a, v', rfl, by rw [← z2]; exact DGet.k (k := Sum.inr (sv x)) hk, hQ F2 _ _ M2 H2 (e1.trans e2) V2 z3 q⟩, hE.ext e1⟩, hE⟩
/-- k in d, k not in d -/
def pDIn (neg : Bool) (y o : D) (M : Hm) (Q : DK) : Prop := ∃ a x kvs, o = .ref a ∧ y = .str x ∧ M a = some (.dct kvs) ∧ Q (.bl (neg ^^ (kvs.lookup x).isSome)) M
theorem dIn_t : ∀ τ H Q, tOf Z W (w2 (pDIn false) Ta Tb) τ H Q → tDIn (tOf Z W Ta) (tOf Z W Tb) τ H Q := fun τ H Q ⟨F, σ, M, QD, ED, S, V, h, hQ, hE⟩ => ⟨F, σ, M, _, ED, S, V, h, fun F1 d v M1 H1 e1 V1 r1 q1 =>
    ⟨F1, σ, M1, _, ED, S.ext e1, V1, q1, fun F2 d2 v2 M2 H2 e2 V2 r2 q2 => by
      obtain ⟨a, x, kvs, rfl, rfl, hm, q⟩ := q2
      cases r2.ref_of; cases r1.str_of
      obtain ⟨ks, hk, rk⟩ := V2.dct hm
      refine ⟨a, valV ks (Sum.inr (sv x)), rfl, DGet.k (k := Sum.inr (sv x)) hk, hQ F2 _ _ M2 H2 (e1.trans e2) V2 (.bl _) ?_⟩
      rcases kval x rk with ⟨z1, z2⟩ | ⟨d'', v', z1, z2, z3⟩
      · rw [z2]; rw [z1] at q; exact q
      · rw [z2]; rw [z1] at q; exact q, hE.ext e1⟩, hE⟩
theorem dNotIn_t : ∀ τ H Q, tOf Z W (w2 (pDIn true) Ta Tb) τ H Q → tDNotIn (tOf Z W Ta) (tOf Z W Tb) τ H Q := fun τ H Q ⟨F, σ, M, QD, ED, S, V, h, hQ, hE⟩ => ⟨F, σ, M, _, ED, S, V, h, fun F1 d v M1 H1 e1 V1 r1 q1 =>
    ⟨F1, σ, M1, _, ED, S.ext e1, V1, q1, fun F2 d2 v2 M2 H2 e2 V2 r2 q2 => by
      obtain ⟨a, x, kvs, rfl, rfl, hm, q⟩ := q2
      cases r2.ref_of; cases r1.str_of
      obtain ⟨ks, hk, rk⟩ := V2.dct hm
      refine ⟨a, valV ks (Sum.inr (sv x)), rfl, DGet.k (k := Sum.inr (sv x)) hk, hQ F2 _ _ M2 H2 (e1.trans e2) V2 (.bl _) ?_⟩
      rcases kval x rk with ⟨z1, z2⟩ | ⟨d'', v', z1, z2, z3⟩
      · rw [z2]; rw [z1] at q; exact q
      · rw [z2]; rw [z1] at q; exact q, hE.ext e1⟩, hE⟩
theorem qdin (c : Ct Z X W k) (hi : DE Z X W i Ta) (ho : DE Z X W o Tb) (hb : behindInMarks .In o = false := by first | exact nobehind _ (by decide) (by decide) | rfl) : DE Z X W (.Compare i [.In] [o] pos) (w2 (pDIn false) Ta Tb) := PE.imp (pe_cmp (pc_din c.hu hi ho) hb) dIn_t
theorem qdnin (c : Ct Z X W k) (hi : DE Z X W i Ta) (ho : DE Z X W o Tb) (hb : behindInMarks .NotIn o = false := by first | exact nobehind _ (by decide) (by decide) | rfl) : DE Z X W (.Compare i [.NotIn] [o] pos) (w2 (pDIn true) Ta Tb) := PE.imp (pe_cmp (pc_dnotin c.hu hi ho) hb) dNotIn_t
theorem wB_t {T : DTE} {t : TE} (g : ∀ τ H Q, tOf Z W T τ H Q → t τ H Q) : ∀ τ H Q, bOf Z W (wB T) τ H Q → tB t τ H Q := fun τ H Q ⟨F, σ, M, QD, ED, S, V, h, hQ, hE⟩ => g τ H _ ⟨F, σ, M, _, ED, S, V, h, fun F1 d v M1 H1 e1 V1 r1 q1 => by
    obtain ⟨b, rfl, q1⟩ := q1
    exact ⟨b, r1.bl_of, hQ F1 b M1 H1 e1 V1 q1⟩, hE⟩
theorem tdin (c : Ct Z X W k) (hi : DE Z X W i Ta) (ho : DE Z X W o Tb) (hb : behindInMarks .In o = false := by first | exact nobehind _ (by decide) (by decide) | rfl) : DB Z X W (.Compare i [.In] [o] pos) (wB (w2 (pDIn false) Ta Tb)) := PT.imp (pt_cmp (pc_din c.hu hi ho) hb) (wB_t dIn_t)
theorem tdnin (c : Ct Z X W k) (hi : DE Z X W i Ta) (ho : DE Z X W o Tb) (hb : behindInMarks .NotIn o = false := by first | exact nobehind _ (by decide) (by decide) | rfl) : DB Z X W (.Compare i [.NotIn] [o] pos) (wB (w2 (pDIn true) Ta Tb)) := PT.imp (pt_cmp (pc_dnotin c.hu hi ho) hb) (wB_t dNotIn_t)
/-- d[k] = v -/
def wDPut (Tv Td Tk : DTE) : DTS := fun K σ M => Tv σ M (fun v M1 => Td σ M1 (fun o M2 => Tk σ M2 (fun y M3 => ∃ a x kvs, o = .ref a ∧ y = .str x ∧ M3 a = some (.dct kvs) ∧ kvs.length < LL ∧ K.nx σ (mup M3 a (.dct (dput x v kvs)))) (fun x M3 => K.ex x σ M3)) (fun x M2 => K.ex x σ M2)) (fun x M1 => K.ex x σ M1)
@[simp] theorem wDPut_s {Tv Td Tk : DTE} {K : DEn} {σ : SD} {M : Hm} : wDPut Tv Td Tk K σ M = Tv σ M (fun v M1 => Td σ M1 (fun o M2 => Tk σ M2 (fun y M3 => ∃ a x kvs, o = .ref a ∧ y = .str x ∧ M3 a = some (.dct kvs) ∧ kvs.length < LL ∧ K.nx σ (mup M3 a (.dct (dput x v kvs)))) (fun x M3 => K.ex x σ M3)) (fun x M2 => K.ex x σ M2)) (fun x M1 => K.ex x σ M1) := rfl
theorem sdput (c : Ct Z X W k) (ho : DE Z X W o Ta) (hi : DE Z X W i Tb) (hv : DE Z X W e Tc) (hs : swapsWith e (some (.Subscript o i pos')) pos.line X.env = pure false := by rfl) : DS Z X W (.Assign [.Subscript o i pos'] e pos) (wDPut Tc Ta Tb) :=
  PS.imp (ps_dput c.hu ho hi hv hs) fun K τ H ⟨F, σ, M, KD, S, V, h, kk⟩ => ⟨F, σ, M, _, _, S, V, h, fun F1 d v M1 H1 e1 V1 r1 q1 =>
    ⟨F1, σ, M1, _, _, S.ext e1, V1, q1, fun F2 d2 v2 M2 H2 e2 V2 r2 q2 =>
      ⟨F2, σ, M2, _, _, (S.ext e1).ext e2, V2, q2, fun F3 d3 v3 M3 H3 e3 V3 r3 q3 => by
        obtain ⟨a, x, kvs, rfl, rfl, hm, hl, q⟩ := q3
        cases r2.ref_of; cases r3.str_of
        obtain ⟨ks, hk, rk⟩ := V3.dct hm
        have hl' : ks.length < sizeLine := by rw [sizeLine_eq, ← rdk_len rk]; exact hl
        exact ⟨a, _, rfl, DPut.k (k := Sum.inr (sv x)) hk hl', kk.nx F3 _ _ _ _ ((e1.trans e2).trans e3) (((S.ext e1).ext e2).ext e3) (V3.put (m' := .dct (dput x d kvs)) hm (show RM Z F3 (.dct (dput x d kvs)) (.dK _) from rdk_put ((r1.ext e2).ext e3) rk)) q⟩, ((kk.ext (e1.trans e2)).we ((S.ext e1).ext e2))⟩, (kk.ext e1).we (S.ext e1)⟩, kk.we S⟩
@[simp] theorem wDNew_s {σ : SD} {M : Hm} {Q : DK} {E : DX} : wDNew σ M Q E = ∀ p, M p = none → Q (.ref p) (mup M p (.dct [])) := rfl
end
end DL
namespace DL
open PySem PySem.Spec PyProof.Rows L2
def zipD (xs ys : List D) : List D := (xs.zip ys).map fun p => .tup [p.1, p.2]
theorem zipD_get {xs ys : List D} {i : Nat} {d : D} (h : (zipD xs ys)[i]? = some d) : ∃ x y, xs[i]? = some x ∧ ys[i]? = some y ∧ d = .tup [x, y] := by
  unfold zipD at h
  rw [List.getElem?_map] at h
  cases e : (xs.zip ys)[i]? with
  | none => rw [e] at h; cases h
  | some p =>
    rw [e] at h; cases h
    obtain ⟨x, y⟩ := p
    rw [List.getElem?_zip_eq_some] at e
    exact ⟨x, y, e.1, e.2, rfl⟩
theorem zipD_len {xs ys : List D} : (zipD xs ys).length = min xs.length ys.length := by simp [zipD]
def dZip (ds : List D) (M : Hm) (Q : List D → (Hm → Prop) → Hm → Prop) : Prop := match ds with
  | [.ref a, .ref b] => ∃ xs ys, Lz M a xs ∧ Lz M b ys ∧ Q (zipD xs ys) (fun M' => Lz M' a xs ∧ Lz M' b ys) M
  | _ => False
def wZip (Tr : DTA) : DTI := fun σ M Q E => Tr σ M (fun ds M1 => dZip ds M1 Q) E
@[simp] theorem wZip_s {Tr : DTA} {σ : SD} {M : Hm} {Q : List D → (Hm → Prop) → Hm → Prop} {E : DX} : wZip Tr σ M Q E = Tr σ M (fun ds M1 => dZip ds M1 Q) E := rfl
@[simp] theorem dZip_r {a b : Addr} {M : Hm} {Q : List D → (Hm → Prop) → Hm → Prop} : dZip [.ref a, .ref b] M Q = ∃ xs ys, Lz M a xs ∧ Lz M b ys ∧ Q (zipD xs ys) (fun M' => Lz M' a xs ∧ Lz M' b ys) M := rfl
section
variable {Z : Zn} {X : Cx} {W : WX} {k : Nat} {e e2 : Expr} {elts : List Expr} {kk : Nat} {p pos tpos : Pos} {Tr : DTA}
theorem izip (c : Ct Z X W k) (hm : X.mg "zip" = none) (ha : DA Z X W [e, e2] Tr) (hg : Gl X "zip" := by rfl) (hs : starEach [e, e2] X.env = (false, eval e X.env) :: starEach [e2] X.env := by rfl) (hpl : (backTo pos (starEach [e2] X.env)).any (·.1) = false := by rfl) :
    DI Z X W (.Tuple elts kk tpos) (.Call (.Name "zip" p) [e, e2] [] pos) (wZip Tr) := by
  refine PI.imp (pi_zip hg hm ha hs hpl) fun τ H R ⟨F, σ, M, QD, ED, S, V0, hT, hQ, hE⟩ => ⟨F, σ, M, _, ED, S, V0, hT, fun F1 ds vs M1 H1 e1 V1 r1 q => ?_, hE⟩
  match ds, q, r1 with
  | [.ref a, .ref b], q, .cons ra (.cons rb .nil) =>
    cases ra; cases rb
    obtain ⟨xs, ys, hx, hy, q⟩ := q
    obtain ⟨ws, h1, rs⟩ := V1.lz hx
    obtain ⟨us, h2, rt⟩ := V1.lz hy
    rw [c.hz] at h1 h2
    refine ⟨a, b, ws, us, rfl, h1, h2, hQ F1 (Itz X.K a b) _ _ M1 H1 e1 V1 ⟨fun i d G H' M' ee v' st hi => ?_, fun G H' M' ee v' st => ?_⟩ q⟩
    · obtain ⟨x, y, gx, gy, rfl⟩ := zipD_get hi
      obtain ⟨ws', h1', rs'⟩ := v'.lz st.1
      obtain ⟨us', h2', rt'⟩ := v'.lz st.2
      obtain ⟨w1, k1, k2⟩ := rs'.get gx
      obtain ⟨w2, k3, k4⟩ := rt'.get gy
      rw [c.hz] at h1' h2'
      refine ⟨⟨ws', us', w1, w2, h1', h2', k1, k3⟩, fun z H'' yy => ?_⟩
      obtain ⟨T, x', y', rfl, hT, rfl, hw, hu⟩ := yy
      have z1 := hw ws' h1'
      have z2 := hu us' h2'
      rw [k1] at z1; cases z1
      rw [k3] at z2; cases z2
      exact RD.pair v' hT k2 k4
    · obtain ⟨ws', h1', rs'⟩ := v'.lz st.1
      obtain ⟨us', h2', rt'⟩ := v'.lz st.2
      rw [c.hz] at h1' h2'
      refine ⟨ws', us', h1', h2', ?_⟩
      rw [zipD_len, ← rs'.length, ← rt'.length]
      omega
end
theorem setAllV_wipe {vs : List Nat} : ∀ (is : List Nat) (ws : List V) (τ : L2.St), (∀ i ∈ is, i ∈ vs) → L2.wipe (setAllV is ws τ) vs = L2.wipe τ vs
  | [], _, τ, _ => rfl
  | _ :: _, [], τ, _ => rfl
  | i :: is, w :: ws, τ, h => by
    show L2.wipe (setAllV is ws (τ.set i (some w))) vs = _
    rw [setAllV_wipe is ws _ fun j hj => h j (List.mem_cons_of_mem _ hj)]
    exact wipe_set (h i List.mem_cons_self)
theorem cg_names {Z : Zn} {X : Cx} {is vs : List Nat} (hz : Z.K = X.K) (hi : ∀ i ∈ is, i ∈ vs) : CG Z X vs (gTup X.K is.length (gNames is)) (wNames is) := fun F H M σ τ d v QD ED Q V0 S r h hQ => by
  obtain ⟨ds, rfl, hl, q⟩ := h
  obtain ⟨a, ws, rfl, ha, rs⟩ := r.tup_of
  refine ⟨a, ws, rfl, by rw [← hz]; exact SqT.sub V0 ha, rs.length.symm.trans hl, rs.length.symm.trans hl, hQ _ _ (srel_all is S rs) (setAllV_wipe is ws τ hi) q⟩
theorem gtV {Z : Zn} {X : Cx} {W : WX} {k : Nat} {is : List Nat} {es : List Expr} {j : Nat} {pos : Pos} (c : Ct Z X W k) (h : PGs X es (gNames is)) (hn : (assignEach es X.env).length = is.length := by rfl) (hst : (assignEach es X.env).findIdx? (·.1) = none := by rfl) : PG X (.Tuple es j pos) (gTup X.K is.length (gNames is)) := pg_tup c.calm h hn hst
end DL
namespace DL
open PySem PySem.Spec PyProof.Rows L2
def pReverse (d : D) (ds : List D) (M : Hm) (Q : DK) : Prop := match d, ds with
  | .ref a, [] => ∃ xs, M a = some (.lst xs) ∧ Q .non (mup M a (.lst xs.reverse))
  | _, _ => False
@[simp] theorem pReverse_s {a : Addr} {M : Hm} {Q : DK} : pReverse (.ref a) [] M Q = ∃ xs, M a = some (.lst xs) ∧ Q .non (mup M a (.lst xs.reverse)) := rfl
section
variable {Z : Zn} {X : Cx} {W : WX} {k : Nat} {a b : Expr} {pos : Pos} {Ta Tb : DTE}
theorem md_reverse : MtD Z "list" rReverse pReverse := by
  intro F H M d ds v vs QD Q V0 r rs h hQ
  unfold pReverse at h
  split at h
  · cases r.ref_of
    obtain ⟨xs, hx, q⟩ := h
    cases rs
    obtain ⟨us, hu, ru⟩ := V0.lst hx
    exact ⟨_, us, rfl, rfl, hu, hQ F _ _ _ _ Ext.rfl' (V0.put hx (show RM Z F (.lst _) (.lst _) from ru.reverse)) .non q⟩
  · exact h.elim
def pMulT (x y : D) (M : Hm) (Q : DK) : Prop := match x, y with
  | .tup xs, .int j => xs ≠ [] ∧ 2 ≤ j ∧ j ≤ 1000 ∧ xs.length ≤ 1000 ∧ Q (.tup (List.replicate j.toNat xs).flatten) M
  | _, _ => False
@[simp] theorem pMulT_s {xs : List D} {j : Int} {M : Hm} {Q : DK} : pMulT (.tup xs) (.int j) M Q = (xs ≠ [] ∧ 2 ≤ j ∧ j ≤ 1000 ∧ xs.length ≤ 1000 ∧ Q (.tup (List.replicate j.toNat xs).flatten) M) := rfl
theorem op_mulT (hz : Z.K = X.K) : OpR X (binaryOp .Mult) (rOf Z pMulT) := by
  rintro pins s τ H x y v u Q I rx ry ⟨F, M, d, e, QD, V0, r1, r2, q, hQ⟩
  unfold pMulT at q
  split at q
  · rename_i xs j
    obtain ⟨a, vs, rfl, ha, rs⟩ := r1.tup_of
    cases r2.int_of
    obtain ⟨q1, q2, q3, q4, q⟩ := q
    refine op_repT pins s τ H _ _ v u Q I rx ry ⟨a, _, vs, rfl, rfl, by rw [← hz]; exact SqT.sub V0 ha, fun e => q1 (List.eq_nil_of_length_eq_zero (by rw [rs.length, e]; rfl)), q2, q3, by rw [← rs.length]; exact q4, fun p hp => ?_⟩
    have e2 := Ext.new (o := .tup (List.replicate j.toNat vs).flatten) (V0.free hp).2
    exact hQ _ _ _ M _ e2 (V0.newT hp) (.tup (SqT.of upd_same) ((rs.ext e2).rep _)) q
  · exact q.elim
theorem qmulT (c : Ct Z X W k) (ha : DE Z X W a Ta) (hb : DE Z X W b Tb) : DE Z X W (.BinOp a .Mult b pos) (w2 pMulT Ta Tb) := de_bin (op_mulT c.hz) ref_of ha hb
end
end DL
namespace DL
open PySem PySem.Spec PyProof.Rows L2
inductive XT (M : Hm) (es : List String) : Nat → D → D → Prop
  | pure {n : Nat} {d e : D} : D.pure es d = true → D.pure es e = true → d.dp ≤ n → e.dp ≤ n → D.eq d e = true → XT M es n d e
  | lst {n : Nat} {a b : Addr} {xs ys : List D} : M a = some (.lst xs) → M b = some (.lst ys) → xs.length = ys.length → (∀ (i : Nat) (x y : D), xs[i]? = some x → ys[i]? = some y → XT M es n x y) → XT M es (n + 1) (.ref a) (.ref b)
  | tup {n : Nat} {xs ys : List D} : xs.length = ys.length → (∀ (i : Nat) (x y : D), xs[i]? = some x → ys[i]? = some y → XT M es n x y) → XT M es (n + 1) (.tup xs) (.tup ys)
theorem all_true {n : Nat} : (List.range n).all (fun _ => true) = true := by simp
section
variable {Z : Zn} {X : Cx} {W : WX}
theorem nofl {F : Hp} {d : D} {x : V} {u : Value} (rd : RD Z F d x) (ru : RelV x u) : ∀ z t, u ≠ .float z t := by
  intro z t q
  subst q
  cases rd <;> first | (cases ru; done) | (obtain ⟨t, q⟩ := ru; cases q)
/-- each pair of items alike -/
theorem xt_turn {N n : Nat} {A : Around} {pins : List (Addr × Obj)} {τ : L2.St} {F : Hp} {M : Hm} (rec_ : ∀ (A : Around) (pins : List (Addr × Obj)) (s : Shared) (τ : L2.St) (F H : Hp) (d e : D) (x y : V) (u v : Value), XT M Z.es n d e → L2.Sub X n A → Inv X pins τ H s → View Z F M H → RD Z F d x → RD Z F e y → RelV x u → RelV y v →
      wpAny (model X.prog X.w) A (richCompare .Eq u v) (fun r s' => r = .bool true ∧ EqI Z X pins τ F M s') X.xe s)
    {s : Shared} {H : Hp} {d e : D} {x y : V} {u v : Value} (h : XT M Z.es n d e) (sb : L2.Sub X n A) (I : Inv X pins τ H s) (V0 : View Z F M H) (rd : RD Z F d x) (re : RD Z F e y) (ru : RelV x u) (rv : RelV y v) :
    wpAny (model X.prog X.w) A (eqBool u v) (fun r s' => r = true ∧ EqI Z X pins τ F M s') X.xe s :=
  eqBool_rcG (nofl rd ru) (fun _ => ⟨rfl, .now V0 I⟩) (wpAny_mono (rec_ A pins s τ F H d e x y u v h sb I V0 rd re ru rv) (fun r s' ⟨h1, h2⟩ => ⟨_, h1, rfl, h2⟩) fun _ _ z => z)
theorem xt_lst {n : Nat} {A : Around} {pins : List (Addr × Obj)} {s : Shared} {τ : L2.St} {F H : Hp} {M : Hm} {a b : Addr} {xs ys : List D}
    (turn : ∀ (s : Shared) (G H' : Hp) (d e : D) (x y : V) (u v : Value), XT M Z.es n d e → Inv X pins τ H' s → View Z G M H' → RD Z G d x → RD Z G e y → RelV x u → RelV y v →
      wpAny (model X.prog X.w) A (eqBool u v) (fun r s' => r = true ∧ EqI Z X pins τ G M s') X.xe s)
    (I : Inv X pins τ H s) (V0 : View Z F M H) (hx : M a = some (.lst xs)) (hy : M b = some (.lst ys)) (hl : xs.length = ys.length)
    (hi : ∀ (i : Nat) (x y : D), xs[i]? = some x → ys[i]? = some y → XT M Z.es n x y) {B : Around} (hB : B.in1 = A) : 
    ∀ s, EqI Z X pins τ F M s → ∃ (items items2 : Array Value) (n n2 : Nat), s.heap.get? a = some { cls := .type "list", data := .seq items n } ∧ s.heap.get? b = some { cls := .type "list", data := .seq items2 n2 } ∧ items.size = xs.length ∧ items2.size = xs.length ∧
    ∀ (i : Nat) (h1 : i < items.size) (h2 : i < items2.size), wpAny (model X.prog X.w) B.in1 (eqBool items[i] items2[i]) (fun r s' => r = true ∧ EqI Z X pins τ F M s') X.xe s := by
  intro s' hI
  obtain ⟨G, H', eG, VG, I'⟩ := hI
  obtain ⟨its, n1, e, l1, at1⟩ := lst_at I' VG hx
  obtain ⟨its2, n2, e2, l2, at2⟩ := lst_at I' VG hy
  refine ⟨its.toArray, its2.toArray, n1, n2, e, e2, by simpa using l1, by rw [List.size_toArray, l2, hl], fun i h1 h2 => ?_⟩
  have k1 : i < xs.length := by rw [← l1]; simpa using h1
  have k2 : i < ys.length := by rw [← l2]; simpa using h2
  obtain ⟨w1, u1, g1, ru1, q1⟩ := at1 i _ (List.getElem?_eq_getElem k1)
  obtain ⟨w2, u2, g2, ru2, q2⟩ := at2 i _ (List.getElem?_eq_getElem k2)
  rw [arr_at h1 g1, arr_at h2 g2, hB]
  exact wpAny_mono (turn s' G H' xs[i] ys[i] w1 w2 u1 u2 (hi i _ _ (List.getElem?_eq_getElem k1) (List.getElem?_eq_getElem k2)) I' VG q1 q2 ru1 ru2) (fun r s2 ⟨hr, hq⟩ => ⟨hr, hq.trans eG⟩) fun _ _ z => z
theorem xt_rc (h : EqAll Z X N) (hz : Z.K = X.K) (tk : Takes X W) {M : Hm} : ∀ n ≤ N, ∀ (A : Around) (pins : List (Addr × Obj)) (s : Shared) (τ : L2.St) (F H : Hp) (d e : D) (x y : V) (u v : Value), XT M Z.es n d e → L2.Sub X n A → Inv X pins τ H s → View Z F M H → RD Z F d x → RD Z F e y → RelV x u → RelV y v →
      wpAny (model X.prog X.w) A (richCompare .Eq u v) (fun r s' => r = .bool true ∧ EqI Z X pins τ F M s') X.xe s := by
  intro n
  induction n with
  | zero =>
    intro hn A pins s τ F H d e x y u v hX sb I V0 rd re ru rv
    cases hX with
    | pure p1 p2 k1 k2 he =>
      rw [← he]
      exact h.rc hz tk 0 hn A pins s τ F H M d e x y u v sb I V0 rd re ru rv p1 p2 k1 k2
  | succ n ih =>
    intro hn A pins s τ F H d e x y u v hX sb I V0 rd re ru rv
    have hu := sb.room.units0
    have turn := fun (s : Shared) (G H' : Hp) (d e : D) (x y : V) (u v : Value) (h0 : XT M Z.es n d e) (I' : Inv X pins τ H' s) (VG : View Z G M H') (r1 : RD Z G d x) (r2 : RD Z G e y) (r3 : RelV x u) (r4 : RelV y v) =>
      xt_turn (N := N) (n := n) (M := M) (A := A.in1) (ih (by omega)) h0 (L2.Sub.in1 sb) I' VG r1 r2 r3 r4
    cases hX with
    | pure p1 p2 k1 k2 he =>
      rw [← he]
      exact h.rc hz tk _ hn A pins s τ F H M d e x y u v sb I V0 rd re ru rv p1 p2 k1 k2
    | @lst _ a b xs ys hx hy hl hi =>
      cases rd.ref_of
      cases re.ref_of
      cases ru
      cases rv
      refine rc_listE (N := xs.length) (e := fun _ => true) hu (EqI Z X pins τ F M) (xt_lst turn I V0 hx hy hl hi rfl) (fun s' hI => ⟨by rw [all_true], hI⟩) (.now V0 I)
    | @tup _ ds es hl hi =>
      obtain ⟨a, us, rfl, ha, ra⟩ := rd.tup_of
      cases ru
      obtain ⟨its, rv1, p1, hz1⟩ := I.tuple (show SqT X.K H a us by rw [← hz]; exact SqT.sub V0 ha)
      obtain ⟨b, vs, rfl, hb, rb⟩ := re.tup_of
      cases rv
      obtain ⟨its2, rv2, p2, hz2⟩ := I.tuple (show SqT X.K H b vs by rw [← hz]; exact SqT.sub V0 hb)
      have hsz : its.toArray.size = its2.toArray.size := by rw [List.size_toArray, List.size_toArray, ← rv1.length, ← rv2.length, ← ra.length, ← rb.length, hl]
      refine rc_tupE (e := fun _ => true) hu (EqI Z X pins τ F M) p1 p2 (fun i h1 h2 s' hI => ?_) (fun s' hI => ⟨by rw [all_true, hsz]; simp, hI⟩) (.now V0 I)
      obtain ⟨G, H', eG, VG, I'⟩ := hI
      have k1 : i < ds.length := by rw [ra.length, rv1.length]; simpa using h1
      have k2 : i < es.length := by rw [rb.length, rv2.length]; simpa using h2
      obtain ⟨w1, g1, q1⟩ := ra.get (List.getElem?_eq_getElem k1)
      obtain ⟨w2, g2, q2⟩ := rb.get (List.getElem?_eq_getElem k2)
      obtain ⟨u1, gu1, ru1⟩ := rv1.get g1
      obtain ⟨u2, gu2, ru2⟩ := rv2.get g2
      rw [arr_at h1 gu1, arr_at h2 gu2]
      exact wpAny_mono (turn s' G H' ds[i] es[i] w1 w2 u1 u2 (hi i _ _ (List.getElem?_eq_getElem k1) (List.getElem?_eq_getElem k2)) I' VG (q1.ext eG) (q2.ext eG) ru1 ru2) (fun r s2 ⟨hr, hq⟩ => ⟨hr, hq.trans eG⟩) fun _ _ z => z
/-- == or !=: as pEq, pNe; or of what is alike through the memory -/
def pEqX (es : List String) (k : Nat) (x y : D) (M : Hm) (Q : DK) : Prop := pEq es k false x y M Q ∨ (XT M es k x y ∧ Q (.bl true) M)
def pNeX (es : List String) (k : Nat) (x y : D) (M : Hm) (Q : DK) : Prop := pNe es k x y M Q ∨ (∃ a b xs ys, x = .ref a ∧ y = .ref b ∧ M a = some (.lst xs) ∧ M b = some (.lst ys) ∧ xs.length = ys.length ∧ (∀ (i : Nat) (x y : D), xs[i]? = some x → ys[i]? = some y → XT M es k x y) ∧ Q (.bl false) M)
theorem op_eqX (h : EqAll Z X k) (hz : Z.K = X.K) (tk : Takes X W) (hr : Room k X.A) : OpR X (compareOp .Eq) (rOf Z (pEqX Z.es k)) := by
  rintro pins s τ H x y v u Q I rx ry ⟨F, M, d, e, QD, V0, r1, r2, q, hQ⟩
  rcases q with q | ⟨hX, q⟩
  · exact op_eqO h hz tk hr pins s τ H x y v u Q I rx ry ⟨F, M, d, e, QD, V0, r1, r2, q, hQ⟩
  · show wpAny (model X.prog X.w) X.A (richCompare .Eq v u) (EP X pins τ Q) X.xe s
    refine wpAny_mono (xt_rc h hz tk k (Nat.le_refl _) X.A pins s τ F H d e x y v u hX ⟨hr, rfl⟩ I V0 r1 r2 rx ry) (fun r s' z => ?_) fun _ _ z => z
    obtain ⟨rfl, G, H', eG, VG, I'⟩ := z
    exact ⟨.bl true, H', I', rfl, hQ G _ _ M H' eG VG (.bl _) q⟩
theorem op_neX (h : EqAll Z X k) (hn0 : ∀ c ∈ Z.es, NeCls Z X c) (hz : Z.K = X.K) (tk : Takes X W) (hr : Room (k + 1) X.A) : OpR X (compareOp .NotEq) (rOf Z (pNeX Z.es k)) := by
  rintro pins s τ H x y v u Q I rx ry ⟨F, M, d, e, QD, V0, r1, r2, q, hQ⟩
  rcases q with q | ⟨a, b, xs, ys, rfl, rfl, hx, hy, hl, hi, q⟩
  · exact op_neO h hn0 hz tk hr pins s τ H x y v u Q I rx ry ⟨F, M, d, e, QD, V0, r1, r2, q, hQ⟩
  · show wpAny (model X.prog X.w) X.A (richCompare .NotEq v u) (EP X pins τ Q) X.xe s
    have sb : L2.Sub X (k + 1) X.A := ⟨hr, rfl⟩
    cases r1.ref_of
    cases r2.ref_of
    cases rx
    cases ry
    have turn := fun (s : Shared) (G H' : Hp) (d e : D) (x y : V) (u v : Value) (h0 : XT M Z.es k d e) (I' : Inv X pins τ H' s) (VG : View Z G M H') (r1 : RD Z G d x) (r2 : RD Z G e y) (r3 : RelV x u) (r4 : RelV y v) =>
      xt_turn (N := k) (n := k) (M := M) (A := X.A.in1) (xt_rc h hz tk k (Nat.le_refl _)) h0 (L2.Sub.in1 sb) I' VG r1 r2 r3 r4
    refine wpAny_mono (rcne_listE (N := xs.length) (e := fun _ => true) (Q := fun r s' => r = .bool false ∧ EqI Z X pins τ F M s') sb.room.units0 (EqI Z X pins τ F M) (xt_lst turn I V0 hx hy hl hi rfl) (fun s' hI => ⟨by rw [all_true]; rfl, hI⟩) (.now V0 I)) (fun r s' z => ?_) fun _ _ z => z
    obtain ⟨rfl, G, H', eG, VG, I'⟩ := z
    exact ⟨.bl false, H', I', rfl, hQ G _ _ M H' eG VG (.bl _) q⟩
end
section
variable {Z : Zn} {X : Cx} {W : WX} {k : Nat}
theorem oEqX (c : Ct Z X W k) : OpR X (compareOp .Eq) (rOf Z (pEqX Z.es (k + 3))) := op_eqX c.eq c.hz c.tk c.hr
theorem oNeX (c : Ct Z X W k) : OpR X (compareOp .NotEq) (rOf Z (pNeX Z.es (k + 2))) := op_neX (c.eq.mono (by omega)) c.ne c.hz c.tk c.hr
end
end DL
namespace DL
open PySem PySem.Spec PyProof.Rows L2
def pMaxL (ds : List D) (M : Hm) (Q : DK) : Prop := match ds with
  | [.ref a] => ∃ ns : List Int, Lz M a (ns.map .int) ∧ ns ≠ [] ∧ ∀ m, m ∈ ns → (∀ n ∈ ns, n ≤ m) → Q (.int m) M
  | _ => False
theorem ref_maxL {Z : Zn} : RefC Z (rMax Z.K) pMaxL := by
  intro F H M ds vs QD Q V0 r h hQ
  unfold pMaxL at h
  split at h
  · obtain ⟨ns, hl, hne, h⟩ := h
    cases r with | cons r t => cases t; cases r.ref_of; exact (by
      obtain ⟨vs, hq, rs⟩ := V0.lz hl
      cases rs.ints
      exact ⟨_, ns, rfl, hq, List.length_pos_iff.mpr hne, fun m h1 h2 => hQ F _ _ M H Ext.rfl' V0 (.int _) (h m h1 h2)⟩)
  · exact h.elim
@[simp] theorem pMaxL_r {a : Addr} {M : Hm} {Q : DK} : pMaxL [.ref a] M Q = ∃ ns : List Int, Lz M a (ns.map .int) ∧ ns ≠ [] ∧ ∀ m, m ∈ ns → (∀ n ∈ ns, n ≤ m) → Q (.int m) M := rfl
end DL
namespace DL
open PySem PySem.Spec PyProof.Rows L2
theorem tuple_mul1 (l : Addr) (items : Array Value) (n : Nat) (dd : Option Addr) (sl : Array (Option Value)) (u : Tok) :
    Meets (Builtin.«tuple.__mul__» ⟨[.ref l, .int 1 u], []⟩) (fun _ R s => s.heap.get? l = some { cls := .type "tuple", dict := dd, data := .seq items n, slots := sl } ∧
      R (.ok (.ret (Value.ref l))) { s with heap := s.heap, toks := s.toks }) :=
  .of_wp fun prog w A R s h => by
    obtain ⟨hp, g, d, tk, os⟩ := s
    obtain ⟨hl, h⟩ := h
    have f1 := AutoSeq1.idx_int
    have c0 : (decide ((1 : Int) < -(2 ^ 63)) || decide ((1 : Int) ≥ 2 ^ 63)) = false := by decide
    have c1 : (items.isEmpty || (1 : Int) == 1) = true := by simp
    wp_walk using wpAny_loadPart' hl
    repeat (first
      | (refine wpAny_ite_false (decide_eq_false (by rw [c0]; exact Bool.false_ne_true)) ?_; wp_walk using wpAny_loadPart' hl)
      | (refine wpAny_ite_true (decide_eq_true (by rw [c1])) ?_; wp_walk using wpAny_loadPart' hl))
    exact ⟨_, rfl, h⟩
theorem tuple_mul0 (l : Addr) (items : Array Value) (n : Nat) (dd : Option Addr) (sl : Array (Option Value)) (u : Tok) (hi : items.isEmpty = false) :
    Meets (Builtin.«tuple.__mul__» ⟨[.ref l, .int 0 u], []⟩) (fun _ R s => s.heap.get? l = some { cls := .type "tuple", dict := dd, data := .seq items n, slots := sl } ∧
      R (.ok (.ret (Value.ref s.heap.objs.size))) { s with heap := s.heap.push { cls := Value.type "tuple", data := Data.seq #[] }, toks := s.toks }) :=
  .of_wp fun prog w A R s h => by
    obtain ⟨hp, g, d, tk, os⟩ := s
    obtain ⟨hl, h⟩ := h
    have f1 := AutoSeq1.idx_int
    have c0 : (decide ((0 : Int) < -(2 ^ 63)) || decide ((0 : Int) ≥ 2 ^ 63)) = false := by decide
    have c1 : (items.isEmpty || (0 : Int) == 1) = false := by rw [hi]; rfl
    have c2 : (decide ((0 : Int) ≤ 0) || items.isEmpty) = true := by simp
    wp_walk using wpAny_loadPart' hl
    repeat (first
      | (refine wpAny_ite_false (decide_eq_false (by rw [c0]; exact Bool.false_ne_true)) ?_; wp_walk using wpAny_loadPart' hl)
      | (refine wpAny_ite_false (decide_eq_false (by rw [c1]; exact Bool.false_ne_true)) ?_; wp_walk using wpAny_loadPart' hl)
      | (refine wpAny_ite_true (decide_eq_true (by rw [c2])) ?_; wp_walk using wpAny_loadPart' hl))
    exact ⟨_, rfl, h⟩
section
variable {X : Cx}
theorem op_rep1 : OpR X (binaryOp .Mult) (fun x y H Q => ∃ l xs, x = .ref l ∧ y = .int 1 ∧ SqT X.K H l xs ∧ Q (.ref l) H) := by
  intro pins s σ H x y v u Q I rx ry h
  obtain ⟨l, xs, rfl, rfl, hT, q⟩ := h
  cases rx
  obtain ⟨t, rfl⟩ := ry
  obtain ⟨its, r, ⟨⟨cls, dd, data, sl⟩, ho, hc, n, hd⟩, hs⟩ := I.tuple hT
  simp only at hc hd
  subst hc hd
  refine wpAny_binaryOp_repeat_ref (T := "tuple") (U := "int") (by decide) ⟨_, ho, rfl⟩ (fun s' => typeIs_int s' 1 t) noFill_tuple_mul F.fills_int_mul F.slot_int_rmul repeat_tuple F.slot_int_index.lookup
    (call_meets F.slot_int_rmul (typeIs_int s 1 t) F.entry_int_rmul (F.args_int_rmul_2 _ _) (int_rmul_tuple 1 t l its.toArray n dd sl)
      ⟨ho, rfl, ⟨_, ho, rfl⟩, call_meets F.slot_tuple_mul ⟨_, ho, rfl⟩ F.entry_tuple_mul (F.args_tuple_mul_2 _ _) (tuple_mul1 l its.toArray n dd sl t) ⟨ho, ?_⟩⟩)
  exact ⟨.ref l, _, I, rfl, q⟩
theorem op_rep0 : OpR X (binaryOp .Mult) (fun x y H Q => ∃ l xs, x = .ref l ∧ y = .int 0 ∧ SqT X.K H l xs ∧ xs ≠ [] ∧ ∀ p, H p = none → Q (.ref p) (upd H p (.tup []))) := by
  intro pins s σ H x y v u Q I rx ry h
  obtain ⟨l, xs, rfl, rfl, hT, hne, q⟩ := h
  cases rx
  obtain ⟨t, rfl⟩ := ry
  obtain ⟨its, r, ⟨⟨cls, dd, data, sl⟩, ho, hc, n, hd⟩, hs⟩ := I.tuple hT
  simp only at hc hd
  subst hc hd
  have hle : its.length = xs.length := r.length.symm
  have hn : its ≠ [] := fun e => hne (by
    rw [e] at hle
    exact List.eq_nil_of_length_eq_zero hle.symm)
  have hi : its.toArray.isEmpty = false := by
    cases its with
    | nil => exact absurd rfl hn
    | cons a b => rfl
  refine wpAny_binaryOp_repeat_ref (T := "tuple") (U := "int") (by decide) ⟨_, ho, rfl⟩ (fun s' => typeIs_int s' 0 t) noFill_tuple_mul F.fills_int_mul F.slot_int_rmul repeat_tuple F.slot_int_index.lookup
    (call_meets F.slot_int_rmul (typeIs_int s 0 t) F.entry_int_rmul (F.args_int_rmul_2 _ _) (int_rmul_tuple 0 t l its.toArray n dd sl)
      ⟨ho, rfl, ⟨_, ho, rfl⟩, call_meets F.slot_tuple_mul ⟨_, ho, rfl⟩ F.entry_tuple_mul (F.args_tuple_mul_2 _ _) (tuple_mul0 l its.toArray n dd sl t hi) ⟨ho, ?_⟩⟩)
  refine ⟨.ref s.heap.objs.size, _, I.laid (t' := s.toks) (o := .tup []) (fun b ob q => Heap.get?_push_of_some _ q) (Nat.le_refl _) ?_, rfl, q _ (I.hok.fresh (Nat.le_refl _))⟩
  exact ⟨by simp, _, .nil, IsTup.new _ _⟩
end
section
variable {Z : Zn} {X : Cx} {W : WX} {k : Nat} {a b : Expr} {pos : Pos} {Ta Tb : DTE}
def pMulU (x y : D) (M : Hm) (Q : DK) : Prop := match x, y with
  | .tup xs, .int j => xs ≠ [] ∧ 0 ≤ j ∧ j ≤ 1000 ∧ xs.length ≤ 1000 ∧ Q (.tup (List.replicate j.toNat xs).flatten) M
  | _, _ => False
@[simp] theorem pMulU_s {xs : List D} {j : Int} {M : Hm} {Q : DK} : pMulU (.tup xs) (.int j) M Q = (xs ≠ [] ∧ 0 ≤ j ∧ j ≤ 1000 ∧ xs.length ≤ 1000 ∧ Q (.tup (List.replicate j.toNat xs).flatten) M) := rfl
theorem op_mulU (hz : Z.K = X.K) : OpR X (binaryOp .Mult) (rOf Z pMulU) := by
  rintro pins s τ H x y v u Q I rx ry ⟨F, M, d, e, QD, V0, r1, r2, q, hQ⟩
  unfold pMulU at q
  split at q
  · rename_i xs j
    obtain ⟨q1, q2, q3, q4, q⟩ := q
    by_cases j0 : j = 0
    · subst j0
      obtain ⟨a, vs, rfl, ha, rs⟩ := r1.tup_of
      cases r2.int_of
      refine op_rep0 pins s τ H _ _ v u Q I rx ry ⟨a, vs, rfl, rfl, by rw [← hz]; exact SqT.sub V0 ha, fun e => q1 (List.eq_nil_of_length_eq_zero (by rw [rs.length, e]; rfl)), fun p hp => ?_⟩
      have e2 := Ext.new (o := .tup []) (V0.free hp).2
      exact hQ _ _ _ M _ e2 (V0.newT hp) (.tup (SqT.of upd_same) .nil) q
    · by_cases j1 : j = 1
      · subst j1
        have q' : QD (.tup xs) M := by simpa using q
        have r1' := r1
        obtain ⟨a, vs, rfl, ha, rs⟩ := r1.tup_of
        cases r2.int_of
        exact op_rep1 pins s τ H _ _ v u Q I rx ry ⟨a, vs, rfl, rfl, by rw [← hz]; exact SqT.sub V0 ha, hQ F _ _ M _ Ext.rfl' V0 r1' q'⟩
      · obtain ⟨a, vs, rfl, ha, rs⟩ := r1.tup_of
        cases r2.int_of
        refine op_repT pins s τ H _ _ v u Q I rx ry ⟨a, _, vs, rfl, rfl, by rw [← hz]; exact SqT.sub V0 ha, fun e => q1 (List.eq_nil_of_length_eq_zero (by rw [rs.length, e]; rfl)), by omega, q3, by rw [← rs.length]; exact q4, fun p hp => ?_⟩
        have e2 := Ext.new (o := .tup (List.replicate j.toNat vs).flatten) (V0.free hp).2
        exact hQ _ _ _ M _ e2 (V0.newT hp) (.tup (SqT.of upd_same) ((rs.ext e2).rep _)) q
  · exact q.elim
theorem qmulU (c : Ct Z X W k) (ha : DE Z X W a Ta) (hb : DE Z X W b Tb) : DE Z X W (.BinOp a .Mult b pos) (w2 pMulU Ta Tb) := de_bin (op_mulU c.hz) ref_of ha hb
end
end DL
namespace PySem.W
open PySem PySem.Calls PyProof.Rows Builtin
section
variable {prog : Program} {w : World} {A : Around} {E : Value → Shared → Prop} {s : Shared} {K : Frag} {x C L f : Addr} {h₀ : Heap} {m : Str → Option Value} {ox : Obj} {od : Option Obj}
/-- an instance's truth by its own len -/
theorem truthy_KL {Q : Bool → Shared → Prop} (X : K.In s.heap) (I : InstAt s.heap x ox C od) (hb : findIn K (.ref C) "__bool__" = some none) (hs : findIn K (.ref C) "__len__" = some (some (.ref f))) (hf : isFn K (.ref f) = true)
    (h : wpAny (model prog w) A.in1 (call (.ref f) [.ref x]) (LenBack fun r s' => ∃ n u, r = .int n u ∧ Q (n != 0) s') E s) : wpAny (model prog w) A (truthy (.ref x)) Q E s := by
  have key : wpAny (model prog w) A (runValue (.builtin "len" ⟨[.ref x], []⟩)) (fun r s' => ∃ n u, r = .int n u ∧ Q (n != 0) s') E s := by
    refine wpAny_runValue (codeAny_builtin entry_len ?_)
    rw [Around.under_plainId plain_len _]
    unfold Builtin.«len»
    refine wpAny_bind (m := oneArg "len" _) (wpAny_pure ?_)
    refine wpAny_bind (m := callSpecial? (.ref x) (Str.ofString "__len__")) (special_fn X I hs (beq_iff_eq.mp hf) (wpAny_mono h (fun r s' hr => ?_) fun _ _ y => y))
    cases r <;> first | exact hr.elim | skip
    rename_i n u
    obtain ⟨⟨h0, h1⟩, hq⟩ := hr
    refine wpAny_bind (wpAny_holding (wpAny_pure ?_))
    refine wpAny_bind (wpAny_letGo ?_)
    show wpAny _ _ (if n < 0 then _ else _) _ _ _
    rw [if_neg (by omega)]
    show wpAny _ _ (if n ≥ 2 ^ 63 then _ else _) _ _ _
    rw [if_neg (by omega)]
    exact wpAny_bind (wpAny_mkInt (wpAny_pure hq))
  unfold truthy
  refine wpAny_bind (m := callSpecial? (.ref x) (Str.ofString "__bool__")) (wpAny_bind (wpAny_bind (I.type.here ((looks_findIn X hb).here (wpAny_pure ?_)))))
  refine wpAny_bind (wpAny_bind (I.type.here ((looks_findIn X hs).here ?_)))
  show wpAny _ _ (if (some (Value.ref f)).isNone = true then _ else _) _ _ _
  rw [if_neg (by simp)]
  refine wpAny_bind (wpAny_mono key (fun r s' z => ?_) fun _ _ y => y)
  obtain ⟨n, u, rfl, q⟩ := z
  exact wpAny_pure q
theorem bool_own {Q : Value → Shared → Prop} (X : K.In s.heap) (I : InstAt s.heap x ox C od) (hb : findIn K (.ref C) "__bool__" = some none) (hs : findIn K (.ref C) "__len__" = some (some (.ref f))) (hf : isFn K (.ref f) = true)
    (h : wpAny (model prog w) A.in1.in1.in1 (call (.ref f) [.ref x]) (LenBack fun r s' => ∃ n u, r = .int n u ∧ Q (.bool (n != 0)) s') E s) : wpAny (model prog w) A (call (.type "bool") [.ref x]) Q E s := by
  refine callType_codes (T := "bool") (Bi := Builtin.«object.__init__») (Q₁ := fun r s₁ => ∃ b, r = .bool b ∧ Q r s₁) PySem.F.called_bool (PySem.F.typeCall_bool_1 _) PySem.F.entry_object_init ?_ ?_
  · refine codeAny_of_tree ?_
    show wpAny _ A.in1.in1 (do checkBuiltinCall "bool.__new__" ⟨[.type "bool", .ref x], []⟩; again (.builtin "bool.__new__" ⟨[.type "bool", .ref x], []⟩)) _ _ s
    refine wpAny_bind (wpAny_of_eq (PySem.F.newCall_bool_1 _) (wpAny_pure ⟨plainId_quiet (by decide +kernel) _, codeAny_builtin PySem.F.entry_bool_new ?_⟩))
    rw [Around.under_plainId (by decide +kernel) _]
    have f1 := F.conv_sub_bool
    have key : wpAny (model prog w) A.in1.in1 (truthy (.ref x)) (fun b s₁ => Q (.bool b) s₁) E s := truthy_KL X I hb hs hf h
    unfold Builtin.«bool.__new__»
    refine wpAny_bind (wpAny_pure ?_)
    refine wpAny_bind (wpAny_of_eq f1 ?_)
    refine wpAny_bind (m := someArgs "bool" 0 1 ⟨[.ref x], []⟩) (wpAny_pure ?_)
    refine wpAny_bind (wpAny_mono key (fun b s₁ q => wpAny_pure ⟨b, rfl, q⟩) fun _ _ y => y)
  · rintro obj s₁ ⟨b, rfl, hq⟩
    exact ⟨rfl, PySem.F.args_object_init_2 _ _, object_init_meets PySem.F.called_bool.init.lookup PySem.F.called_bool.made (by decide) prog w A.in1 _ s₁ ⟨rfl, rfl, hq⟩⟩
end
end PySem.W
namespace DL
open PySem PySem.Spec PyProof.Rows L2
section
variable {Z : Zn} {X : Cx} {W : WX} {k : Nat}
abbrev NoBool (Z : Zn) (X : Cx) (Ss : List (String × DSp)) : Prop := ∀ c S, Ss.lookup c = some S → PySem.W.findIn X.K (.ref (Z.ca c)) "__bool__" = some none
def pBoolL (Ss : List (String × DSp)) (ds : List D) (M : Hm) (Q : DK) (E : DX) : Prop := match ds with
  | [.int i] => Q (.bl (i != 0)) M
  | [.bl k] => Q (.bl k) M
  | [.ins c fs] => ∃ S, Ss.lookup c = some S ∧ S [.ins c fs] M (fun y M1 => ∃ n : Int, y = .int n ∧ 0 ≤ n ∧ n < 9223372036854775808 ∧ Q (.bl (n != 0)) M1) E
  | _ => False
theorem cd_boolL {Ss : List (String × DSp)} (tk : Takes X W) (hS : OwnMs Z X 3 "__len__" Ss) (hN : NoBool Z X Ss) : CallD Z X W (.type "bool") (pBoolL Ss) := by
  intro pins s τ F H M ds vs us QD ED Q I V0 r rv h hQ hE
  unfold pBoolL at h
  split at h
  · exact CallD.ofR (W := W) call_bool1 ref_bool pins s τ F H M _ vs us QD ED Q I V0 r rv h hQ hE
  · exact CallD.ofR (W := W) call_bool1 ref_bool pins s τ F H M _ vs us QD ED Q I V0 r rv h hQ hE
  · obtain ⟨v, u, rfl, rfl, rd, ru⟩ := one_of r rv
    obtain ⟨S, hc, q⟩ := h
    obtain ⟨a, ox, od, rfl, rfl, J⟩ := ins_at I V0 rd ru
    rcases hS _ S hc with rfl | ⟨k, hr, hS⟩
    · exact q.elim
    have sb : L2.Sub X k X.A.in1.in1.in1 := L2.Sub.in1 (L2.Sub.in1 (L2.Sub.in1 ⟨hr, rfl⟩))
    obtain ⟨f, h1, h2, hcall⟩ := own_call1 hS tk sb I V0 rd ru q (Q := fun y H1 => ∃ n : Int, y = .int n ∧ 0 ≤ n ∧ n < 9223372036854775808 ∧ Q (.bl (n != 0)) H1) (fun G y w M1 H1 e1 V1 r1 ⟨n, hn, h0, h1, q1⟩ => by
      subst hn
      exact ⟨n, r1.int_of, h0, h1, hQ G _ _ M1 H1 e1 V1 (.bl _) q1⟩) hE
    refine PySem.W.bool_own I.kIn J (hN _ S hc) h1 h2 (wpAny_mono hcall (fun r s' z => ?_) fun _ _ z => z)
    obtain ⟨y, H1, I1, ry, ⟨n, rfl, h0, h1, q1⟩⟩ := z
    obtain ⟨tk', rfl⟩ := ry
    exact ⟨⟨h0, by simpa using h1⟩, n, _, rfl, .bl (n != 0), H1, I1.tok _, rfl, q1⟩
  · exact h.elim
def OwnM2 (Z : Zn) (X : Cx) (k : Nat) (m : Str) (c : String) (S : DSp) : Prop := ∃ f fd ps, PySem.W.findIn X.K (.ref (Z.ca c)) m = some (some (.ref f)) ∧ PySem.W.isFn X.K (.ref f) = true ∧ ps.length = 2 ∧ Binds X.K fd ps [] ∧ FnOk X.prog X.w X.K X.mg X.base (CX X.prog X.w) k f fd ps (spOf Z 2 S)
theorem own_call2 {c : String} {m : Str} {S : DSp} (hD : OwnM2 Z X k m c S) (tk : Takes X W) {A : Around} {pins : List (Addr × Obj)} {s : Shared} {τ : L2.St} {F H : Hp} {M : Hm} {d e : D} {v y : V} {u z : Value} {QD : DK} {ED : DX} {Q : VK}
    (sb : L2.Sub X k A) (I : Inv X pins τ H s) (V0 : View Z F M H) (rd : RD Z F d v) (re : RD Z F e y) (rv : RelV v u) (rz : RelV y z) (h : S [d, e] M QD ED) (hQ : WQ Z F QD Q) (hE : WE Z W F τ ED) :
    ∃ f, PySem.W.findIn X.K (.ref (Z.ca c)) m = some (some (.ref f)) ∧ PySem.W.isFn X.K (.ref f) = true ∧ wpAny (model X.prog X.w) A (call (.ref f) [u, z]) (EP X pins τ Q) X.xe s := by
  obtain ⟨f, fd, ps, h1, h2, hl, hb, Fn⟩ := hD
  refine ⟨f, h1, h2, ?_⟩
  have hsp : spOf Z 2 S [v, y] H Q (L2.WE W τ) := ⟨F, [d, e], M, QD, ED, rfl, .cons rd (.cons re .nil), V0, h, hQ, hE⟩
  have e0 : Env0 X.prog X.w X.K X.mg X.base A X.stack s H := by
    have e := I.env0
    exact ⟨by rw [sb.fr]; exact e.frames, e.mod, e.bs, e.bsz, e.funs, e.frf, e.hok, e.bare⟩
  have r2 : Vals [v, y] [u, z] := .cons rv (.cons rz .nil)
  refine wpAny_call (codeAny_mono (Fn.run A X.stack s H ⟨[u, z], []⟩ [u, z] [v, y] _ (L2.WE W τ) sb.room e0 (by
    have := hb s [u, z] I.kIn (by simpa using hl.symm)
    simpa using this) r2 hsp) fun r s' hq => ?_)
  cases r with
  | error e => exact passAt tk τ pins H s e s' I hq
  | ok fl =>
    cases fl with
    | ret w => exact I.after hq
    | next => exact False.elim hq
    | brk => exact False.elim hq
    | cont => exact False.elim hq
abbrev OwnMs2 (Z : Zn) (X : Cx) (r : Nat) (m : Str) (Ss : List (String × DSp)) : Prop := ∀ c S, Ss.lookup c = some S → S = botS ∨ ∃ j, Room (j + r) X.A ∧ OwnM2 Z X j m c S
open PySem.W in
theorem list_declines_own {prog : Program} {w : World} {A : Around} {R : Result → Shared → Prop} {K : Frag} {C l x dx : Addr} {od : Obj} {items : Array Value} {n : Nat} {dd : Option Addr} {sl : Array (Option Value)} {s : Shared} (KX : K.In s.heap) (I : InstAt s.heap x (instObj C dx) C (some od)) (hm : mroIn K C (.type "list") = some false)
    (hl : s.heap.get? l = some { cls := .type "list", dict := dd, data := .seq items n, slots := sl }) (h : R (.ok (.ret .notImplemented)) s) : wpAny (model prog w) A.in1 (Builtin.«list.__eq__» ⟨[.ref l, .ref x], []⟩) (GQ.FinOf prog w A R) (fun e s' => R (.error e) s') s := by
  have L : Looks (model prog w) s.heap (isInstance (.ref x) (.type "list")) false := I.type.andThen (looks_mroIn KX hm)
  obtain ⟨hp, g, d, tk, os⟩ := s
  wp_walk using AutoSeq1.wpAny_loadPart' hl, L.here
  exact h
def pEqM (es : List String) (k : Nat) (Ss : List (String × DSp)) (x y : D) (M : Hm) (Q : DK) : Prop :=
  pEq es k false x y M Q ∨
  (∃ c fs a xs S, x = .ins c fs ∧ y = .ref a ∧ M a = some (.lst xs) ∧ c ∈ es ∧ Ss.lookup c = some S ∧ S [x, y] M (fun d M' => ∃ b, d = .bl b ∧ Q (.bl b) M') (fun _ _ => False)) ∨
  (∃ c fs a xs S, y = .ins c fs ∧ x = .ref a ∧ M a = some (.lst xs) ∧ c ∈ es ∧ Ss.lookup c = some S ∧ S [y, x] M (fun d M' => ∃ b, d = .bl b ∧ Q (.bl b) M') (fun _ _ => False))
theorem op_eqM {k : Nat} {Ss : List (String × DSp)} (h : EqAll Z X k) (hz : Z.K = X.K) (tk : Takes X W) (hr : Room k X.A) (hS : OwnMs2 Z X 0 "__eq__" Ss) : OpR X (compareOp .Eq) (rOf Z (pEqM Z.es k Ss)) := by
  rintro pins s τ H x y v u Q I rx ry ⟨F, M, d, e, QD, V0, r1, r2, q, hQ⟩
  rcases q with q | ⟨c, fs, a, xs, S, rfl, rfl, hx, hc, hl, q⟩ | ⟨c, fs, a, xs, S, rfl, rfl, hx, hc, hl, q⟩
  · exact op_eqO h hz tk hr pins s τ H x y v u Q I rx ry ⟨F, M, d, e, QD, V0, r1, r2, q, hQ⟩
  · rcases hS _ S hl with rfl | ⟨j, hr', hM⟩
    · exact q.elim
    have C := h.cls c hc
    obtain ⟨b, ox, od, rfl, rfl, J⟩ := ins_at I V0 r1 rx
    obtain ⟨f, h1, h2, hcall⟩ := own_call2 hM tk ⟨hr', rfl⟩ I V0 r1 r2 rx ry q (Q := fun y H1 => ∃ b, y = .bl b ∧ Q (.bl b) H1) (fun G y w M1 H1 e1 V1 rr ⟨b, hb, q1⟩ => by
      subst hb
      exact ⟨b, rr.bl_of, hQ G _ _ M1 H1 e1 V1 (.bl b) q1⟩) (fun _ _ _ _ _ _ _ _ _ z => z.elim)
    cases r2.ref_of
    cases ry
    obtain ⟨vs, ha, ra⟩ := V0.lst hx
    obtain ⟨z, its, n, r, e⟩ := I.hok a _ ha
    obtain ⟨m, hF⟩ := I.fr
    have nf : PySem.W.notFirst X.K (Z.ca c) (.type "list") = true := by
      unfold PySem.W.notFirst
      rw [C.ty "list" (by simp [plainTs])]
      simp
    show wpAny (model X.prog X.w) X.A (richCompare .Eq (.ref b) (.ref a)) (EP X pins τ Q) X.xe s
    refine PySem.W.cmp_K (op := .Eq) (tb := .type "list") hr.units0 hF I.ok.mod.kin J ((PySem.W.Looks.ld e).andThen .now) nf h1 h2 (wpAny_mono hcall (fun r s' z => ?_) fun _ _ z => z)
    obtain ⟨y, H1, I1, ry, ⟨b, rfl, q1⟩⟩ := z
    cases ry
    exact ⟨.bl b, H1, I1, rfl, q1⟩
  · rcases hS _ S hl with rfl | ⟨j, hr', hM⟩
    · exact q.elim
    have C := h.cls c hc
    obtain ⟨b, dx, gs, rfl, hm, hb, hrr⟩ := r2.ins_of
    cases ry
    obtain ⟨mB, J, _⟩ := ins_get I.hok (V0.sub _ _ hb)
    obtain ⟨od, J, _⟩ := J.look
    obtain ⟨f, h1, h2, hcall⟩ := own_call2 hM tk ⟨hr', rfl⟩ I V0 r2 r1 rfl rx q (Q := fun y H1 => ∃ b, y = .bl b ∧ Q (.bl b) H1) (fun G y w M1 H1 e1 V1 rr ⟨b, hb, q1⟩ => by
      subst hb
      exact ⟨b, rr.bl_of, hQ G _ _ M1 H1 e1 V1 (.bl b) q1⟩) (fun _ _ _ _ _ _ _ _ _ z => z.elim)
    cases r1.ref_of
    cases rx
    obtain ⟨vs, ha, ra⟩ := V0.lst hx
    obtain ⟨z, its, n, r, e⟩ := I.hok a _ ha
    obtain ⟨m, hF⟩ := I.fr
    show wpAny (model X.prog X.w) X.A (richCompare .Eq (.ref a) (.ref b)) (EP X pins τ Q) X.xe s
    refine rc_mixed (Ta := "list") ⟨_, e, rfl⟩ PySem.F.slot_list_eq (fun Q' q => ?_) hr.units0 hF I.ok.mod.kin J (C.mro "list" (by simp [plainTs])) h1 h2 (wpAny_mono hcall (fun r s' z => ?_) fun _ _ z => z)
    · refine GQ.call_here PySem.F.slot_list_eq ⟨_, e, rfl⟩ PySem.F.entry_list_eq (PySem.F.args_list_eq_2 _ _) ?_
      exact list_declines_own I.kIn J (C.mro "list" (by simp [plainTs])) e q
    · obtain ⟨y, H1, I1, ry, ⟨b, rfl, q1⟩⟩ := z
      cases ry
      exact ⟨.bl b, H1, I1, rfl, q1⟩
theorem oEqM {Ss : List (String × DSp)} (c : Ct Z X W k) (hS : OwnMs2 Z X 0 "__eq__" Ss) : OpR X (compareOp .Eq) (rOf Z (pEqM Z.es (k + 3) Ss)) := op_eqM c.eq c.hz c.tk c.hr hS
end
end DL
namespace DL
open PySem PySem.Spec PyProof.Rows L2
section
variable {Z : Zn} {X : Cx} {W : WX} {k : Nat} {e : Expr} {pos : Pos} {Ta : DTE}
def pStrI (Ss : List (String × DSp)) (ds : List D) (M : Hm) (Q : DK) (E : DX) : Prop := match ds with
  | [.str x] => Q (.str x) M
  | [.int i] => i.natAbs.log2 < 1920 ∧ Q (.str (tx (toString i))) M
  | [.ins c fs] => ∃ S, Ss.lookup c = some S ∧ S [.ins c fs] M (fun y M1 => ∃ t, y = .str t ∧ Q y M1) E
  | _ => False
theorem cd_strI {Ss : List (String × DSp)} (tk : Takes X W) (hS : OwnMs Z X 2 "__str__" Ss) : CallD Z X W (.type "str") (pStrI Ss) := by
  intro pins s τ F H M ds vs us QD ED Q I V0 r rv h hQ hE
  unfold pStrI at h
  split at h
  · exact cd_str tk hS pins s τ F H M _ vs us QD ED Q I V0 r rv h hQ hE
  · obtain ⟨v, u, rfl, rfl, rd, ru⟩ := one_of r rv
    cases rd.int_of
    refine call_str_int pins s τ H _ [u] Q I (.cons ru .nil) ⟨_, rfl, h.1, ?_⟩
    have := hQ F _ _ M H Ext.rfl' V0 (.str (tx (toString _))) h.2
    rw [sv_tx] at this
    exact this
  · exact cd_str tk hS pins s τ F H M _ vs us QD ED Q I V0 r rv h hQ hE
  · exact h.elim
/-- what f-strings ask of a class -/
def FmtF (K : PySem.W.Frag) (C : Addr) : Prop := PySem.W.findIn K (.ref C) "__format__" = some (some (.builtin "object.__format__")) ∧ PySem.W.mroIn K C (.type "object") = some true
def fmtB (K : PySem.W.Frag) (C : Addr) : Bool := He.eqO (PySem.W.findIn K (.ref C) "__format__") (some (some (.builtin "object.__format__"))) && isoB (PySem.W.mroIn K C (.type "object")) true
abbrev FmtFs (Z : Zn) (X : Cx) (Ss : List (String × DSp)) : Prop := ∀ c S, Ss.lookup c = some S → FmtF X.K (Z.ca c)
def pFmtO (Ss : List (String × DSp)) (d : D) (M : Hm) (Q : DK) (E : DX) : Prop := match d with
  | .ins c fs => ∃ S, Ss.lookup c = some S ∧ S [.ins c fs] M (fun y M1 => ∃ t, y = .str t ∧ Q y M1) E
  | d => pFmt d M Q
def wFmtO (Ss : List (String × DSp)) (T : DTE) : DTE := fun σ M Q E => T σ M (fun d M1 => pFmtO Ss d M1 Q E) E
@[simp] theorem wFmtO_s {Ss : List (String × DSp)} {σ : SD} {M : Hm} {Q : DK} {E : DX} : wFmtO Ss Ta σ M Q E = Ta σ M (fun d M1 => pFmtO Ss d M1 Q E) E := rfl
theorem de_fmtO {Ss : List (String × DSp)} (tk : Takes X W) (hS : OwnMs Z X 1 "__str__" Ss) (hF : FmtFs Z X Ss) (h : DE Z X W e Ta) : DE Z X W (.FormattedValue e (-1) none pos) (wFmtO Ss Ta) := by
  refine ⟨fun pins s τ H Q I ⟨F, σ, M, QD, ED, S, V, hT, hQ, hE⟩ => ?_⟩
  refine wpAny_FormattedValue_plain (thn (h.run pins s τ H (fun v1 H1 => ∃ F1 d1 M1, Ext F F1 ∧ View Z F1 M1 H1 ∧ RD Z F1 d1 v1 ∧ pFmtO Ss d1 M1 QD ED) I ⟨F, σ, M, _, ED, S, V, hT, fun F1 d1 v1 M1 H1 e1 V1 r1 q1 => ⟨F1, d1, M1, e1, V1, r1, q1⟩, hE⟩) fun u s1 ⟨x, H1, I1, ru, F1, d1, M1, e1, V1, r1, q1⟩ => ?_)
  cases d1 with
  | str y =>
    cases r1.str_of
    obtain ⟨t, rfl⟩ := ru
    have := hQ F1 _ _ M1 H1 e1 V1 (.str y) q1.2
    exact wpAny_formatField_str ⟨.str (sv y), H1, I1, ⟨t, rfl⟩, this⟩ ⟨.str (sv y), H1, I1.tok _, ⟨_, rfl⟩, this⟩ (by rw [sv_len, LL_eq]; exact q1.1)
  | int i =>
    cases r1.int_of
    obtain ⟨t, rfl⟩ := ru
    have := hQ F1 _ _ M1 H1 e1 V1 (.str (tx (toString i))) q1.2
    rw [sv_tx] at this
    exact wpAny_formatField_int q1.1 ⟨.str (toString i), H1, I1.tok _, ⟨_, rfl⟩, this⟩
  | ins c fs =>
    obtain ⟨Sp, hc, q⟩ := q1
    obtain ⟨a, ox, od, rfl, rfl, J⟩ := ins_at I1 V1 r1 ru
    rcases hS _ Sp hc with rfl | ⟨j, hr, hM⟩
    · exact q.elim
    obtain ⟨f1, f2⟩ := hF c Sp hc
    have sb : L2.Sub X j X.A.in1 := L2.Sub.in1 ⟨hr, rfl⟩
    obtain ⟨f, h1, h2, hcall⟩ := own_call1 hM tk sb (I1.tok (s1.toks + 1)) V1 r1 ru q (Q := fun y H1 => ∃ t, y = .str t ∧ Q y H1) (fun G y w M1 H1 e2 V2 r2 ⟨t, hy, q1⟩ => by
      subst hy
      exact ⟨_, r2.str_of, hQ G _ _ M1 H1 (e1.trans e2) V2 r2 q1⟩) (hE.ext e1)
    refine PySem.W.kfo_fieldS sb.room.units0 I1.kIn J f1 f2 h1 h2 (wpAny_mono hcall (fun r s' z => ?_) fun _ _ z => z)
    obtain ⟨y, H2, I2, ry, ⟨t, rfl, q2⟩⟩ := z
    obtain ⟨tk', rfl⟩ := ry
    exact ⟨.str t, H2, I2, ⟨_, rfl⟩, q2⟩
  | non => exact q1.elim
  | bl b => exact q1.elim
  | tup b => exact q1.elim
  | ref b => exact q1.elim
  | ty b => exact q1.elim
theorem fmt_of {K : PySem.W.Frag} {C : Addr} (h : fmtB K C = true) : FmtF K C := by
  unfold fmtB at h
  rw [Bool.and_eq_true] at h
  exact ⟨He.eqO_ok h.1, isoB_ok h.2⟩
end
end DL
namespace DL
open PySem PySem.Spec PyProof.Rows L2
theorem si_key {x y : Int} : ((Sum.inl x : L2.Key) = Sum.inl y) ↔ x = y := ⟨fun h => Sum.inl.inj h, fun h => by rw [h]⟩
theorem kvali {Z : Zn} {F : Hp} (y : Int) : ∀ {kvs : List (Int × D)} {ks : List (L2.Key × V)}, RDi Z F kvs ks → (kvs.lookup y = none ∧ valV ks (Sum.inl y) = none) ∨ ∃ d v, kvs.lookup y = some d ∧ valV ks (Sum.inl y) = some v ∧ RD Z F d v
  | _, _, .nil => .inl ⟨rfl, rfl⟩
  | _, _, @RDi.cons _ _ x d v kvs ks h r => by
    rw [List.lookup_cons]
    by_cases e : y = x
    · subst e
      exact .inr ⟨d, v, by simp, valV_pos rfl, h⟩
    · have e1 : (y == x) = false := beq_eq_false_iff_ne.mpr e
      have e2 : ¬ ((Sum.inl x : L2.Key) = Sum.inl y) := fun q => e (si_key.mp q).symm
      rw [e1]
      rw [valV_neg (p := ((Sum.inl x : L2.Key), v)) e2]
      exact kvali y r
/-- a value stored -/
def iput (x : Int) (d : D) (kvs : List (Int × D)) : List (Int × D) := if (kvs.lookup x).isSome then kvs.map (fun kv => if kv.1 = x then (x, d) else kv) else kvs ++ [(x, d)]
theorem iput_len (x : Int) (d : D) (kvs : List (Int × D)) : (iput x d kvs).length ≤ kvs.length + 1 := by
  unfold iput; split <;> simp
theorem lookup_mapi (x : Int) (d : D) (y : Int) : ∀ kvs : List (Int × D), (kvs.map (fun kv => if kv.1 = x then (x, d) else kv)).lookup y = if y = x then (kvs.lookup y).map fun _ => d else kvs.lookup y
  | [] => by simp
  | (z, e) :: r => by
    rw [List.map_cons, List.lookup_cons, List.lookup_cons (a := y)]
    have ih := lookup_mapi x d y r
    by_cases hz : z = x
    · subst hz
      rw [if_pos rfl]
      by_cases hy : y = z
      · subst hy; simp
      · have : (y == z) = false := beq_eq_false_iff_ne.mpr hy
        simp only [this, ih, if_neg hy]
    · rw [if_neg hz]
      by_cases hy : y = z
      · subst hy; simp [hz]
      · have : (y == z) = false := beq_eq_false_iff_ne.mpr hy
        simp only [this, ih]
theorem lookup_appi (x : Int) (d : D) (y : Int) : ∀ kvs : List (Int × D), kvs.lookup x = none → (kvs ++ [(x, d)]).lookup y = if y = x then some d else kvs.lookup y
  | [], _ => by
    by_cases hy : y = x
    · subst hy; simp
    · have : (y == x) = false := beq_eq_false_iff_ne.mpr hy
      simp [List.lookup_cons, this, hy]
  | (z, e) :: r, h => by
    rw [List.lookup_cons] at h
    rw [List.cons_append, List.lookup_cons, List.lookup_cons (a := y)]
    have hz : (x == z) = false := by
      cases q : x == z with
      | true => rw [q] at h; cases h
      | false => rfl
    rw [hz] at h
    by_cases hy : y = z
    · subst hy
      have : ¬ y = x := fun q => by rw [q] at hz; simp at hz
      simp [this]
    · have : (y == z) = false := beq_eq_false_iff_ne.mpr hy
      simp only [this, lookup_appi x d y r h]
theorem lookup_puti (x : Int) (d : D) (y : Int) (kvs : List (Int × D)) : (iput x d kvs).lookup y = if y = x then some d else kvs.lookup y := by
  unfold iput
  cases e : kvs.lookup x with
  | none => simp only [Option.isSome_none, Bool.false_eq_true, if_false]; exact lookup_appi x d y kvs e
  | some u =>
    simp only [Option.isSome_some, if_true]
    rw [lookup_mapi]
    by_cases h : y = x
    · subst h; rw [if_pos rfl, if_pos rfl, e]; rfl
    · rw [if_neg h, if_neg h]
theorem rdi_len {Z : Zn} {F : Hp} : ∀ {kvs : List (Int × D)} {ks : List (L2.Key × V)}, RDi Z F kvs ks → kvs.length = ks.length
  | _, _, .nil => rfl
  | _, _, .cons _ r => congrArg Nat.succ (rdi_len r)
theorem rdi_app {Z : Zn} {F : Hp} {x : Int} {d : D} {v : V} (h : RD Z F d v) : ∀ {kvs : List (Int × D)} {ks : List (L2.Key × V)}, RDi Z F kvs ks → RDi Z F (kvs ++ [(x, d)]) (ks ++ [(Sum.inl x, v)])
  | _, _, .nil => .cons h .nil
  | _, _, .cons h' r => .cons h' (rdi_app h r)
theorem rdi_map {Z : Zn} {F : Hp} {x : Int} {d : D} {v : V} (h : RD Z F d v) : ∀ {kvs : List (Int × D)} {ks : List (L2.Key × V)}, RDi Z F kvs ks → RDi Z F (kvs.map fun kv => if kv.1 = x then (x, d) else kv) (ks.map fun kv => if kv.1 = Sum.inl x then (kv.1, v) else kv)
  | _, _, .nil => .nil
  | _, _, @RDi.cons _ _ y e u kvs ks h' r => by
    rw [List.map_cons, List.map_cons]
    by_cases q : y = x
    · subst q
      rw [if_pos rfl, if_pos rfl]
      exact .cons h (rdi_map h r)
    · rw [if_neg q, if_neg (fun z => q (si_key.mp z))]
      exact .cons h' (rdi_map h r)
theorem rdi_put {Z : Zn} {F : Hp} {x : Int} {d : D} {v : V} (h : RD Z F d v) {kvs : List (Int × D)} {ks : List (L2.Key × V)} (r : RDi Z F kvs ks) : RDi Z F (iput x d kvs) (putK ks (Sum.inl x) v) := by
  unfold iput putK
  rw [valV_any]
  rcases kvali x r with ⟨e1, e2⟩ | ⟨d', v', e1, e2, _⟩
  · rw [e1, e2]; exact rdi_app h r
  · rw [e1, e2]; exact rdi_map h r
theorem View.dci {Z : Zn} {F : Hp} {M : Hm} {H : Hp} {a : Addr} {kvs : List (Int × D)} (V0 : View Z F M H) (h : M a = some (.dci kvs)) : ∃ ks, H a = some (.dK ks) ∧ RDi Z F kvs ks := by
  obtain ⟨_, o, h2, h3⟩ := V0.mt a _ h
  cases o <;> first | exact ⟨_, h2, h3⟩ | exact h3.elim
theorem View.newJ {Z : Zn} {F : Hp} {M : Hm} {H : Hp} {a : Addr} (v : View Z F M H) (h : H a = none) : View Z F (mup M a (.dci [])) (upd H a (.dK [])) := by
  refine ⟨v.sub.trans (Ext.new h), fun b m e => ?_⟩
  by_cases q : b = a
  · subst q
    rw [mup_same] at e; cases e
    exact ⟨(v.free h).2, _, upd_same, .nil⟩
  · rw [mup_ne q] at e
    obtain ⟨h1, o, h2, h3⟩ := v.mt b m e
    exact ⟨h1, o, by rw [upd_ne q]; exact h2, h3⟩
section
variable {Z : Zn} {X : Cx} {W : WX} {k : Nat} {o i e : Expr} {pos pos' : Pos} {Ta Tb Tc : DTE}
theorem Ct.hu_i (c : Ct Z X W k) : X.A.units + 1 < cLine := by have := c.hr.un; omega
def wDNewI : DTE := fun _ M Q _ => ∀ p, M p = none → Q (.ref p) (mup M p (.dci []))
theorem qdnewi : DE Z X W (.Dict [] [] pos) wDNewI :=
  PE.imp pe_dnewK fun τ H Q ⟨F, σ, M, QD, ED, S, V, h, hQ, hE⟩ => fun p hp => hQ F _ _ _ _ Ext.rfl' (V.newJ hp) (.ref p) (h p (V.free hp).1)
/-- d[k] -/
def pIGet (o y : D) (M : Hm) (Q : DK) : Prop := ∃ a x kvs d, o = .ref a ∧ y = .int x ∧ M a = some (.dci kvs) ∧ kvs.lookup x = some d ∧ Q d M
theorem qiget (c : Ct Z X W k) (ho : DE Z X W o Ta) (hi : DE Z X W i Tb) (hs : NoSl i := by intro _ _; rfl) : DE Z X W (.Subscript o i pos) (w2 pIGet Ta Tb) :=
  PE.imp (pe_dget c.hu ho hi hs) fun τ H Q ⟨F, σ, M, QD, ED, S, V, h, hQ, hE⟩ => ⟨F, σ, M, _, ED, S, V, h, fun F1 d v M1 H1 e1 V1 r1 q1 =>
    ⟨F1, σ, M1, _, ED, S.ext e1, V1, q1, fun F2 d2 v2 M2 H2 e2 V2 r2 q2 => by
      obtain ⟨a, x, kvs, d', rfl, rfl, hm, hl, q⟩ := q2
      cases r1.ref_of; cases r2.int_of
      obtain ⟨ks, hk, rk⟩ := V2.dci hm
      rcases kvali x rk with ⟨z, _⟩ | ⟨d'', v', z1, z2, z3⟩
      · rw [hl] at z; cases z
      · rw [hl] at z1; cases z1
        exact ⟨a, v', rfl, by rw [← z2]; exact DGet.k (k := Sum.inl x) hk, hQ F2 _ _ M2 H2 (e1.trans e2) V2 z3 q⟩, hE.ext e1⟩, hE⟩
/-- k in d, k not in d -/
def pIIn (neg : Bool) (y o : D) (M : Hm) (Q : DK) : Prop := ∃ a x kvs, o = .ref a ∧ y = .int x ∧ M a = some (.dci kvs) ∧ Q (.bl (neg ^^ (kvs.lookup x).isSome)) M
theorem iIn_t : ∀ τ H Q, tOf Z W (w2 (pIIn false) Ta Tb) τ H Q → tDIn (tOf Z W Ta) (tOf Z W Tb) τ H Q := fun τ H Q ⟨F, σ, M, QD, ED, S, V, h, hQ, hE⟩ => ⟨F, σ, M, _, ED, S, V, h, fun F1 d v M1 H1 e1 V1 r1 q1 =>
    ⟨F1, σ, M1, _, ED, S.ext e1, V1, q1, fun F2 d2 v2 M2 H2 e2 V2 r2 q2 => by
      obtain ⟨a, x, kvs, rfl, rfl, hm, q⟩ := q2
      cases r2.ref_of; cases r1.int_of
      obtain ⟨ks, hk, rk⟩ := V2.dci hm
      refine ⟨a, valV ks (Sum.inl x), rfl, DGet.k (k := Sum.inl x) hk, hQ F2 _ _ M2 H2 (e1.trans e2) V2 (.bl _) ?_⟩
      rcases kvali x rk with ⟨z1, z2⟩ | ⟨d'', v', z1, z2, z3⟩
      · rw [z2]; rw [z1] at q; exact q
      · rw [z2]; rw [z1] at q; exact q, hE.ext e1⟩, hE⟩
theorem iNotIn_t : ∀ τ H Q, tOf Z W (w2 (pIIn true) Ta Tb) τ H Q → tDNotIn (tOf Z W Ta) (tOf Z W Tb) τ H Q := fun τ H Q ⟨F, σ, M, QD, ED, S, V, h, hQ, hE⟩ => ⟨F, σ, M, _, ED, S, V, h, fun F1 d v M1 H1 e1 V1 r1 q1 =>
    ⟨F1, σ, M1, _, ED, S.ext e1, V1, q1, fun F2 d2 v2 M2 H2 e2 V2 r2 q2 => by
      obtain ⟨a, x, kvs, rfl, rfl, hm, q⟩ := q2
      cases r2.ref_of; cases r1.int_of
      obtain ⟨ks, hk, rk⟩ := V2.dci hm
      refine ⟨a, valV ks (Sum.inl x), rfl, DGet.k (k := Sum.inl x) hk, hQ F2 _ _ M2 H2 (e1.trans e2) V2 (.bl _) ?_⟩
      rcases kvali x rk with ⟨z1, z2⟩ | ⟨d'', v', z1, z2, z3⟩
      · rw [z2]; rw [z1] at q; exact q
      · rw [z2]; rw [z1] at q; exact q, hE.ext e1⟩, hE⟩
theorem qiin (c : Ct Z X W k) (hi : DE Z X W i Ta) (ho : DE Z X W o Tb) (hb : behindInMarks .In o = false := by first | exact nobehind _ (by decide) (by decide) | rfl) : DE Z X W (.Compare i [.In] [o] pos) (w2 (pIIn false) Ta Tb) := PE.imp (pe_cmp (pc_din c.hu hi ho) hb) iIn_t
theorem qinin (c : Ct Z X W k) (hi : DE Z X W i Ta) (ho : DE Z X W o Tb) (hb : behindInMarks .NotIn o = false := by first | exact nobehind _ (by decide) (by decide) | rfl) : DE Z X W (.Compare i [.NotIn] [o] pos) (w2 (pIIn true) Ta Tb) := PE.imp (pe_cmp (pc_dnotin c.hu hi ho) hb) iNotIn_t
theorem tiin (c : Ct Z X W k) (hi : DE Z X W i Ta) (ho : DE Z X W o Tb) (hb : behindInMarks .In o = false := by first | exact nobehind _ (by decide) (by decide) | rfl) : DB Z X W (.Compare i [.In] [o] pos) (wB (w2 (pIIn false) Ta Tb)) := PT.imp (pt_cmp (pc_din c.hu hi ho) hb) (wB_t iIn_t)
theorem tinin (c : Ct Z X W k) (hi : DE Z X W i Ta) (ho : DE Z X W o Tb) (hb : behindInMarks .NotIn o = false := by first | exact nobehind _ (by decide) (by decide) | rfl) : DB Z X W (.Compare i [.NotIn] [o] pos) (wB (w2 (pIIn true) Ta Tb)) := PT.imp (pt_cmp (pc_dnotin c.hu hi ho) hb) (wB_t iNotIn_t)
/-- d[k] = v -/
def wIPut (Tv Td Tk : DTE) : DTS := fun K σ M => Tv σ M (fun v M1 => Td σ M1 (fun o M2 => Tk σ M2 (fun y M3 => ∃ a x kvs, o = .ref a ∧ y = .int x ∧ M3 a = some (.dci kvs) ∧ kvs.length < LL ∧ K.nx σ (mup M3 a (.dci (iput x v kvs)))) (fun x M3 => K.ex x σ M3)) (fun x M2 => K.ex x σ M2)) (fun x M1 => K.ex x σ M1)
@[simp] theorem wIPut_s {Tv Td Tk : DTE} {K : DEn} {σ : SD} {M : Hm} : wIPut Tv Td Tk K σ M = Tv σ M (fun v M1 => Td σ M1 (fun o M2 => Tk σ M2 (fun y M3 => ∃ a x kvs, o = .ref a ∧ y = .int x ∧ M3 a = some (.dci kvs) ∧ kvs.length < LL ∧ K.nx σ (mup M3 a (.dci (iput x v kvs)))) (fun x M3 => K.ex x σ M3)) (fun x M2 => K.ex x σ M2)) (fun x M1 => K.ex x σ M1) := rfl
theorem siput (c : Ct Z X W k) (ho : DE Z X W o Ta) (hi : DE Z X W i Tb) (hv : DE Z X W e Tc) (hs : swapsWith e (some (.Subscript o i pos')) pos.line X.env = pure false := by rfl) : DS Z X W (.Assign [.Subscript o i pos'] e pos) (wIPut Tc Ta Tb) :=
  PS.imp (ps_dput c.hu ho hi hv hs) fun K τ H ⟨F, σ, M, KD, S, V, h, kk⟩ => ⟨F, σ, M, _, _, S, V, h, fun F1 d v M1 H1 e1 V1 r1 q1 =>
    ⟨F1, σ, M1, _, _, S.ext e1, V1, q1, fun F2 d2 v2 M2 H2 e2 V2 r2 q2 =>
      ⟨F2, σ, M2, _, _, (S.ext e1).ext e2, V2, q2, fun F3 d3 v3 M3 H3 e3 V3 r3 q3 => by
        obtain ⟨a, x, kvs, rfl, rfl, hm, hl, q⟩ := q3
        cases r2.ref_of; cases r3.int_of
        obtain ⟨ks, hk, rk⟩ := V3.dci hm
        have hl' : ks.length < sizeLine := by rw [sizeLine_eq, ← rdi_len rk]; exact hl
        exact ⟨a, _, rfl, DPut.k (k := Sum.inl x) hk hl', kk.nx F3 _ _ _ _ ((e1.trans e2).trans e3) (((S.ext e1).ext e2).ext e3) (V3.put (m' := .dci (iput x d kvs)) hm (show RM Z F3 (.dci (iput x d kvs)) (.dK _) from rdi_put ((r1.ext e2).ext e3) rk)) q⟩, ((kk.ext (e1.trans e2)).we ((S.ext e1).ext e2))⟩, (kk.ext e1).we (S.ext e1)⟩, kk.we S⟩
/-- {k: v} -/
def wDOne (Tk Tv : DTE) : DTE := fun σ M Q E => ∀ p, M p = none → Tk σ (mup M p (.dci [])) (fun y M1 => Tv σ M1 (fun v M2 => M2 p = some (.dci []) ∧ ∃ x, y = .int x ∧ Q (.ref p) (mup M2 p (.dci [(x, v)]))) E) E
@[simp] theorem wDOne_s {Tk Tv : DTE} {σ : SD} {M : Hm} {Q : DK} {E : DX} : wDOne Tk Tv σ M Q E = ∀ p, M p = none → Tk σ (mup M p (.dci [])) (fun y M1 => Tv σ M1 (fun v M2 => M2 p = some (.dci []) ∧ ∃ x, y = .int x ∧ Q (.ref p) (mup M2 p (.dci [(x, v)]))) E) E := rfl
theorem qdone (ho : DE Z X W o Ta) (hi : DE Z X W i Tb) : DE Z X W (.Dict [some o] [i] pos) (wDOne Ta Tb) :=
  PE.imp (pe_disp (pps_cons ho hi pps_nil) rfl rfl (by simp) (by simp)) fun τ H Q ⟨F, σ, M, QD, ED, S, V, h, hQ, hE⟩ => fun p hp =>
    ⟨F, σ, _, _, ED, S, V.newJ hp, h p (V.free hp).1, fun F1 d v M1 H1 e1 V1 r1 q1 =>
      ⟨F1, σ, M1, _, ED, S.ext e1, V1, q1, fun F2 d2 v2 M2 H2 e2 V2 r2 q2 => by
        obtain ⟨hm, x, rfl, q⟩ := q2
        cases r1.int_of
        obtain ⟨ks, hk, rk⟩ := V2.dci hm
        cases rk
        refine ⟨hk, [(Sum.inl x, v2)], rfl, by simp, ?_⟩
        exact hQ F2 _ _ _ _ (e1.trans e2) (V2.put (m' := .dci [(x, d2)]) hm (show RM Z F2 (.dci [(x, d2)]) (.dK _) from .cons r2 .nil)) (.ref p) q, hE.ext e1⟩, hE⟩
@[simp] theorem wDNewI_s {σ : SD} {M : Hm} {Q : DK} {E : DX} : wDNewI σ M Q E = ∀ p, M p = none → Q (.ref p) (mup M p (.dci [])) := rfl
end
section
variable {Z : Zn} {X : Cx} {W : WX} {k : Nat} {e : Expr}
/-- an own instance's truth, by its own len -/
def wBL (Ss : List (String × DSp)) (T : DTE) : DTT := fun σ M Q E => T σ M (fun d M1 => ∃ c fs S, d = .ins c fs ∧ Ss.lookup c = some S ∧ S [d] M1 (fun y M2 => ∃ n : Int, y = .int n ∧ 0 ≤ n ∧ n < 9223372036854775808 ∧ Q (n != 0) M2) E) E
@[simp] theorem wBL_s {Ss : List (String × DSp)} {T : DTE} {σ : SD} {M : Hm} {Q : Bool → Hm → Prop} {E : DX} : wBL Ss T σ M Q E = T σ M (fun d M1 => ∃ c fs S, d = .ins c fs ∧ Ss.lookup c = some S ∧ S [d] M1 (fun y M2 => ∃ n : Int, y = .int n ∧ 0 ≤ n ∧ n < 9223372036854775808 ∧ Q (n != 0) M2) E) E := rfl
theorem tboolL {Ss : List (String × DSp)} {T : DTE} (tk : Takes X W) (hS : OwnMs Z X 1 "__len__" Ss) (hN : NoBool Z X Ss) (ha : DE Z X W e T) (he : ∀ whole, isTrue e X.env whole = (do let v ← whole; standAt e.pos; holding [v] (truthy v)) := by intro _; rfl) : DB Z X W e (wBL Ss T) := by
  refine ⟨fun pins s τ H Q I ⟨F, σ, M, QD, ED, S, V, h, hQ, hE⟩ => ?_⟩
  refine isTrue_plain (thn (ha.run pins s τ H (fun x H1 => ∃ F1 d M1, Ext F F1 ∧ View Z F1 M1 H1 ∧ RD Z F1 d x ∧ (∃ c fs S, d = .ins c fs ∧ Ss.lookup c = some S ∧ S [d] M1 (fun y M2 => ∃ n : Int, y = .int n ∧ 0 ≤ n ∧ n < 9223372036854775808 ∧ QD (n != 0) M2) ED)) I ⟨F, σ, M, _, ED, S, V, h, fun F1 d v M1 H1 e1 V1 r1 q1 => ⟨F1, d, M1, e1, V1, r1, q1⟩, hE⟩) fun u s1 ⟨x, H1, I1, ru, F1, d, M1, e1, V1, rd, c, fs, S, hd, hc, q⟩ => ?_) (he _)
  subst hd
  obtain ⟨a, ox, od, rfl, rfl, J⟩ := ins_at I1 V1 rd ru
  rcases hS _ S hc with rfl | ⟨k, hr, hS⟩
  · exact q.elim
  have sb : L2.Sub X k X.A.in1 := L2.Sub.in1 ⟨hr, rfl⟩
  obtain ⟨f, h1, h2, hcall⟩ := own_call1 hS tk sb I1 V1 rd ru q (Q := fun y H1 => ∃ n : Int, y = .int n ∧ 0 ≤ n ∧ n < 9223372036854775808 ∧ Q (n != 0) H1) (fun G y w M2 H2 e2 V2 r2 ⟨n, hn, h0, h1, q1⟩ => by
    subst hn
    exact ⟨n, r2.int_of, h0, h1, hQ G _ M2 H2 (e1.trans e2) V2 q1⟩) (hE.ext e1)
  refine PySem.W.truthy_KL I1.kIn J (hN _ S hc) h1 h2 (wpAny_mono hcall (fun r s' z => ?_) fun _ _ z => z)
  obtain ⟨y, H2, I2, ry, ⟨n, rfl, h0, h1, q1⟩⟩ := z
  obtain ⟨tk', rfl⟩ := ry
  exact ⟨⟨h0, by simpa using h1⟩, n, _, rfl, H2, I2.tok _, q1⟩
end
end DL
namespace RT
open PySem PySem.Spec PyProof.Rows
theorem norev_str : typeLookup (.type "str") "__reversed__" = pure none := by rw [typeLookup_type, builtinLookup_eq_fast]; kernel_rfl
theorem get_str : typeLookup (.type "str") "__getitem__" = pure (some (.builtin "str.__getitem__")) := by rw [typeLookup_type, builtinLookup_eq_fast]; kernel_rfl
def rsObj (x : Str) (t : Tok) (i : Int) : Obj := { cls := .type "reversed", data := .fields #[.str x t, rawInt i] }
def IsRs (h : Heap) (a : Addr) (x : Str) (t : Tok) (i : Int) : Prop := ∃ o, h.get? a = some o ∧ o.cls = .type "reversed" ∧ o.data = .fields #[.str x t, rawInt i]
def IsRz (h : Heap) (a : Addr) (i : Int) : Prop := ∃ o v, h.get? a = some o ∧ o.cls = .type "reversed" ∧ o.data = .fields #[v, rawInt i]
section
variable {prog : Program} {w : World} {A : Around} {E : Value → Shared → Prop} {s : Shared} {x : Str} {t : Tok}
theorem code_reversed_str {Q₁ : Value → Shared → Prop} (hfit : ¬ (x.length : Int) ≥ 2 ^ 63)
    (h : Q₁ (.ref s.heap.objs.size) { s with heap := s.heap.push (rsObj x t ((x.length : Int) - 1)), toks := s.toks + 1 + 1 }) :
    codeAny (model prog w) A (.call (.builtin "reversed.__new__") ⟨[.type "reversed", .str x t], []⟩) (wants Q₁ E) s := by
  have hT : s.TypeIs (.str x t) "str" := typeIs_str s x t
  refine codeAny_of_tree ?_
  show wpAny _ A.in1 (do checkBuiltinCall "reversed.__new__" ⟨[.type "reversed", .str x t], []⟩; again (.builtin "reversed.__new__" ⟨[.type "reversed", .str x t], []⟩)) _ _ s
  refine wpAny_bind (wpAny_of_eq (F.newCall_reversed_1 _) (wpAny_pure ⟨plainId_quiet F.plain_reversed_new _, codeAny_builtin F.entry_reversed_new ?_⟩))
  rw [Around.under_plainId F.plain_reversed_new _]
  unfold Builtin.«reversed.__new__»
  refine wpAny_bind (wpAny_of_eq (newClass_reversed _) ?_)
  try dsimp only
  refine wpAny_bind (wpAny_of_eq (a := ()) (by first | rfl | kernel_rfl) ?_)
  try dsimp only
  refine wpAny_bind (wpAny_of_eq (a := ()) (by first | rfl | kernel_rfl) ?_)
  try dsimp only
  refine wpAny_bind (wpAny_specialOf hT norev_str ?_)
  try dsimp only
  refine wpAny_bind ?_
  wp_delta
  refine wpAny_bind (wpAny_isInstance (T := "str") (U := "dict") (b := false) hT PySem.F.sub_str_dict ?_)
  try dsimp only
  try rw [if_neg Bool.false_ne_true]
  try dsimp only
  refine wpAny_bind (wpAny_specialOf hT get_str ?_)
  try dsimp only
  try rw [if_pos (by decide +kernel)]
  refine wpAny_pure ?_
  try dsimp only
  try rw [if_neg (by decide)]
  try dsimp only
  refine wpAny_bind (P.len_str hfit ?_)
  refine wpAny_bind (wpAny_of_eq (a := some ((x.length : Nat) : Int)) rfl ?_)
  try dsimp only
  refine wpAny_bind ?_
  show wpAny _ _ (newObj (.type "reversed") (.fields #[.str x t, rawInt ((x.length : Int) - 1)])) _ _ _
  refine wpAny_newObj_type ?_
  exact wpAny_pure h
theorem call_reversed_str {Q : Value → Shared → Prop} (hfit : ¬ (x.length : Int) ≥ 2 ^ 63)
    (h : Q (.ref s.heap.objs.size) { s with heap := s.heap.push (rsObj x t ((x.length : Int) - 1)), toks := s.toks + 1 + 1 }) : wpAny (model prog w) A (call (.type "reversed") [.str x t]) Q E s := by
  refine callType_codes (Q₁ := fun obj s₁ => s₁.TypeIs obj "reversed" ∧ Q obj s₁) called_rt (F.typeCall_reversed_1 _) F.entry_object_init
    (code_reversed_str (A := A.in1) hfit ⟨⟨_, Heap.get?_push_size _ rfl, rfl⟩, h⟩) fun obj s₁ h₁ => ?_
  exact ⟨h₁.1, F.args_object_init_2 obj _, object_init_meets called_rt.init.lookup called_rt.made (by decide) prog w A.in1 _ s₁ ⟨h₁.1, rfl, h₁.2⟩⟩
theorem IsRs.typeIs {a : Addr} {i : Int} (z : IsRs s.heap a x t i) : s.TypeIs (.ref a) "reversed" := let ⟨o, ho, hc, _⟩ := z; ⟨o, ho, hc⟩
theorem next_rs_item {it : Addr} {i c : Nat} {Q : Option Value → Shared → Prop} (hit : IsRs s.heap it x t (i : Int)) (hx : x.cps[i]? = some c) (hsz : x.length ≤ sizeLine)
    (hQ : ∀ h' u, IsRs h' it x t ((i : Int) - 1) → Heap.SameBut it s.heap h' → Q (some (.str ⟨#[c]⟩ u)) { s with heap := h', toks := s.toks + 1 + 1 }) : wpAny (model prog w) A (pyNext (.ref it)) Q E s := by
  obtain ⟨o, ho, hc, hd⟩ := id hit
  have hi : i < x.length := (Array.getElem?_eq_some_iff.mp hx).1
  have hT : s.TypeIs (.str x t) "str" := typeIs_str s x t
  rw [sizeLine_eq] at hsz
  unfold pyNext
  refine wpAny_bind (wpAny_attempt (wpAny_callSpecial?_slot (name := Str.ofString "__next__") hit.typeIs slot_rt_next
    (wpAny_call_entry slot_rt_next hit.typeIs entry_rt_next ?_ (args_rt_next _))))
  unfold Builtin.«reversed.__next__»
  refine wpAny_bind (wpAny_of_eq (a := (Value.ref it, [])) rfl ?_)
  try dsimp only
  refine wpAny_bind (wpAny_field ho hd (x := .str x t) rfl ?_)
  try dsimp only
  refine wpAny_bind (wpAny_field ho hd (x := rawInt (i : Int)) rfl ?_)
  show wpAny _ _ (if (i : Int) < 0 then _ else _) _ _ s
  rw [if_neg (by omega)]
  try dsimp only
  refine wpAny_bind (wpAny_specialOf hT get_str ?_)
  try dsimp only
  try rw [if_neg (by decide)]
  try dsimp only
  refine wpAny_bind (wpAny_mkInt ?_)
  refine wpAny_bind (wpAny_attempt ?_)
  have fin : seqIndex? (i : Int) x.length = some i := seqIndex_of (by omega) (by omega)
  refine P.getItem_str (s := { s with toks := s.toks + 1 }) (c := c) (by simp; omega) (by rw [fin]; exact hx) ?_
  try dsimp only
  refine wpAny_bind (wpAny_field (s := { s with toks := s.toks + 1 + 1 }) ho hd (x := rawInt (i : Int)) rfl ?_)
  try dsimp only
  refine wpAny_bind (wpAny_setField (s := { s with toks := s.toks + 1 + 1 }) ho hd (by simp) ?_)
  first
  | refine wpAny_pure ⟨_, rfl, wpAny_pure (hQ _ _ ?_ (Heap.SameBut.update ..))⟩
  | refine wpAny_bind (wpAny_pure (wpAny_pure ⟨_, rfl, wpAny_pure (hQ _ _ ?_ (Heap.SameBut.update ..))⟩))
  exact ⟨_, Heap.get?_update_self _ ho (Obj.isFreed_of_fields (Obj.data_mapFields hd _)), (Obj.cls_mapFields ..).trans hc, by
    rw [Obj.data_mapFields hd]; simp⟩
theorem next_rs_end {it : Addr} {Q : Option Value → Shared → Prop} (hh : A.handled = none) (hit : IsRs s.heap it x t (-1))
    (hQ : ∀ h', Heap.ExtBut it s.heap h' → Q none { s with heap := h' }) : wpAny (model prog w) A (pyNext (.ref it)) Q E s := by
  obtain ⟨o, ho, hc, hd⟩ := id hit
  unfold pyNext
  refine wpAny_bind (wpAny_attempt (wpAny_callSpecial?_slot (name := Str.ofString "__next__") hit.typeIs slot_rt_next
    (wpAny_call_entry slot_rt_next hit.typeIs entry_rt_next ?_ (args_rt_next _))))
  unfold Builtin.«reversed.__next__»
  refine wpAny_bind (wpAny_of_eq (a := (Value.ref it, [])) rfl ?_)
  try dsimp only
  refine wpAny_bind (wpAny_field ho hd (x := .str x t) rfl ?_)
  try dsimp only
  refine wpAny_bind (wpAny_field ho hd (x := rawInt (-1)) rfl ?_)
  show wpAny _ _ (if (-1 : Int) < 0 then _ else _) _ _ s
  rw [if_pos (by decide)]
  try dsimp only
  refine wpAny_bind (wpAny_rule ?_)
  refine wpAny_bind ?_
  wp_delta
  refine wpAny_bind (wpAny_setField ho hd (by simp) ?_)
  have ho2 := Heap.get?_update_self (Obj.mapFields (·.setIfInBounds 1 (rawInt (-1)))) ho (Obj.isFreed_of_fields (Obj.data_mapFields hd _))
  refine wpAny_setField (s := { s with heap := s.heap.update it (Obj.mapFields (·.setIfInBounds 1 (rawInt (-1)))) }) ho2 (Obj.data_mapFields hd _) (by simp) ?_
  try dsimp only
  first
  | show wpAny _ _ (newExc (.type "StopIteration") [] >>= _) _ _ _
  | (refine wpAny_bind ?_; show wpAny _ _ (newExc (.type "StopIteration") [] >>= _) _ _ _)
  | (refine wpAny_bind ?_; wp_delta; show wpAny _ _ (newExc (.type "StopIteration") [] >>= _) _ _ _)
  refine wpAny_bind ?_
  simp only [newExc, newTuple]
  refine wpAny_bind (wpAny_newObj_type ?_ (by size_fits))
  refine wpAny_bind (m := firstArgMember _ _) (wpAny_of_eq (a := Value.none) (by first | rfl | (simp only [firstArgMember]; rfl)) ?_)
  refine wpAny_newObj_type ?_ (by size_fits)
  simp only [raiseNew]
  refine wpAny_bind (wpAny_handled ?_)
  first | rw [show A.in1.handled = none from hh] | rw [hh]
  refine wpAny_bind (wpAny_pure (wpAny_throw ?_))
  refine wpAny_bind (wpAny_isInstance (T := "StopIteration") (b := true) ⟨_, Heap.get?_push_size _ rfl, rfl⟩ isSubtype_stop ?_)
  refine wpAny_pure (hQ _ ?_)
  refine ((?_ : Heap.ExtBut it s.heap _).push _).push _
  exact fun b ob hb e => (Heap.get?_update_other _ _ (Ne.symm hb)).trans ((Heap.get?_update_other _ _ (Ne.symm hb)).trans e)
theorem iter_rs {it : Addr} {i : Int} {Q : Value → Shared → Prop} (hit : IsRs s.heap it x t i) (h : Q (.ref it) s) : wpAny (model prog w) A (pyIter (.ref it)) Q E s := by
  refine wpAny_pyIter_slot hit.typeIs slot_rt_iter (wpAny_call_entry slot_rt_iter hit.typeIs entry_rt_iter ?_ (args_rt_iter _))
  show wpAny _ _ (ret (.ref it)) _ _ s
  exact wpAny_pure ⟨_, rfl, "reversed", _, hit.typeIs, slot_rt_next.lookup, h⟩
end
open L2
def ItvS (x : Str) : It := ⟨fun i H => i < x.cps.size, fun i H v H' => H' = H ∧ ∃ c, x.cps[x.cps.size - 1 - i]? = some c ∧ v = .str ⟨#[c]⟩, fun i _ => x.cps.size ≤ i⟩
theorem turn_rs {P : Program} {w : World} {K : PySem.W.Frag} {tg : Expr} (it : Addr) (x : Str) (t : Tok) (hz : x.length ≤ sizeLine) : Turn P w K tg (ItvS x) [it] it (fun i h => i ≤ x.cps.size ∧ IsRs h it x t ((x.cps.size : Int) - 1 - (i : Nat))) where
  mem := by simp
  obj := fun i h st b hb => by
    have e : b = it := by simpa using hb
    subst e
    obtain ⟨_, o, e, c, d⟩ := st
    exact ⟨o, e, fun v z => by rw [d] at z; cases z⟩
  keep := fun i h h' st k => ⟨st.1, let ⟨o, ho, r⟩ := st.2; ⟨o, k it (by simp) o ho, r⟩⟩
  item := by
    intro X hP hw hK hc i pins s σ H E I hf st hg
    subst hP hw hK
    have hin : i < x.cps.size := hg
    obtain ⟨f0, f1, f2, f3, f4, f5⟩ := hf it (by simp)
    obtain ⟨_, hit⟩ := st
    have e1 : (x.cps.size : Int) - 1 - ((i : Nat) : Int) = ((x.cps.size - 1 - i : Nat) : Int) := by omega
    rw [e1] at hit
    have hx : x.cps[x.cps.size - 1 - i]? = some (x.cps[x.cps.size - 1 - i]'(by omega)) := Array.getElem?_eq_getElem (by omega)
    refine next_rs_item hit hx hz fun h' u st' sb => ?_
    have e2 : ((x.cps.size - 1 - i : Nat) : Int) - 1 = (x.cps.size : Int) - 1 - ((i + 1 : Nat) : Int) := by omega
    rw [e2] at st'
    have I1 : Inv X pins σ H { s with heap := h', toks := s.toks + 1 + 1 } := I.turned (t' := s.toks + 1 + 1) (fun b o hb e => (sb.2 b hb).trans e) f0 f1 f3 f4 f5
    obtain ⟨o, e, c, d⟩ := id st'
    exact ⟨_, rfl, go_of (s := { s with heap := h', toks := s.toks + 1 + 1 }) e c d (by decide) ⟨.str ⟨#[_]⟩, H, I1, ⟨u, rfl⟩, ⟨rfl, _, hx, rfl⟩, ⟨hin, st'⟩, fun b hb => (hf b hb).1⟩⟩
  done := by
    intro X hP hw hK hc i pins s σ H E I hf st hg
    subst hP hw hK
    obtain ⟨f0, f1, f2, f3, f4, f5⟩ := hf it (by simp)
    obtain ⟨hin, hit⟩ := st
    have hge : x.cps.size ≤ i := hg
    have e1 : (x.cps.size : Int) - 1 - ((i : Nat) : Int) = -1 := by omega
    rw [e1] at hit
    exact next_rs_end (I.ok.hd hc) hit fun h' eb => ⟨rfl, I.turned (t' := s.toks) (fun b o hb e => eb b o hb e) f0 f1 f3 f4 f5⟩
  self := fun A i s Q E st h => iter_rs st.2 h
def iRevS (te : TE) : TI := fun σ H R => te σ H fun v H1 => ∃ x : Str, v = .str x ∧ x.length ≤ sizeLine ∧ R (ItvS x) H1
theorem pi_revS {X : Cx} {tg e : Expr} {te : TE} {p pos : Pos} (hg : Gl X "reversed") (hm : X.mg "reversed" = none) (he : PE X e te) (hs : starEach [e] X.env = (false, eval e X.env) :: starEach [] X.env := by rfl) : PI X tg (.Call (.Name "reversed" p) [e] [] pos) (iRevS te) := by
  refine ⟨fun pins s σ H R I h => ?_⟩
  refine Call_ (ld_blt I hg hm PyProof.Rows.boot_reversed (PyProof.Rows.callWith_type1 (args_cons (thn (he.run pins s σ H _ I h) fun u s1 ⟨v, H1, I1, r1, q1⟩ => args_nil ?_) hs) hs rfl))
  obtain ⟨x, ev, hz, q⟩ := q1
  subst ev
  obtain ⟨t, rfl⟩ := r1
  have e1 : ((x.length : Nat) : Int) - 1 = (x.cps.size : Int) - 1 - ((0 : Nat) : Int) := by show ((x.cps.size : Nat) : Int) - 1 = _; omega
  have hfit : ¬ (x.length : Int) ≥ 2 ^ 63 := by rw [sizeLine_eq] at hz; omega
  refine call_reversed_str hfit (iter_rs (x := x) (t := t) (i := ((x.length : Nat) : Int) - 1) ⟨_, Heap.get?_push_size _ rfl, rfl, rfl⟩ ?_)
  refine pi_one (tk := s1.toks + 1 + 1) I1 _ (turn_rs _ x t hz) ⟨Nat.zero_le _, ?_⟩ q
  rw [← e1]
  exact ⟨_, Heap.get?_push_size _ rfl, rfl, rfl⟩
end RT
namespace DL
open PySem PySem.Spec PyProof.Rows L2
section
variable {Z : Zn} {X : Cx} {W : WX} {k : Nat} {e tg : Expr} {pos p : Pos} {Ta : DTE}
/-- reversed(a text) -/
def wRevS (T : DTE) : DTI := fun σ M Q E => T σ M (fun d M1 => ∃ x : Tx, d = .str x ∧ x.length ≤ LL ∧ Q (x.reverse.map fun c => .str [c]) (fun _ => True) M1) E
@[simp] theorem wRevS_s {σ : SD} {M : Hm} {Q : List D → (Hm → Prop) → Hm → Prop} {E : DX} : wRevS Ta σ M Q E = Ta σ M (fun d M1 => ∃ x : Tx, d = .str x ∧ x.length ≤ LL ∧ Q (x.reverse.map fun c => .str [c]) (fun _ => True) M1) E := rfl
theorem irevS (c : Ct Z X W k) (hm : X.mg "reversed" = none) (he : DE Z X W e Ta) (hg : Gl X "reversed" := by rfl) (hs : starEach [e] X.env = (false, eval e X.env) :: starEach [] X.env := by rfl) : DI Z X W tg (.Call (.Name "reversed" p) [e] [] pos) (wRevS Ta) := by
  refine PI.imp (RT.pi_revS hg hm he hs) fun τ H R ⟨F, σ, M, QD, ED, S, V0, hT, hQ, hE⟩ => ⟨F, σ, M, _, ED, S, V0, hT, fun F1 d v M1 H1 e1 V1 r1 q => ?_, hE⟩
  obtain ⟨x, rfl, hl, q⟩ := q
  cases r1.str_of
  have hcp : (sv x).cps = x.toArray := rfl
  refine ⟨sv x, rfl, by rw [sv_len, sizeLine_eq]; exact hl, hQ F1 (RT.ItvS (sv x)) _ _ M1 H1 e1 V1 ⟨fun i d G H' M' ee v' st hi => ?_, fun G H' M' ee v' st => ?_⟩ q⟩
  · rw [List.getElem?_map] at hi
    cases e1 : x.reverse[i]? with
    | none => rw [e1] at hi; cases hi
    | some c =>
      rw [e1] at hi; cases hi
      have hlt := (List.getElem?_eq_some_iff.mp e1).1
      rw [List.length_reverse] at hlt
      have e2 := rev_get e1
      refine ⟨(by show i < (sv x).cps.size; rw [hcp]; simpa using hlt), fun y H'' yy => ?_⟩
      obtain ⟨rfl, c', h1, rfl⟩ := yy
      rw [hcp] at h1
      have : c' = c := by
        have : x[x.length - 1 - i]? = some c' := by simpa using h1
        rw [e2] at this; exact (Option.some.inj this).symm
      subst this
      exact ⟨G, Ext.rfl', v', .str [c']⟩
  · show (sv x).cps.size ≤ _; rw [hcp]; simp
end
end DL
namespace DL
open PySem PySem.Spec PyProof.Rows L2
def ctV : Value → D → Bool
  | .int i _, .int j => decide (i = j)
  | .str s _, .str x => decide (s.cps.toList = x)
  | .bool b, .bl c => b == c
  | .none, .non => true
  | _, _ => false
def ctL : List Value → List D → Bool
  | [], [] => true
  | v :: vs, d :: ds => ctV v d && ctL vs ds
  | _, _ => false
def ctB (K : PySem.W.Frag) (a : Addr) (ds : List D) : Bool := match K.lookup a with
  | some o => o.dict.isNone && (match o.cls with | .type T => T == "tuple" | _ => false) && (match o.data with | .seq its n => decide (its.size ≤ 1000) && ctL its.toList ds | _ => false)
  | none => false
theorem ctL_ok {Z : Zn} {F : Hp} : ∀ {its : List Value} {ds : List D}, ctL its ds = true → ∃ vs, Vals vs its ∧ RDs Z F ds vs
  | [], [], _ => ⟨[], .nil, .nil⟩
  | v :: its, d :: ds, h => by
    rw [ctL, Bool.and_eq_true] at h
    obtain ⟨vs, r1, r2⟩ := ctL_ok (Z := Z) (F := F) h.2
    have h1 := h.1
    unfold ctV at h1
    split at h1
    · cases of_decide_eq_true h1
      exact ⟨.int _ :: vs, .cons ⟨_, rfl⟩ r1, .cons (.int _) r2⟩
    · rename_i s t x
      have e : s = sv x := by
        have := of_decide_eq_true h1
        subst this
        unfold sv; cases s; simp
      subst e
      exact ⟨.str _ :: vs, .cons ⟨_, rfl⟩ r1, .cons (.str _) r2⟩
    · cases eq_of_beq h1
      exact ⟨.bl _ :: vs, .cons rfl r1, .cons (.bl _) r2⟩
    · exact ⟨.non :: vs, .cons rfl r1, .cons .non r2⟩
    · cases h1
  | [], _ :: _, h => by simp [ctL] at h
  | _ :: _, [], h => by simp [ctL] at h
structure CtF (K : PySem.W.Frag) (a : Addr) (ds : List D) : Prop where
  rd : ∀ (Z : Zn) (F : Hp), Z.K = K → RD Z F (.tup ds) (.ref a)
  nd : ∃ o, K.lookup a = some o ∧ o.dict = none
  ty : ∃ o, K.lookup a = some o ∧ o.cls = .type "tuple"
theorem ct_of {K : PySem.W.Frag} {a : Addr} {ds : List D} (h : ctB K a ds = true) : CtF K a ds := by
  unfold ctB at h
  split at h
  · rename_i o e
    rw [Bool.and_eq_true, Bool.and_eq_true] at h
    obtain ⟨⟨h0, h1⟩, h2⟩ := h
    have hd : o.dict = none := by cases q : o.dict with | none => rfl | some x => rw [q] at h0; cases h0
    split at h1
    · rename_i T ec
      cases eq_of_beq h1
      split at h2
      · rename_i its n ed
        rw [Bool.and_eq_true] at h2
        refine ⟨?_, ⟨o, e, hd⟩, ⟨o, e, ec⟩⟩
        rintro Z F rfl
        obtain ⟨vs, r1, r2⟩ := ctL_ok (Z := Z) (F := F) h2.2
        exact .tup (.inr ⟨o, its, n, e, ec, ed, by rw [sizeLine_eq]; have := of_decide_eq_true h2.1; omega, r1⟩) r2
      · cases h2
    · cases h1
  · cases h
section
variable {Z : Zn} {X : Cx} {W : WX} {k : Nat} {d : Addr} {ds : List D} {e : Expr} {Ta : DTE} {pos p : Pos} {x : Str}
theorem de_ct (T : CtF X.K d ds) (hz : Z.K = X.K) (ho : PE X (.Name x p) (tC (.ref d))) : DE Z X W (.Name x p) (wC (.tup ds)) :=
  PE.imp ho fun τ H Q ⟨F, σ, M, QD, ED, S, V0, h, hQ, hE⟩ => hQ F _ _ M H Ext.rfl' V0 (T.rd Z F hz) h
/-- TUPLE.index(e) -/
def wKix (xs : List Tx) (Ta : DTE) : DTE := fun σ M Q E => Ta σ M (fun y M1 => ∃ z ∈ xs, y = .str z ∧ Q (.int (xs.idxOf z : Nat)) M1) E
@[simp] theorem wKix_s {xs : List Tx} {σ : SD} {M : Hm} {Q : DK} {E : DX} : wKix xs Ta σ M Q E = Ta σ M (fun y M1 => ∃ z ∈ xs, y = .str z ∧ Q (.int (xs.idxOf z : Nat)) M1) E := rfl
theorem idx_sv (z : Tx) : ∀ xs : List Tx, (xs.map sv).idxOf (sv z) = xs.idxOf z
  | [] => rfl
  | y :: xs => by
    rw [List.map_cons, List.idxOf_cons, List.idxOf_cons, idx_sv z xs]
    by_cases h : y = z
    · subst h; simp
    · have h1 : (y == z) = false := beq_eq_false_iff_ne.mpr h
      have h2 : (sv y == sv z) = false := beq_eq_false_iff_ne.mpr fun q => h (sv_inj q)
      rw [h1, h2]
theorem de_kix {xs : List Tx} {apos cpos : Pos} (T : CtF X.K d (xs.map .str)) (hz : Z.K = X.K) (ho : PE X (.Name x p) (tC (.ref d))) (he : DE Z X W e Ta) (m : M1 X (.Name x p) "index" apos e cpos) :
    DE Z X W (.Call (.Attribute (.Name x p) "index" apos) [e] [] cpos) (wKix xs Ta) := by
  refine ⟨fun pins s τ H Q I h => ?_⟩
  obtain ⟨F, σ, M, QD, ED, S, V0, h, hQ, hE⟩ := h
  have rd := T.rd Z F hz
  obtain ⟨a', vs, ea, hq, rs⟩ := rd.tup_of
  cases ea
  refine wpAny_Call_method m.base m.few m.line PySem.F.plainAttrs_tuple PySem.F.slot_tuple_index PySem.F.type_tuple_index (thn (ho.run pins s τ H (fun v H1 => v = .ref d ∧ H1 = H) I ⟨rfl, rfl⟩) fun u s1 got => ?_)
  obtain ⟨_, H1, I1, ru, rfl, rfl⟩ := got
  cases (show u = Value.ref d from ru)
  have hs1 : SqT X.K H1 d vs := by have := SqT.sub V0 hq; rw [hz] at this; exact this
  obtain ⟨its, rv, pt, zz⟩ := I1.tuple hs1
  obtain ⟨o1, n1, n2⟩ := T.nd
  obtain ⟨o2, y1, y2⟩ := T.ty
  refine ⟨⟨_, I1.kIn _ _ y1, y2⟩, fun b q => ?_, ?_⟩
  · cases q
    exact ⟨_, I1.kIn _ _ n1, n2⟩
  rw [m.trees]
  refine Calls.callWith_builtin rfl (Calls.evalArgs_plain (Calls.spliced_cons (thn (he.run pins s1 τ H1 (fun v H2 => ∃ z ∈ xs, v = .str (sv z) ∧ SqT X.K H2 d vs ∧ Q (.int (xs.idxOf z : Nat)) H2) I1
    ⟨F, σ, M, _, ED, S, V0, h, fun G y v M1 H1 e1 V1 r1 ⟨z, hz', ey, q⟩ => ⟨z, hz', ?_, ?_, hQ G _ _ M1 H1 e1 V1 (.int _) q⟩, hE⟩) fun iv s2 got => ?_)))
  · subst ey
    rw [r1.str_of]
  · have := SqT.sub V1 (SqT.ext hq e1); rw [hz] at this; exact this
  obtain ⟨_, H2, I2, rv2, z, hz', rfl, hs2, q⟩ := got
  refine Calls.spliced_nil ?_
  obtain ⟨tk, rfl⟩ := (show ∃ t, iv = Value.str _ t from rv2)
  obtain ⟨its2, rw2, pt2, _⟩ := I2.tuple hs2
  cases rs.strs
  have st := strs_of_vals rw2
  refine PySem.SeqAt.tuple_index_strs (show s2.heap.IsTuple d its2.toArray from pt2) st (List.mem_map.mpr ⟨z, hz', rfl⟩) ?_
  rw [idx_sv]
  exact ⟨.int _, H2, I2.tok _, ⟨_, rfl⟩, q⟩
end
end DL
namespace DL
open PySem PySem.Spec PyProof.Rows L2 HT PySem.P
theorem noI_tuple_add : typeLookup (.type "tuple") (dunderI "add") = pure none := by
  rw [typeLookup_type, builtinLookup_eq_fast]; kernel_rfl
section
variable {prog : Program} {w : World} {A : Around} {E : Value → Shared → Prop} {s : Shared}
theorem icat_tup {t b : Addr} {vs ws : List Value} {Q : Value → Shared → Prop} (ht : IsTup s.heap t vs.toArray) (hb : IsTup s.heap b ws.toArray) (hv : vs ≠ [])
    (hw : ws ≠ []) (h2 : Q (.ref s.heap.objs.size) { s with heap := s.heap.push { cls := .type "tuple", data := .seq (vs ++ ws).toArray } })
    (hsz : vs.length + ws.length ≤ sizeLine) : wpAny (model prog w) A (inplaceOp .Add (.ref t) (.ref b)) Q E s := by
  obtain ⟨⟨cls, dd, data, sl⟩, ho, hc, n, hd⟩ := id ht
  obtain ⟨⟨cls2, dd2, data2, sl2⟩, ho2, hc2, n2, hd2⟩ := id hb
  simp only at hc hd hc2 hd2
  subst hc hd hc2 hd2
  have e : vs.toArray ++ ws.toArray = (vs ++ ws).toArray := by simp
  refine wpAny_inplaceOp_concat ⟨_, ho, rfl⟩ ⟨_, ho2, rfl⟩ noI_tuple_add noFill_tuple_add seq_tuple_add (call_meets PySem.F.slot_tuple_add ⟨_, ho, rfl⟩ PySem.F.entry_tuple_add (PySem.F.args_tuple_add_2 _ _) (tuple_addW2 t b vs.toArray ws.toArray n n2 dd dd2 sl sl2 (by simpa using hv) (by simpa using hw) (by simpa using hsz)) ⟨ho, ho2, ?_⟩)
  rw [e]
  exact h2
end
section
variable {Z : Zn} {X : Cx} {W : WX} {k : Nat}
theorem iop_catT : OpR X (inplaceOp .Add) (fun x y H Q => ∃ a b xs ys, x = .ref a ∧ y = .ref b ∧ SqT X.K H a xs ∧ SqT X.K H b ys ∧ xs ≠ [] ∧ ys ≠ [] ∧ xs.length + ys.length ≤ sizeLine ∧ ∀ p, H p = none → Q (.ref p) (upd H p (.tup (xs ++ ys)))) := by
  intro pins s σ H x y v u Q I rx ry h
  obtain ⟨a, b, xs, ys, rfl, rfl, ha, hb, hx, hy, hz, q⟩ := h
  cases rx
  cases ry
  obtain ⟨its, r1, p1, _⟩ := I.tuple ha
  obtain ⟨its2, r2, p2, _⟩ := I.tuple hb
  refine icat_tup p1 p2 (fun z => hx (r1.nil_iff.mp z)) (fun z => hy (r2.nil_iff.mp z)) ?_ (by rw [← r1.length, ← r2.length]; exact hz)
  refine ⟨.ref s.heap.objs.size, _, I.laid (t' := s.toks) (o := .tup (xs ++ ys)) (fun b ob q => Heap.get?_push_of_some _ q) (Nat.le_refl _) ?_, rfl, q _ (I.hok.fresh (Nat.le_refl _))⟩
  exact ⟨by rw [List.length_append]; exact hz, _, r1.append r2, IsTup.new _ _⟩
def pIAddT (x y : D) (M : Hm) (Q : DK) : Prop := match x, y with
  | .tup xs, .tup ys => xs ≠ [] ∧ ys ≠ [] ∧ xs.length + ys.length ≤ LL ∧ Q (.tup (xs ++ ys)) M
  | _, _ => False
theorem ip_addT (hz : Z.K = X.K) : PIp X .Add (rOf Z pIAddT) := by
  rintro pins s τ H x y v u Q I rx ry ⟨F, M, d, e, QD, V0, r1, r2, q, hQ⟩
  unfold pIAddT at q
  split at q
  · obtain ⟨p, vs, rfl, hp, rs⟩ := r1.tup_of
    obtain ⟨p2, us, rfl, hq, rt⟩ := r2.tup_of
    obtain ⟨q1, q2, q3, q4⟩ := q
    have a1 := SqT.sub V0 hp
    have a2 := SqT.sub V0 hq
    rw [hz] at a1 a2
    refine iop_catT pins s τ H _ _ v u Q I rx ry ⟨p, p2, vs, us, rfl, rfl, a1, a2, fun e => q1 (rs.nil_iff.mpr e), fun e => q2 (rt.nil_iff.mpr e), by rw [← rs.length, ← rt.length, LL_eq]; exact q3, fun r hr => ?_⟩
    have hF := (V0.free hr).2
    exact hQ _ _ _ M _ (Ext.new hF) (V0.newT hr) (.tup (.inl (.inl upd_same)) ((rs.append rt).ext (Ext.new hF))) q4
  · exact q.elim
@[simp] theorem pIAddT_t {xs ys : List D} {M : Hm} {Q : DK} : pIAddT (.tup xs) (.tup ys) M Q = (xs ≠ [] ∧ ys ≠ [] ∧ xs.length + ys.length ≤ LL ∧ Q (.tup (xs ++ ys)) M) := rfl
end
end DL
namespace DL
open PySem PySem.Spec PyProof.Rows L2
section
variable {σ : SD} {M : Hm} {Q : DK} {E : DX} {Ta Tb Tc : DTE} {Tr Tk : DTA} {B B2 : DTT} {K : DEn} {S S1 S2 : DTS} {QB : Bool → Hm → Prop} {QA : List D → Hm → Prop} {QS : SD → Hm → Prop} {Gt : DTG} {i j : Nat} {Sp : DSp}
theorem g_var (d : D) (hd : σ[i]? = some (some d)) (h : Q d M) : wVar i σ M Q E := ⟨d, hd, h⟩
theorem g_varE (h : ∃ d, σ[i]? = some (some d) ∧ Q d M) : wVar i σ M Q E := h
theorem g_body {N : List Str} {T : DTS} {ds : List D} (σ : SD) (e : startD N ds = σ) (h : T { nx := fun _ M' => ∃ M'', Sub M'' M' ∧ Q .non M'', rt := fun d M' => ∃ M'', Sub M'' M' ∧ Q d M'', ex := fun x _ M' => E x M' } σ M) : wBody N T ds M Q E := by rw [wBody_s, e]; exact h
theorem g_c {d : D} (h : Q d M) : wC d σ M Q E := h
theorem g_2 {P : D → D → Hm → DK → Prop} (h : Ta σ M (fun x M1 => Tb σ M1 (fun y M2 => P x y M2 Q) E) E) : w2 P Ta Tb σ M Q E := h
theorem g_B (h : Ta σ M (fun d M1 => ∃ b, d = .bl b ∧ QB b M1) E) : wB Ta σ M QB E := h
theorem g_And (h : B σ M (fun b M1 => if b = true then B2 σ M1 QB E else QB false M1) E) : wAnd B B2 σ M QB E := h
theorem g_Or (h : B σ M (fun b M1 => if b = true then QB true M1 else B2 σ M1 QB E) E) : wOr B B2 σ M QB E := h
theorem g_Not (h : B σ M (fun b M1 => QB (!b) M1) E) : wNot B σ M QB E := h
theorem g_AndV (h : Ta σ M (fun d M1 => ∃ b, d = .bl b ∧ if b = true then Tb σ M1 Q E else Q (.bl false) M1) E) : wAndV Ta Tb σ M Q E := h
theorem g_OrV (h : Ta σ M (fun d M1 => ∃ b, d = .bl b ∧ if b = true then Q (.bl true) M1 else Tb σ M1 Q E) E) : wOrV Ta Tb σ M Q E := h
theorem g_NotV (h : Ta σ M (fun d M1 => ∃ b, d = .bl b ∧ Q (.bl (!b)) M1) E) : wNotV Ta σ M Q E := h
theorem g_Ite (h : B σ M (fun b M1 => if b = true then Ta σ M1 Q E else Tb σ M1 Q E) E) : wIte B Ta Tb σ M Q E := h
theorem g_nil (h : QA [] M) : wNil σ M QA E := h
theorem g_cons (h : Ta σ M (fun d M1 => Tr σ M1 (fun ds M2 => QA (d :: ds) M2) E) E) : wCons Ta Tr σ M QA E := h
theorem g_tup (h : Tr σ M (fun ds M1 => ds.length ≤ LL ∧ Q (.tup ds) M1) E) : wTup Tr σ M Q E := h
theorem g_lst (h : Tr σ M (fun ds M1 => ds.length ≤ LL ∧ ∀ p, M1 p = none → Q (.ref p) (mup M1 p (.lst ds))) E) : wLst Tr σ M Q E := h
theorem g_att {f : String} (h : Ta σ M (fun d M1 => pAttr d f M1 Q) E) : wAttr Ta f σ M Q E := h
theorem g_callP {P : List D → Hm → DK → DX → Prop} (h : Tr σ M (fun ds M1 => P ds M1 Q E) E) : wCallP P Tr σ M Q E := h
theorem g_call0 (h : Sp [] M Q E) : wCall 0 0 [] Sp wNil wNil σ M Q E := ⟨rfl, rfl, h⟩
theorem g_call1 (h : Ta σ M (fun x M1 => Sp [x] M1 Q E) E) : wCall 1 0 [.arg 0] Sp (wCons Ta wNil) wNil σ M Q E := by simpa using h
theorem g_call2 (h : Ta σ M (fun x M1 => Tb σ M1 (fun y M2 => Sp [x, y] M2 Q E) E) E) : wCall 2 0 [.arg 0, .arg 1] Sp (wCons Ta (wCons Tb wNil)) wNil σ M Q E := by simpa using h
theorem g_call3 {Tc : DTE} (h : Ta σ M (fun x M1 => Tb σ M1 (fun y M2 => Tc σ M2 (fun z M3 => Sp [x, y, z] M3 Q E) E) E) E) : wCall 3 0 [.arg 0, .arg 1, .arg 2] Sp (wCons Ta (wCons Tb (wCons Tc wNil))) wNil σ M Q E := by simpa using h
theorem g_call4 {Tc Td : DTE} (h : Ta σ M (fun x M1 => Tb σ M1 (fun y M2 => Tc σ M2 (fun z M3 => Td σ M3 (fun u M4 => Sp [x, y, z, u] M4 Q E) E) E) E) E) : wCall 4 0 [.arg 0, .arg 1, .arg 2, .arg 3] Sp (wCons Ta (wCons Tb (wCons Tc (wCons Td wNil)))) wNil σ M Q E := by simpa using h
theorem g_call5 {Tc Td Te : DTE} (h : Ta σ M (fun x M1 => Tb σ M1 (fun y M2 => Tc σ M2 (fun z M3 => Td σ M3 (fun u M4 => Te σ M4 (fun v M5 => Sp [x, y, z, u, v] M5 Q E) E) E) E) E) E) : wCall 5 0 [.arg 0, .arg 1, .arg 2, .arg 3, .arg 4] Sp (wCons Ta (wCons Tb (wCons Tc (wCons Td (wCons Te wNil))))) wNil σ M Q E := by simpa using h
theorem g_call {n m : Nat} {ar : List Ar} (h : Tr σ M (fun ds M1 => Tk σ M1 (fun es M2 => ds.length = n ∧ es.length = m ∧ Sp (arD ar (ds ++ es)) M2 Q E) E) E) : wCall n m ar Sp Tr Tk σ M Q E := h
theorem g_call_r {ar : List Ar} {ds es : List D} {n m : Nat} (h1 : ds.length = n) (h2 : es.length = m) (xs : List D) (h3 : arD ar (ds ++ es) = xs) (h : Sp xs M Q E) : ds.length = n ∧ es.length = m ∧ Sp (arD ar (ds ++ es)) M Q E := ⟨h1, h2, h3 ▸ h⟩
theorem g_meth {cc mm : String} {n : Nat} {ar : List Ar} (h : Ta σ M (fun d M1 => isOf cc mm d M1 ∧ Tr σ M1 (fun ds M2 => ds.length = n ∧ Sp (arD ar (d :: ds)) M2 Q E) E) E) : wMeth cc mm n ar Sp Ta Tr σ M Q E := h
theorem g_meth_r {ar : List Ar} {ds : List D} {d : D} {n : Nat} (h1 : ds.length = n) (xs : List D) (h3 : arD ar (d :: ds) = xs) (h : Sp xs M Q E) : ds.length = n ∧ Sp (arD ar (d :: ds)) M Q E := ⟨h1, h3 ▸ h⟩
theorem g_isi {own : Bool} {n : String} (h : Ta σ M (fun d M1 => ∃ t, tyD d M1 = some t ∧ Q (.bl (t.1 == own && (t.2 == n || (own == false && t.2 == "bool" && n == "int")))) M1) E) : wIsi own n Ta σ M Q E := h
theorem g_sl {Tl Th : DTO} (h : Ta σ M (fun x M1 => Tl σ M1 (fun lo M2 => Th σ M2 (fun hi M3 => pSl x lo hi M3 Q) E) E) E) : wSlice Ta Tl Th σ M Q E := h
theorem g_no {QO : Option Int → Hm → Prop} (h : QO none M) : wNo σ M QO E := h
theorem g_part {QO : Option Int → Hm → Prop} (h : Ta σ M (fun d M1 => ∃ i, d = .int i ∧ QO (some i) M1) E) : wPart Ta σ M QO E := h
theorem g_mt {T : String} {P : D → List D → Hm → DK → Prop} (h : Ta σ M (fun d M1 => rcv T d M1 ∧ Tr σ M1 (fun ds M2 => P d ds M2 Q) E) E) : wMt T P Ta Tr σ M Q E := h
theorem g_mt0 {T : String} {P : D → List D → Hm → DK → Prop} (h : Ta σ M (fun d M1 => rcv T d M1 ∧ P d [] M1 Q) E) : wMt0 T P Ta σ M Q E := h
theorem g_neg (h : Ta σ M (fun d M1 => ∃ i, d = .int i ∧ Q (.int (-i)) M1) E) : wNeg Ta σ M Q E := h
theorem g_fmt (h : Ta σ M (fun d M1 => pFmt d M1 Q) E) : wFmt Ta σ M Q E := h
theorem g_asg (h : Ta σ M (fun d M1 => ∃ τ, σ.set i (some d) = τ ∧ S K τ M1) (fun x M1 => K.ex x σ M1)) : wSeq (wAsg Ta (wName i)) S K σ M := by
  have e : (fun d M1 => ∃ τ, σ.set i (some d) = τ ∧ S K τ M1) = (fun d M1 => S K (σ.set i (some d)) M1) := by funext d M1; simp
  rw [e] at h; exact h
theorem g_setE {x τ : SD} {P : SD → Prop} (e : x = τ) (h : P τ) : ∃ τ, x = τ ∧ P τ := ⟨τ, e, h⟩
theorem g_unp {ds : List D} {n : Nat} {P : List D → Prop} (hl : ds.length = n) (h : P ds) : ∃ ds', D.tup ds = .tup ds' ∧ ds'.length = n ∧ P ds' := ⟨ds, rfl, hl, h⟩
theorem g_asgN {is : List Nat} (h : Ta σ M (fun d M1 => ∃ ds, d = .tup ds ∧ ds.length = is.length ∧ ∃ τ, setAll is ds σ = τ ∧ S K τ M1) (fun x M1 => K.ex x σ M1)) : wSeq (wAsg Ta (wNames is)) S K σ M := by
  have e : (fun d M1 => ∃ ds, d = D.tup ds ∧ ds.length = is.length ∧ ∃ τ, setAll is ds σ = τ ∧ S K τ M1) = (fun d M1 => ∃ ds, d = D.tup ds ∧ ds.length = is.length ∧ S K (setAll is ds σ) M1) := by funext d M1; simp
  rw [e] at h; exact h
theorem g_asgL {is : List Nat} (h : Ta σ M (fun d M1 => ∃ a ds, d = D.ref a ∧ Lz M1 a ds ∧ ds.length = is.length ∧ ∃ τ, setAll is ds σ = τ ∧ S K τ M1) (fun x M1 => K.ex x σ M1)) : wSeq (wAsg Ta (wNamesL is)) S K σ M := by
  have e : (fun d M1 => ∃ a ds, d = D.ref a ∧ Lz M1 a ds ∧ ds.length = is.length ∧ ∃ τ, setAll is ds σ = τ ∧ S K τ M1) = (fun d M1 => ∃ a ds, d = D.ref a ∧ Lz M1 a ds ∧ ds.length = is.length ∧ S K (setAll is ds σ) M1) := by funext d M1; simp
  rw [e] at h; exact h
theorem g_unpL {a : Addr} (ds : List D) {n : Nat} {P : List D → Prop} (hx : Lz M a ds) (hl : ds.length = n) (h : P ds) : ∃ a' ds', D.ref a = .ref a' ∧ Lz M a' ds' ∧ ds'.length = n ∧ P ds' := ⟨a, ds, rfl, hx, hl, h⟩
theorem g_asgS {P : D → D → D → Hm → (Hm → Prop) → Prop} (h : Ta σ M (fun d M1 => Tb σ M1 (fun o M2 => Tc σ M2 (fun i M3 => P o i d M3 (fun M4 => S K σ M4)) (fun x M3 => K.ex x σ M3)) (fun x M2 => K.ex x σ M2)) (fun x M1 => K.ex x σ M1)) : wSeq (wAsg Ta (wSub Tb Tc P)) S K σ M := h
theorem g_aug {P : D → D → Hm → DK → Prop} (d : D) (hd : σ[i]? = some (some d)) (h : Ta σ M (fun y M1 => P d y M1 (fun z M2 => S K (σ.set i (some z)) M2)) (fun x M1 => K.ex x σ M1)) : wSeq (wAug i Ta P) S K σ M := ⟨d, hd, h⟩
theorem g_augE {P : D → D → Hm → DK → Prop} (h : ∃ d, σ[i]? = some (some d) ∧ Ta σ M (fun y M1 => P d y M1 (fun z M2 => ∃ τ, σ.set i (some z) = τ ∧ S K τ M2)) (fun x M1 => K.ex x σ M1)) : wSeq (wAug i Ta P) S K σ M := by
  obtain ⟨d, hd, h⟩ := h
  have e : (fun z M2 => ∃ τ, σ.set i (some z) = τ ∧ S K τ M2) = (fun z M2 => S K (σ.set i (some z)) M2) := by funext d M1; simp
  rw [e] at h; exact ⟨d, hd, h⟩
theorem g_ret {nx : SD → Hm → Prop} {rt : DK} {ex : XD → SD → Hm → Prop} {bk ct : SD → Hm → Prop} (h : Ta σ M rt (fun x M1 => ex x σ M1)) : wSeq (wRet Ta) S (DEn.mk nx rt ex bk ct) σ M := h
theorem g_retN {nx : SD → Hm → Prop} {rt : DK} {ex : XD → SD → Hm → Prop} {bk ct : SD → Hm → Prop} (h : rt .non M) : wSeq wRetN S (DEn.mk nx rt ex bk ct) σ M := h
theorem g_drop (h : Ta σ M (fun _ M1 => S K σ M1) (fun x M1 => K.ex x σ M1)) : wSeq (wDrop Ta) S K σ M := h
theorem g_skip {nx : SD → Hm → Prop} {rt : DK} {ex : XD → SD → Hm → Prop} {bk ct : SD → Hm → Prop} (h : nx σ M) : wSkip (DEn.mk nx rt ex bk ct) σ M := h
theorem g_seqskip (h : S K σ M) : wSeq wSkip S K σ M := h
theorem g_brk {nx : SD → Hm → Prop} {rt : DK} {ex : XD → SD → Hm → Prop} {bk ct : SD → Hm → Prop} (h : bk σ M) : wSeq wBrk S (DEn.mk nx rt ex bk ct) σ M := h
theorem g_cnt {nx : SD → Hm → Prop} {rt : DK} {ex : XD → SD → Hm → Prop} {bk ct : SD → Hm → Prop} (h : ct σ M) : wSeq wCnt S (DEn.mk nx rt ex bk ct) σ M := h
theorem g_if {nx : SD → Hm → Prop} {rt : DK} {ex : XD → SD → Hm → Prop} {bk ct : SD → Hm → Prop} (h : B σ M (fun b M1 => if b = true then S1 (DEn.mk (fun σ' M' => S (DEn.mk nx rt ex bk ct) σ' M') rt ex bk ct) σ M1 else S2 (DEn.mk (fun σ' M' => S (DEn.mk nx rt ex bk ct) σ' M') rt ex bk ct) σ M1) (fun x M1 => ex x σ M1)) : wSeq (wIf B S1 S2) S (DEn.mk nx rt ex bk ct) σ M := h
theorem g_for {nx : SD → Hm → Prop} {rt : DK} {ex : XD → SD → Hm → Prop} {bk ct : SD → Hm → Prop} {T : DTI} {Bd : DTS} (h : T σ M (fun xs st M1 => wLoop Gt Bd (DEn.mk (fun σ' M' => S (DEn.mk nx rt ex bk ct) σ' M') rt ex bk ct) st xs σ M1) (fun x M1 => ex x σ M1)) : wSeq (wFor T Gt Bd) S (DEn.mk nx rt ex bk ct) σ M := h
theorem g_par (h : Tr σ M (fun ds M1 => ∃ d e, ds = [d, e] ∧ ∃ τ, (σ.set i (some d)).set j (some e) = τ ∧ S K τ M1) (fun x M1 => K.ex x σ M1)) : wSeq (wPar i j Tr) S K σ M := by
  have e : (fun ds M1 => ∃ d e, ds = [d, e] ∧ ∃ τ, (σ.set i (some d)).set j (some e) = τ ∧ S K τ M1) = (fun ds M1 => ∃ d e, ds = [d, e] ∧ S K ((σ.set i (some d)).set j (some e)) M1) := by funext d M1; simp
  rw [e] at h; exact h
theorem g_par_r {d e : D} {P : D → D → Prop} (h : P d e) : ∃ d' e', [d, e] = [d', e'] ∧ P d' e' := ⟨d, e, rfl, h⟩
theorem g_raise {nx : SD → Hm → Prop} {rt : DK} {ex : XD → SD → Hm → Prop} {bk ct : SD → Hm → Prop} {c f : String} (h : Ta σ M (fun d M1 => ∀ p, M1 p = none → ex ⟨c, p⟩ σ (mup M1 p (.xd [(f, d)]))) (fun x M1 => ex x σ M1)) : wSeq (wRaise c f Ta) S (DEn.mk nx rt ex bk ct) σ M := h
theorem g_try0 {nx : SD → Hm → Prop} {rt : DK} {ex : XD → SD → Hm → Prop} {bk ct : SD → Hm → Prop} {xs : List String} {cf : String → Bool} (h : S1 (DEn.mk (fun σ' M' => S (DEn.mk nx rt ex bk ct) σ' M') rt (fun x σ' M' => x.cls ∈ xs ∧ if cf x.cls = true then S2 (sEn0 (DEn.mk (fun σ' M' => S (DEn.mk nx rt ex bk ct) σ' M') rt ex bk ct)) σ' M' else ex x σ' M') bk ct) σ M) : wSeq (wTry0 xs cf S1 S2) S (DEn.mk nx rt ex bk ct) σ M := h
/-- a loop with something that stays so -/
theorem loop_inv {Bd : DTS} {st : Hm → Prop} (P : SD → Hm → Prop) (hst : ∀ σ M, P σ M → st M) (hK : ∀ σ M, P σ M → K.nx σ M) : ∀ (xs : List D) (σ : SD) (M : Hm),
    (∀ x ∈ xs, ∀ (K' : DEn) (σ : SD) (M : Hm), K'.rt = K.rt → K'.ex = K.ex → (∀ σ M, P σ M → K'.nx σ M) → P σ M → Gt x σ M (fun σ2 M2 => Bd K' σ2 M2) (fun x M2 => K.ex x σ M2)) → P σ M → wLoop Gt Bd K st xs σ M
  | [], σ, M, _, p => ⟨hst σ M p, hK σ M p⟩
  | x :: xs, σ, M, hb, p => by
    rw [wLoop_c]
    exact ⟨hst σ M p, hb x List.mem_cons_self _ σ M rfl rfl (fun σ2 M2 p2 => ⟨M2, Sub.rfl', loop_inv P hst hK xs σ2 M2 (fun y hy => hb y (List.mem_cons_of_mem _ hy)) p2⟩) p⟩
theorem g_nx {nx : SD → Hm → Prop} {rt : DK} {ex : XD → SD → Hm → Prop} {bk ct : SD → Hm → Prop} (h : nx σ M) : (DEn.mk nx rt ex bk ct).nx σ M := h
theorem g_rt {nx : SD → Hm → Prop} {rt : DK} {ex : XD → SD → Hm → Prop} {bk ct : SD → Hm → Prop} {d : D} (h : rt d M) : (DEn.mk nx rt ex bk ct).rt d M := h
theorem g_bk {nx : SD → Hm → Prop} {rt : DK} {ex : XD → SD → Hm → Prop} {bk ct : SD → Hm → Prop} (h : bk σ M) : (DEn.mk nx rt ex bk ct).bk σ M := h
theorem g_ct {nx : SD → Hm → Prop} {rt : DK} {ex : XD → SD → Hm → Prop} {bk ct : SD → Hm → Prop} (h : ct σ M) : (DEn.mk nx rt ex bk ct).ct σ M := h
theorem g_bl {b : Bool} {P : Bool → Prop} (h : P b) : ∃ b', D.bl b = .bl b' ∧ P b' := ⟨b, rfl, h⟩
theorem g_int {b : Int} {P : Int → Prop} (h : P b) : ∃ b', D.int b = .int b' ∧ P b' := ⟨b, rfl, h⟩
theorem g_ift {a b : Prop} (h : a) : if true = true then a else b := h
theorem g_iff {a b : Prop} (h : b) : if false = true then a else b := h
theorem g_iT {c : Bool} {a b : Prop} (hc : c = true) (h : a) : if c = true then a else b := by rw [hc]; exact h
theorem g_iF {c : Bool} {a b : Prop} (hc : c = false) (h : b) : if c = true then a else b := by rw [hc]; exact h
theorem g_i2 {c : Bool} {a b : Prop} (h : c = true → a) (g : c = false → b) : if c = true then a else b := by
  cases c with
  | true => exact h rfl
  | false => exact g rfl
theorem g_ifnt {a b : Prop} (h : b) : if (!true) = true then a else b := h
theorem g_ifnf {a b : Prop} (h : a) : if (!false) = true then a else b := h
theorem g_notT {P : Bool → Prop} (h : P false) : P (!true) := h
theorem g_addi {i j : Int} (h : Q (.int (i + j)) M) : pAdd (.int i) (.int j) M Q := h
theorem g_subi {i j : Int} (h : Q (.int (i - j)) M) : pSub (.int i) (.int j) M Q := h
theorem g_iaddi {i j : Int} (h : Q (.int (i + j)) M) : pIAdd (.int i) (.int j) M Q := h
theorem g_cmpi {p : Int → Int → Bool} {i j : Int} (h : Q (.bl (p i j)) M) : pCmpI p (.int i) (.int j) M Q := h
theorem g_is_i {i : Int} (h : Q (.bl false) M) : pIsN (.int i) .non M Q := by rw [pIsN_n]; exact h
theorem g_not_i {i : Int} (h : Q (.bl true) M) : pNotN (.int i) .non M Q := by rw [pNotN_n]; exact h
theorem g_is_n  (h : Q (.bl true) M) : pIsN (.non) .non M Q := by rw [pIsN_n]; exact h
theorem g_not_n  (h : Q (.bl false) M) : pNotN (.non) .non M Q := by rw [pNotN_n]; exact h
theorem g_is_e {t : Th} (h : Q (.bl false) M) : pIsN (enc t) .non M Q := by rw [pIsN_n, enc_isNon]; exact h
theorem g_not_e {t : Th} (h : Q (.bl true) M) : pNotN (enc t) .non M Q := by rw [pNotN_n, enc_isNon]; exact h
theorem g_is_r {a : Addr} (h : Q (.bl false) M) : pIsN (.ref a) .non M Q := by rw [pIsN_n]; exact h
theorem g_not_r {a : Addr} (h : Q (.bl true) M) : pNotN (.ref a) .non M Q := by rw [pNotN_n]; exact h
theorem g_is_t {xs : List D} (h : Q (.bl false) M) : pIsN (.tup xs) .non M Q := by rw [pIsN_n]; exact h
theorem g_not_t {xs : List D} (h : Q (.bl true) M) : pNotN (.tup xs) .non M Q := by rw [pNotN_n]; exact h
theorem g_is_s {x : Tx} (h : Q (.bl false) M) : pIsN (.str x) .non M Q := by rw [pIsN_n]; exact h
theorem g_not_s {x : Tx} (h : Q (.bl true) M) : pNotN (.str x) .non M Q := by rw [pNotN_n]; exact h
theorem g_is_c {c : String} {fs : List (String × D)} (h : Q (.bl false) M) : pIsN (.ins c fs) .non M Q := by rw [pIsN_n]; exact h
theorem g_not_c {c : String} {fs : List (String × D)} (h : Q (.bl true) M) : pNotN (.ins c fs) .non M Q := by rw [pNotN_n]; exact h
theorem g_isN {x : D} (h : Q (.bl x.isNon) M) : pIsN x .non M Q := by rw [pIsN_n]; exact h
theorem g_notN {x : D} (h : Q (.bl (!x.isNon)) M) : pNotN x .non M Q := by rw [pNotN_n]; exact h
theorem g_eqii {es : List String} {k : Nat} {i j : Int} (h : Q (.bl (i == j)) M) : pEq es k false (.int i) (.int j) M Q := by rw [pEq_ii]; exact h
theorem g_eqss {es : List String} {k : Nat} {i j : Tx} (h : Q (.bl (i == j)) M) : pEq es k false (.str i) (.str j) M Q := by rw [pEq_ss]; exact h
theorem g_neii {es : List String} {k : Nat} {i j : Int} (h : Q (.bl (!(i == j))) M) : pNe es k (.int i) (.int j) M Q := by rw [pNe_ii]; exact h
theorem g_ness {es : List String} {k : Nat} {i j : Tx} (h : Q (.bl (!(i == j))) M) : pNe es k (.str i) (.str j) M Q := by rw [pNe_ss]; exact h
theorem g_ixT {xs : List D} {i : Int} (d : D) (hd : L2.atI xs i = some d) (h : Q d M) : pIdx (.tup xs) (.int i) M Q := ⟨d, hd, h⟩
theorem g_ixL {a : Addr} {i : Int} (xs : List D) (hx : Lz M a xs) (d : D) (hd : L2.atI xs i = some d) (h : Q d M) : pIdx (.ref a) (.int i) M Q := ⟨xs, d, hx, hd, h⟩
theorem g_lenT {Ss : List (String × DSp)} {xs : List D} (h : Q (.int xs.length) M) : pLen Ss [.tup xs] M Q E := h
theorem g_lenL {Ss : List (String × DSp)} {a : Addr} (xs : List D) (hx : Lz M a xs) (h : Q (.int xs.length) M) : pLen Ss [.ref a] M Q E := ⟨xs, hx, h⟩
theorem g_lenI {Ss : List (String × DSp)} {c : String} {fs : List (String × D)} (S : DSp) (hS : Ss.lookup c = some S) (h : S [.ins c fs] M (fun y M1 => ∃ n : Int, y = .int n ∧ 0 ≤ n ∧ n < 9223372036854775808 ∧ Q y M1) E) : pLen Ss [.ins c fs] M Q E := ⟨S, hS, h⟩
theorem g_lenr {n : Int} {P : D → Prop} (h0 : 0 ≤ n) (h1 : n < 9223372036854775808) (h : P (.int n)) : ∃ m : Int, D.int n = .int m ∧ 0 ≤ m ∧ m < 9223372036854775808 ∧ P (.int n) := ⟨n, rfl, h0, h1, h⟩
theorem g_itv {QI : List D → (Hm → Prop) → Hm → Prop} (h : Ta σ M (fun d M1 => dIter d M1 QI) E) : wItV Ta σ M QI E := h
theorem g_itT {xs : List D} {QI : List D → (Hm → Prop) → Hm → Prop} (h : QI xs (fun _ => True) M) : dIter (.tup xs) M QI := h
theorem g_itL {a : Addr} {QI : List D → (Hm → Prop) → Hm → Prop} (xs : List D) (hx : Lz M a xs) (h : QI xs (fun M' => Lz M' a xs) M) : dIter (.ref a) M QI := ⟨xs, hx, h⟩
theorem g_rng1 {QI : List D → (Hm → Prop) → Hm → Prop} (h : Tr σ M (fun ds M1 => ∃ j : Int, ds = [.int j] ∧ -R62 ≤ j ∧ j < R62 ∧ QI (intsFrom 0 j.toNat) (fun _ => True) M1) E) : wRng1 Tr σ M QI E := h
theorem g_comp {T : DTI} {Te : DTE} {vs : List Nat} (h : T σ M (fun xs st M1 => ∀ p, M1 p = none → wCompL Gt B Te vs p st (Q (.ref p)) xs σ (mup M1 p (.lst []))) E) : wComp T Gt B Te vs σ M Q E := h
theorem g_compc {Te : DTE} {vs : List Nat} {p : Addr} {st Q' : Hm → Prop} {x : D} {xs : List D} (hs : st M) (h : ∃ τ, (wipeD σ vs).set i (some x) = τ ∧ Te τ M (fun y M4 => ∃ acc, M4 p = some (.lst acc) ∧ acc.length < LL ∧ wCompL (wName i) wYes Te vs p st Q' xs σ (mup M4 p (.lst (acc ++ [y])))) (fun _ _ => False)) : wCompL (wName i) wYes Te vs p st Q' (x :: xs) σ M := by
  rw [wCompL_c]
  refine ⟨hs, ?_⟩
  simp only [wName_s, wYes_s, if_true]
  obtain ⟨τ, rfl, h⟩ := h
  exact h
theorem g_compn {Te : DTE} {vs : List Nat} {p : Addr} {st Q' : Hm → Prop} (hs : st M) (h : Q' M) : wCompL (wName i) wYes Te vs p st Q' [] σ M := ⟨hs, h⟩
theorem g_slL {a : Addr} {lo hi : Option Int} (xs : List D) (hx : Lz M a xs) (h : ∀ r, M r = none → Q (.ref r) (mup M r (.lst (cutG xs lo hi)))) : pSl (.ref a) lo hi M Q := ⟨xs, hx, h⟩
theorem g_slT {xs : List D} {lo hi : Option Int} (h : Q (.tup (cutG xs lo hi)) M) : pSl (.tup xs) lo hi M Q := h
theorem g_intb {b : Bool} (h : Q (.int (if b then 1 else 0)) M) : pInt [.bl b] M Q := h
theorem g_inti {i : Int} (h : Q (.int i) M) : pInt [.int i] M Q := h
theorem g_pAt {c f : String} {fs : List (String × D)} (y : D) (hy : fs.lookup f = some y) (h : Q y M) : pAttr (.ins c fs) f M Q := ⟨y, hy, h⟩
theorem g_pAtR {c f : String} {a : Addr} {fs : List (String × D)} (hM : M a = some (.ins c fs)) (y : D) (hy : fs.lookup f = some y) (h : Q y M) : pAttr (.ref a) f M Q := ⟨c, fs, y, hM, hy, h⟩
theorem g_atM {t : Th} (h : Q (.int t.size) M) : pAttr (enc t) "many" M Q := by rw [at_many]; exact h
theorem g_atT {t : Th} (h : Q (.str t.txt) M) : pAttr (enc t) "text" M Q := by rw [at_text]; exact h
theorem g_maxi {i j : Int} (h : Q (.int (if j > i then j else i)) M) : pMax2 [.int i, .int j] M Q := h
theorem g_mini {i j : Int} (h : Q (.int (if j < i then j else i)) M) : pMin2 [.int i, .int j] M Q := h
theorem g_tupL {a : Addr} (xs : List D) (hx : Lz M a xs) (h : Q (.tup xs) M) : pTuple [.ref a] M Q := ⟨xs, hx, h⟩
theorem g_le {a : Nat} {P : Prop} (h : a ≤ LL) (g : P) : a ≤ LL ∧ P := ⟨h, g⟩
theorem g_and {a b : Prop} (ha : a) (hb : b) : a ∧ b := ⟨ha, hb⟩
end
end DL
namespace DL
open PySem PySem.Spec PyProof.Rows L2
def sameB : V → V → Bool
  | .bl a, .bl b => a == b
  | _, _ => false
theorem op_isBv {X : Cx} : OpR X (compareOp .Is) (fun x y H Q => (∃ b, y = .bl b) ∧ (x = .non ∨ ∃ a, x = .bl a) ∧ Q (.bl (sameB x y)) H) := by
  rintro pins s σ H x y v u Q I rx ry ⟨⟨b, rfl⟩, h, q⟩
  cases ry
  rcases h with rfl | ⟨a, rfl⟩
  · cases rx
    refine wpAny_is_plain rfl (fin_bl I q ?_)
    cases b <;> rfl
  · cases rx
    refine wpAny_is_plain rfl (fin_bl I q ?_)
    cases a <;> cases b <;> rfl
theorem op_notBv {X : Cx} : OpR X (compareOp .IsNot) (fun x y H Q => (∃ b, y = .bl b) ∧ (x = .non ∨ ∃ a, x = .bl a) ∧ Q (.bl (!sameB x y)) H) := by
  rintro pins s σ H x y v u Q I rx ry ⟨⟨b, rfl⟩, h, q⟩
  cases ry
  rcases h with rfl | ⟨a, rfl⟩
  · cases rx
    refine wpAny_isNot_plain rfl (fin_bl I q ?_)
    cases b <;> rfl
  · cases rx
    refine wpAny_isNot_plain rfl (fin_bl I q ?_)
    cases a <;> cases b <;> rfl
def D.sameB : D → D → Bool
  | .bl a, .bl b => a == b
  | _, _ => false
def pIsB (x y : D) (M : Hm) (Q : DK) : Prop := (∃ b, y = .bl b) ∧ (x = .non ∨ ∃ a, x = .bl a) ∧ Q (.bl (D.sameB x y)) M
def pNotB (x y : D) (M : Hm) (Q : DK) : Prop := (∃ b, y = .bl b) ∧ (x = .non ∨ ∃ a, x = .bl a) ∧ Q (.bl (!D.sameB x y)) M
section
variable {Z : Zn}
theorem ref_isB : Ref2 Z (fun x y H Q => (∃ b, y = .bl b) ∧ (x = .non ∨ ∃ a, x = .bl a) ∧ Q (.bl (sameB x y)) H) pIsB := by
  rintro F H M d1 d2 v1 v2 QD Q V r1 r2 ⟨⟨b, rfl⟩, h, q⟩ hQ
  cases r2
  rcases h with rfl | ⟨a, rfl⟩
  · cases r1
    exact ⟨⟨b, rfl⟩, .inl rfl, hQ F _ _ M H Ext.rfl' V (.bl _) q⟩
  · cases r1
    exact ⟨⟨b, rfl⟩, .inr ⟨a, rfl⟩, hQ F _ _ M H Ext.rfl' V (.bl _) q⟩
theorem ref_notB : Ref2 Z (fun x y H Q => (∃ b, y = .bl b) ∧ (x = .non ∨ ∃ a, x = .bl a) ∧ Q (.bl (!sameB x y)) H) pNotB := by
  rintro F H M d1 d2 v1 v2 QD Q V r1 r2 ⟨⟨b, rfl⟩, h, q⟩ hQ
  cases r2
  rcases h with rfl | ⟨a, rfl⟩
  · cases r1
    exact ⟨⟨b, rfl⟩, .inl rfl, hQ F _ _ M H Ext.rfl' V (.bl _) q⟩
  · cases r1
    exact ⟨⟨b, rfl⟩, .inr ⟨a, rfl⟩, hQ F _ _ M H Ext.rfl' V (.bl _) q⟩
variable {X : Cx}
theorem oIsB : OpR X (compareOp .Is) (rOf Z pIsB) := by
  rintro pins s τ H x y v u Q I rx ry ⟨F, M, d, e, QD, V0, r1, r2, q, hQ⟩
  exact op_isBv pins s τ H x y v u Q I rx ry (ref_isB F H M d e x y QD Q V0 r1 r2 q hQ)
theorem oNotB : OpR X (compareOp .IsNot) (rOf Z pNotB) := by
  rintro pins s τ H x y v u Q I rx ry ⟨F, M, d, e, QD, V0, r1, r2, q, hQ⟩
  exact op_notBv pins s τ H x y v u Q I rx ry (ref_notB F H M d e x y QD Q V0 r1 r2 q hQ)
end
section
variable {M : Hm} {Q : DK}
theorem g_isB {a b : Bool} (h : Q (.bl (a == b)) M) : pIsB (.bl a) (.bl b) M Q := ⟨⟨b, rfl⟩, .inr ⟨a, rfl⟩, h⟩
theorem g_notB {a b : Bool} (h : Q (.bl (!(a == b))) M) : pNotB (.bl a) (.bl b) M Q := ⟨⟨b, rfl⟩, .inr ⟨a, rfl⟩, h⟩
theorem g_isBN {b : Bool} (h : Q (.bl false) M) : pIsB .non (.bl b) M Q := ⟨⟨b, rfl⟩, .inl rfl, h⟩
theorem g_notBN {b : Bool} (h : Q (.bl true) M) : pNotB .non (.bl b) M Q := ⟨⟨b, rfl⟩, .inl rfl, h⟩
end
end DL
namespace K22
open PySem PySem.Spec PyProof.Rows L2 DL
def top (i : Nat) : Stmt := PySem.Challenge.pw_judgeslip_k22_half_given.main.body.getD i (.Pass ⟨0, 0, 0, 0⟩)
abbrev s_TooGreat_dinit : Stmt := inClass (top 4) 0
abbrev s_Thing_dinit : Stmt := inClass (top 8) 0
abbrev s_Thing_deq : Stmt := inClass (top 8) 1
abbrev s_Thing_dlen : Stmt := inClass (top 8) 2
abbrev s_Thing_head : Stmt := inClass (top 8) 5
abbrev s_Thing_tail : Stmt := inClass (top 8) 6
abbrev s_yes : Stmt := top 9
abbrev s_is_name : Stmt := top 17
abbrev s_rows_of : Stmt := top 18
abbrev s_names_of : Stmt := top 19
abbrev s_has_form : Stmt := top 20
abbrev s_check_row : Stmt := top 21
abbrev s_check_deed : Stmt := top 22
abbrev s_size_of : Stmt := top 23
abbrev s_placed : Stmt := top 24
abbrev s_Program_dinit : Stmt := inClass (top 28) 0
abbrev s_Program_deq : Stmt := inClass (top 28) 1
abbrev s_Program_dlen : Stmt := inClass (top 28) 2
abbrev s_cleared_deed : Stmt := top 31
abbrev s_half_given : Stmt := top 32
abbrev s_Stand_dinit : Stmt := inClass (top 34) 0
abbrev s_Stand_deq : Stmt := inClass (top 34) 1
abbrev s_Run_dinit : Stmt := inClass (top 35) 0
abbrev s_Run_deq : Stmt := inClass (top 35) 1
abbrev s_value_of : Stmt := top 36
abbrev s_go_on : Stmt := top 37
abbrev s_begin : Stmt := top 38
abbrev s_step : Stmt := top 39
abbrev s_run : Stmt := top 40
abbrev s_law_bag : Stmt := top 42
abbrev s_law_take : Stmt := top 43
abbrev s_law_thing : Stmt := top 44
abbrev s_law_name : Stmt := top 45
abbrev s_law_deed : Stmt := top 46
abbrev s_law_deeds : Stmt := top 47
abbrev s_law_top : Stmt := top 48
abbrev s_law_stood : Stmt := top 49
abbrev s_law_nils : Stmt := top 50
abbrev s_law_right : Stmt := top 51
abbrev s_law_great : Stmt := top 52
abbrev s_law_great_right : Stmt := top 53
abbrev s_law : Stmt := top 54
def cs0 : List String := ["Thing", "Program", "Stand", "Run"]
def es0 : List String := ["Thing", "Program", "Stand", "Run"]
abbrev zn (K : PySem.W.Frag) : Zn := znOf K cs0 es0
inductive Fn where
  | TooGreat_dinit | Thing_dinit | Thing_deq | Thing_dlen | Thing_head | Thing_tail | yes | is_name | rows_of | names_of | has_form | check_row | check_deed | size_of | placed | Program_dinit | Program_deq | Program_dlen | cleared_deed | half_given | Stand_dinit | Stand_deq | Run_dinit | Run_deq | value_of | go_on | begin | step | run | law_bag | law_take | law_thing | law_name | law_deed | law_deeds | law_top | law_stood | law_nils | law_right | law_great | law_great_right | law | c_Thing | c_Program | c_Stand | c_Run
abbrev Gs := Nat → Fn → DSp
def qs0 : List String := ["told", "first", "second", "pair", "same", "while", "if"]
def t_ROWS_OF : List (String × Int) := [("while", 1), ("if", 2)]
def t_NAMES_OF : List (String × Int) := [("told", 1), ("first", 2), ("second", 2), ("pair", 3), ("same", 3), ("while", 1), ("if", 1)]
def u_PAIRED : List D := [.str (tx "pair"), .int 0, .int 1, .int 0]
def xs0 : List String := ["TooGreat"]
def ts0 : List String := []
def N_Thing_dinit : List Str := ["self", "first", "second"]
def T_Thing_dinit (g : Gs) (k : Nat) : DTS := (wSeq (wSetA (wVar 0) (wVar 1) "left") (wSeq (wSetA (wVar 0) (wVar 2) "right") (wSeq (wSetA (wVar 0) (wC (.int 0)) "many") (wSeq (wSetA (wVar 0) (wC (.str (tx "."))) "text") (wSeq (wSetA (wVar 0) (wC (.bl false)) "marked") (wSeq (wIf (wB (w2 pNotN (wVar 1) (wC .non))) (wSeq (wSetA (wVar 0) (w2 pAdd (w2 pAdd (wC (.int 1)) (wAttr (wVar 1) "many")) (wAttr (wVar 2) "many")) "many") (wSeq (wIf (wB (w2 (pCmpI fun i j => decide (j < i)) (wAttr (wVar 0) "many") (wC (.int 4000)))) (wSeq (wRaise "TooGreat" "bound" (wC (.int 4000))) wSkip) wSkip) (wSeq (wSetA (wVar 0) (wJs [(wC (.str (tx "("))), (wFmt (wAttr (wVar 1) "text")), (wFmt (wAttr (wVar 2) "text")), (wC (.str (tx ")")))] []) "text") (wSeq (wSetA (wVar 0) (wOrV (wAttr (wVar 1) "marked") (wAttr (wVar 2) "marked")) "marked") wSkip)))) wSkip) wSkip))))))
def N_Thing_deq : List Str := ["self", "other"]
def T_Thing_deq (g : Gs) (k : Nat) : DTS := (wSeq (wRet (wAndV (wIsi true "Thing" (wVar 1)) (w2 (pEq es0 (k + 3) false) (wAttr (wVar 0) "text") (wAttr (wVar 1) "text")))) wSkip)
def N_Thing_dlen : List Str := ["self"]
def T_Thing_dlen (g : Gs) (k : Nat) : DTS := (wSeq (wRet (wLenR (wCons (wAttr (wVar 0) "many") wNil))) wSkip)
def N_Thing_head : List Str := ["self"]
def T_Thing_head (g : Gs) (k : Nat) : DTS := (wSeq (wRet (wIte (wB (w2 pNotN (wAttr (wVar 0) "left") (wC .non))) (wAttr (wVar 0) "left") (wCall 0 0 [.dfl .non, .dfl .non] (g 0 .c_Thing) wNil wNil))) wSkip)
def N_Thing_tail : List Str := ["self"]
def T_Thing_tail (g : Gs) (k : Nat) : DTS := (wSeq (wRet (wIte (wB (w2 pNotN (wAttr (wVar 0) "right") (wC .non))) (wAttr (wVar 0) "right") (wCall 0 0 [.dfl .non, .dfl .non] (g 0 .c_Thing) wNil wNil))) wSkip)
def N_yes : List Str := []
def T_yes (g : Gs) (k : Nat) : DTS := (wSeq (wRet (wCall 2 0 [.arg 0, .arg 1] (g 0 .c_Thing) (wCons (wCall 0 0 [.dfl .non, .dfl .non] (g 0 .c_Thing) wNil wNil) (wCons (wCall 0 0 [.dfl .non, .dfl .non] (g 0 .c_Thing) wNil wNil) wNil)) wNil)) wSkip)
def N_is_name : List Str := ["thing"]
def T_is_name (g : Gs) (k : Nat) : DTS := (wSeq (wRet (wAndV (wIsi false "int" (wVar 0)) (wAndV (wNotV (wIsi false "bool" (wVar 0))) (wChain (pCmpI fun i j => decide (i ≤ j)) (pCmpI fun i j => decide (i < j)) (wC (.int 0)) (wVar 0) (wC (.int 10)))))) wSkip)
def N_rows_of : List Str := ["deed"]
def T_rows_of (g : Gs) (k : Nat) : DTS := (wSeq (wRet (wIte (wB (wTin false qs0 t_ROWS_OF (w2 pIdx (wVar 0) (wC (.int 0))))) (wSlice (wVar 0) (wPart (wC (.int 2))) wNo) (wTup wNil))) wSkip)
def N_names_of : List Str := ["deed"]
def T_names_of (g : Gs) (k : Nat) : DTS := (wSeq (wRet (wSlice (wVar 0) (wPart (wC (.int 1))) (wPart (w2 pAdd (wC (.int 1)) (wTix qs0 t_NAMES_OF (w2 pIdx (wVar 0) (wC (.int 0)))))))) wSkip)
def N_has_form : List Str := ["thing", "deep", "kind", "many", "name", "row"]
def T_has_form (g : Gs) (k : Nat) : DTS := (wSeq (wIf (wOr (wNot (wB (wIsi false "tuple" (wVar 0)))) (wOr (wB (w2 (pEq es0 (k + 3) false) (wVar 0) (wTup wNil))) (wOr (wNot (wB (wIsi false "str" (w2 pIdx (wVar 0) (wC (.int 0)))))) (wB (wTin true qs0 t_NAMES_OF (w2 pIdx (wVar 0) (wC (.int 0)))))))) (wSeq (wRet (wC (.bl false))) wSkip) wSkip) (wSeq (wAsg (w2 pIdx (wVar 0) (wC (.int 0))) (wName 2)) (wSeq (wAsg (w2 pAdd (w2 pAdd (w2 pAdd (wC (.int 1)) (wTix qs0 t_NAMES_OF (wVar 2))) (wTget qs0 t_ROWS_OF 0 (wVar 2))) (wCallP (fun ds M Q _ => pInt ds M Q) (wCons (w2 (pEq es0 (k + 3) false) (wVar 2) (wC (.str (tx "told")))) wNil))) (wName 3)) (wSeq (wIf (wOr (wB (w2 (pNe es0 (k + 2)) (wCallP (pLen [("Thing", g 1 .Thing_dlen), ("Program", g 1 .Program_dlen)]) (wCons (wVar 0) wNil)) (wVar 3))) (wNot (wB (wCallP (fun ds M Q _ => pAll ds M Q) (wCons (wComp (wItV (wCall 1 0 [.arg 0] (g 0 .names_of) (wCons (wVar 0) wNil) wNil)) (wName 4) wYes (wCall 1 0 [.arg 0] (g 0 .is_name) (wCons (wVar 4) wNil) wNil) [4]) wNil))))) (wSeq (wRet (wC (.bl false))) wSkip) wSkip) (wSeq (wIf (wB (w2 (pEq es0 (k + 3) false) (wVar 2) (wC (.str (tx "told"))))) (wSeq (wRet (wIsi true "Thing" (w2 pIdx (wVar 0) (wC (.int 2))))) wSkip) wSkip) (wSeq (wIf (wB (wTin false qs0 t_ROWS_OF (wVar 2))) (wSeq (wRet (wAndV (w2 (pCmpI fun i j => decide (i ≤ j)) (wVar 1) (wC (.int 8))) (wCallP (fun ds M Q _ => pAll ds M Q) (wCons (wComp (wItV (wSlice (wVar 0) (wPart (wC (.int 2))) wNo)) (wName 5) wYes (wIsi false "tuple" (wVar 5)) [5]) wNil)))) wSkip) wSkip) (wSeq (wRet (wC (.bl true))) wSkip)))))))
def N_check_row : List Str := ["row", "deep", "at", "deed"]
def B_check_row_0 (g : Gs) (k : Nat) : DTS := (wSeq (wAsg (wCall 3 0 [.arg 0, .arg 1, .arg 2] (g 0 .check_deed) (wCons (wVar 3) (wCons (wVar 1) (wCons (wVar 2) wNil))) wNil) (wName 2)) wSkip)
def T_check_row (g : Gs) (k : Nat) : DTS := (wSeq (wFor (wItV (wVar 0)) (wName 3) (B_check_row_0 g k)) (wSeq (wRet (wVar 2)) wSkip))
def N_check_deed : List Str := ["deed", "deep", "at", "row"]
def B_check_deed_0 (g : Gs) (k : Nat) : DTS := (wSeq (wAsg (wCall 3 0 [.arg 0, .arg 1, .arg 2] (g 0 .check_row) (wCons (wVar 3) (wCons (w2 pAdd (wVar 1) (wC (.int 1))) (wCons (wVar 2) wNil))) wNil) (wName 2)) wSkip)
def T_check_deed (g : Gs) (k : Nat) : DTS := (wSeq (wIf (wOr (wB (w2 (pCmpI fun i j => decide (j ≤ i)) (wVar 2) (wC (.int 4000)))) (wNot (wB (wCall 2 0 [.arg 0, .arg 1] (g 0 .has_form) (wCons (wVar 0) (wCons (wVar 1) wNil)) wNil)))) (wSeq wOut wSkip) wSkip) (wSeq (wAug 2 (wC (.int 1)) pIAdd) (wSeq (wFor (wItV (wCall 1 0 [.arg 0] (g 0 .rows_of) (wCons (wVar 0) wNil) wNil)) (wName 3) (B_check_deed_0 g k)) (wSeq (wRet (wVar 2)) wSkip))))
def N_size_of : List Str := ["row", "deed", "inner"]
def T_size_of (g : Gs) (k : Nat) : DTS := (wSeq (wRet (w2 pAdd (wCallP (pLen [("Thing", g 1 .Thing_dlen), ("Program", g 1 .Program_dlen)]) (wCons (wVar 0) wNil)) (wCallP (fun ds M Q _ => pSum ds M Q) (wCons (wComp (wItV (wVar 0)) (wName 1) wYes (wCallP (fun ds M Q _ => pSum ds M Q) (wCons (wComp (wItV (wCall 1 0 [.arg 0] (g 0 .rows_of) (wCons (wVar 1) wNil) wNil)) (wName 2) wYes (wCall 1 0 [.arg 0] (g 0 .size_of) (wCons (wVar 2) wNil) wNil) [2]) wNil)) [1]) wNil)))) wSkip)
def N_placed : List Str := ["row", "at", "behind", "found", "k", "deed", "rows", "far", "after", "begins", "begin", "inner"]
def B_placed_0 (g : Gs) (k : Nat) : DTS := (wSeq (wDrop (wMt "list" pAppend (wVar 9) (wCons (wIte (wB (w2 (pNe es0 (k + 2)) (wVar 11) (wTup wNil))) (wVar 10) (wIte (wB (w2 (pEq es0 (k + 3) false) (w2 pIdx (wVar 5) (wC (.int 0))) (wC (.str (tx "while"))))) (wVar 1) (wVar 8))) wNil))) (wSeq (wAug 10 (wCall 1 0 [.arg 0] (g 0 .size_of) (wCons (wVar 11) wNil) wNil) pIAdd) wSkip))
def B_placed_1 (g : Gs) (k : Nat) : DTS := (wSeq (wDrop (wCall 4 0 [.arg 0, .arg 1, .arg 2, .arg 3] (g 0 .placed) (wCons (wVar 11) (wCons (wVar 10) (wCons (wIte (wB (w2 (pEq es0 (k + 3) false) (w2 pIdx (wVar 5) (wC (.int 0))) (wC (.str (tx "while"))))) (wVar 1) (wVar 8)) (wCons (wVar 3) wNil)))) wNil)) (wSeq (wAug 10 (wCall 1 0 [.arg 0] (g 0 .size_of) (wCons (wVar 11) wNil) wNil) pIAdd) wSkip))
def B_placed_2 (g : Gs) (k : Nat) : DTS := (wSeq (wAsg (wCall 1 0 [.arg 0] (g 0 .rows_of) (wCons (wVar 5) wNil) wNil) (wName 6)) (wSeq (wAsg (w2 pAdd (w2 pAdd (wVar 1) (wC (.int 1))) (wCallP (fun ds M Q _ => pSum ds M Q) (wCons (wComp (wItV (wVar 6)) (wName 11) wYes (wCall 1 0 [.arg 0] (g 0 .size_of) (wCons (wVar 11) wNil) wNil) [11]) wNil))) (wName 7)) (wSeq (wAsg (wIte (wB (w2 (pCmpI fun i j => decide (i < j)) (w2 pAdd (wVar 4) (wC (.int 1))) (wCallP (pLen [("Thing", g 1 .Thing_dlen), ("Program", g 1 .Program_dlen)]) (wCons (wVar 0) wNil)))) (wVar 7) (wVar 2)) (wName 8)) (wSeq (wAsg (wLst wNil) (wName 9)) (wSeq (wAsg (w2 pAdd (wVar 1) (wC (.int 1))) (wName 10)) (wSeq (wFor (wItV (wVar 6)) (wName 11) (B_placed_0 g k)) (wSeq (wAug 9 (wLst (wCons (wVar 8) (wCons (wVar 8) wNil))) pIAdd) (wSeq (wDrop (wMt "list" pAppend (wVar 3) (wCons (wTup (wCons (wVar 5) (wCons (wVar 8) (wCons (w2 pIdx (wVar 9) (wC (.int 0))) (wCons (w2 pIdx (wVar 9) (wC (.int 1))) wNil))))) wNil))) (wSeq (wAsg (w2 pAdd (wVar 1) (wC (.int 1))) (wName 10)) (wSeq (wFor (wItV (wVar 6)) (wName 11) (B_placed_1 g k)) (wSeq (wAsg (wVar 7) (wName 1)) wSkip)))))))))))
def T_placed (g : Gs) (k : Nat) : DTS := (wSeq (wFor (wEnum (wCons (wVar 0) wNil)) (wNames [4, 5]) (B_placed_2 g k)) wSkip)
def N_Program_dinit : List Str := ["self", "deeds", "many", "found"]
def T_Program_dinit (g : Gs) (k : Nat) : DTS := (wSeq (wIf (wNot (wB (wIsi false "tuple" (wVar 1)))) (wSeq wOut wSkip) wSkip) (wSeq (wAsg (wCall 3 0 [.arg 0, .arg 1, .arg 2] (g 0 .check_row) (wCons (wVar 1) (wCons (wC (.int 1)) (wCons (wC (.int 0)) wNil))) wNil) (wName 2)) (wSeq (wAsg (wLst wNil) (wName 3)) (wSeq (wDrop (wCall 4 0 [.arg 0, .arg 1, .arg 2, .arg 3] (g 0 .placed) (wCons (wVar 1) (wCons (wC (.int 0)) (wCons (wVar 2) (wCons (wVar 3) wNil)))) wNil)) (wSeq (wSetA (wVar 0) (wVar 1) "deeds") (wSeq (wSetA (wVar 0) (wCallP (fun ds M Q _ => pTuple ds M Q) (wCons (wVar 3) wNil)) "order") wSkip))))))
def N_Program_deq : List Str := ["self", "other"]
def T_Program_deq (g : Gs) (k : Nat) : DTS := (wSeq (wRet (wAndV (wIsi true "Program" (wVar 1)) (w2 (pEq es0 (k + 3) false) (wAttr (wVar 0) "deeds") (wAttr (wVar 1) "deeds")))) wSkip)
def N_Program_dlen : List Str := ["self"]
def T_Program_dlen (g : Gs) (k : Nat) : DTS := (wSeq (wRet (wCallP (pLen [("Thing", g 1 .Thing_dlen), ("Program", g 1 .Program_dlen)]) (wCons (wAttr (wVar 0) "order") wNil))) wSkip)
def N_cleared_deed : List Str := ["name"]
def T_cleared_deed (g : Gs) (k : Nat) : DTS := (wSeq (wRet (wTup (wCons (wC (.str (tx "told"))) (wCons (wVar 0) (wCons (wCall 0 0 [.dfl .non, .dfl .non] (g 0 .c_Thing) wNil wNil) wNil))))) wSkip)
def N_half_given : List Str := ["program", "thing"]
def T_half_given (g : Gs) (k : Nat) : DTS := (wSeq (wRet (wCall 1 0 [.arg 0] (g 0 .c_Program) (wCons (w2 pAdd (wTup (wCons (wTup (wCons (wC (.str (tx "told"))) (wCons (wC (.int 1)) (wCons (wVar 1) wNil)))) (wCons (wC (.tup u_PAIRED)) (wCons (wCall 1 0 [.arg 0] (g 0 .cleared_deed) (wCons (wC (.int 1)) wNil) wNil) wNil)))) (wAttr (wVar 0) "deeds")) wNil) wNil)) wSkip)
def N_Stand_dinit : List Str := ["self", "point", "names"]
def T_Stand_dinit (g : Gs) (k : Nat) : DTS := (wSeq (wSetA (wVar 0) (wVar 1) "point") (wSeq (wSetA (wVar 0) (wVar 2) "names") wSkip))
def N_Stand_deq : List Str := ["self", "other"]
def T_Stand_deq (g : Gs) (k : Nat) : DTS := (wSeq (wRet (wAndV (wIsi true "Stand" (wVar 1)) (wAndV (w2 (pEq es0 (k + 3) false) (wAttr (wVar 0) "point") (wAttr (wVar 1) "point")) (w2 (pEq es0 (k + 3) false) (wAttr (wVar 0) "names") (wAttr (wVar 1) "names"))))) wSkip)
def N_Run_dinit : List Str := ["self", "word", "steps", "thing"]
def T_Run_dinit (g : Gs) (k : Nat) : DTS := (wSeq (wSetA (wVar 0) (wVar 1) "word") (wSeq (wSetA (wVar 0) (wVar 2) "steps") (wSeq (wSetA (wVar 0) (wVar 3) "thing") wSkip)))
def N_Run_deq : List Str := ["self", "other"]
def T_Run_deq (g : Gs) (k : Nat) : DTS := (wSeq (wIf (wNot (wB (wIsi true "Run" (wVar 1)))) (wSeq (wRet (wC (.bl false))) wSkip) wSkip) (wSeq (wRet (w2 (pEq es0 (k + 3) false) (wTup (wCons (wAttr (wVar 0) "word") (wCons (wAttr (wVar 0) "steps") (wCons (wAttr (wVar 0) "thing") wNil)))) (wTup (wCons (wAttr (wVar 1) "word") (wCons (wAttr (wVar 1) "steps") (wCons (wAttr (wVar 1) "thing") wNil)))))) wSkip))
def N_value_of : List Str := ["deed", "names"]
def T_value_of (g : Gs) (k : Nat) : DTS := (wSeq (wIf (wB (w2 (pEq es0 (k + 3) false) (w2 pIdx (wVar 0) (wC (.int 0))) (wC (.str (tx "told"))))) (wSeq (wRet (w2 pIdx (wVar 0) (wC (.int 2)))) wSkip) wSkip) (wSeq (wIf (wB (w2 (pEq es0 (k + 3) false) (w2 pIdx (wVar 0) (wC (.int 0))) (wC (.str (tx "first"))))) (wSeq (wRet (wMeth "Thing" "head" 0 [.arg 0] (g 0 .Thing_head) (w2 pIdx (wVar 1) (w2 pIdx (wVar 0) (wC (.int 2)))) wNil)) wSkip) wSkip) (wSeq (wIf (wB (w2 (pEq es0 (k + 3) false) (w2 pIdx (wVar 0) (wC (.int 0))) (wC (.str (tx "second"))))) (wSeq (wRet (wMeth "Thing" "tail" 0 [.arg 0] (g 0 .Thing_tail) (w2 pIdx (wVar 1) (w2 pIdx (wVar 0) (wC (.int 2)))) wNil)) wSkip) wSkip) (wSeq (wIf (wB (w2 (pEq es0 (k + 3) false) (w2 pIdx (wVar 0) (wC (.int 0))) (wC (.str (tx "pair"))))) (wSeq (wRet (wCall 2 0 [.arg 0, .arg 1] (g 0 .c_Thing) (wCons (w2 pIdx (wVar 1) (w2 pIdx (wVar 0) (wC (.int 2)))) (wCons (w2 pIdx (wVar 1) (w2 pIdx (wVar 0) (wC (.int 3)))) wNil)) wNil)) wSkip) wSkip) (wSeq (wRet (wIte (wB (w2 (pEq es0 (k + 3) false) (w2 pIdx (wVar 1) (w2 pIdx (wVar 0) (wC (.int 2)))) (w2 pIdx (wVar 1) (w2 pIdx (wVar 0) (wC (.int 3)))))) (wCall 0 0 [] (g 0 .yes) wNil wNil) (wCall 0 0 [.dfl .non, .dfl .non] (g 0 .c_Thing) wNil wNil))) wSkip)))))
def N_go_on : List Str := ["program", "point", "names", "deed", "behind", "inside", "other"]
def T_go_on (g : Gs) (k : Nat) : DTS := (wSeq (wAsg (w2 pIdx (wAttr (wVar 0) "order") (wVar 1)) (wNames [3, 4, 5, 6])) (wSeq (wIf (wB (w2 (pEq es0 (k + 3) false) (w2 pIdx (wVar 3) (wC (.int 0))) (wC (.str (tx "while"))))) (wSeq (wRet (wIte (wB (w2 pNotN (wAttr (w2 pIdx (wVar 2) (w2 pIdx (wVar 3) (wC (.int 1)))) "left") (wC .non))) (wVar 5) (wVar 4))) wSkip) wSkip) (wSeq (wIf (wB (w2 (pEq es0 (k + 3) false) (w2 pIdx (wVar 3) (wC (.int 0))) (wC (.str (tx "if"))))) (wSeq (wRet (wIte (wB (w2 pNotN (wAttr (w2 pIdx (wVar 2) (w2 pIdx (wVar 3) (wC (.int 1)))) "left") (wC .non))) (wVar 5) (wVar 6))) wSkip) wSkip) (wSeq (wAsg (wCall 2 0 [.arg 0, .arg 1] (g 0 .value_of) (wCons (wVar 3) (wCons (wVar 2) wNil)) wNil) (wSub (wVar 2) (w2 pIdx (wVar 3) (wC (.int 1))) pSetL)) (wSeq (wRet (wVar 4)) wSkip)))))
def N_begin : List Str := ["program", "thing", "k"]
def T_begin (g : Gs) (k : Nat) : DTS := (wSeq (wRet (wCall 2 0 [.arg 0, .arg 1] (g 0 .c_Stand) (wCons (wC (.int 0)) (wCons (w2 pAdd (wTup (wCons (wVar 1) wNil)) (wCallP (fun ds M Q _ => pTuple ds M Q) (wCons (wComp (wRng1 (wCons (w2 pSub (wC (.int 10)) (wC (.int 1))) wNil)) (wName 2) wYes (wCall 0 0 [.dfl .non, .dfl .non] (g 0 .c_Thing) wNil wNil) [2]) wNil))) wNil)) wNil)) wSkip)
def N_step : List Str := ["program", "stand", "names", "point"]
def T_step (g : Gs) (k : Nat) : DTS := (wSeq (wIf (wB (w2 (pCmpI fun i j => decide (j ≤ i)) (wAttr (wVar 1) "point") (wCallP (pLen [("Thing", g 1 .Thing_dlen), ("Program", g 1 .Program_dlen)]) (wCons (wVar 0) wNil)))) (wSeq wOut wSkip) wSkip) (wSeq (wAsg (wCallP (fun ds M Q _ => pList ds M Q) (wCons (wAttr (wVar 1) "names") wNil)) (wName 2)) (wSeq (wAsg (wCall 3 0 [.arg 0, .arg 1, .arg 2] (g 0 .go_on) (wCons (wVar 0) (wCons (wAttr (wVar 1) "point") (wCons (wVar 2) wNil))) wNil) (wName 3)) (wSeq (wRet (wCall 2 0 [.arg 0, .arg 1] (g 0 .c_Stand) (wCons (wVar 3) (wCons (wCallP (fun ds M Q _ => pTuple ds M Q) (wCons (wVar 2) wNil)) wNil)) wNil)) wSkip))))
def N_run : List Str := ["program", "thing", "budget", "names", "point", "steps"]
def B_run_0 (g : Gs) (k : Nat) : DTS := (wSeq (wIf (wB (w2 (pCmpI fun i j => decide (j ≤ i)) (wVar 4) (wCallP (pLen [("Thing", g 1 .Thing_dlen), ("Program", g 1 .Program_dlen)]) (wCons (wVar 0) wNil)))) (wSeq (wRet (wCall 3 0 [.arg 0, .arg 1, .arg 2] (g 0 .c_Run) (wCons (wC (.str (tx "ended"))) (wCons (wVar 5) (wCons (w2 pIdx (wVar 3) (wC (.int 0))) wNil))) wNil)) wSkip) wSkip) (wSeq (wIf (wB (w2 (pCmpI fun i j => decide (i < j)) (wVar 5) (wVar 2))) (wSeq (wTry0 xs0 (fun y => y == "TooGreat") (wSeq (wAsg (wCall 3 0 [.arg 0, .arg 1, .arg 2] (g 0 .go_on) (wCons (wVar 0) (wCons (wVar 4) (wCons (wVar 3) wNil))) wNil) (wName 4)) wSkip) (wSeq (wRet (wCall 2 0 [.arg 0, .arg 1, .dfl .non] (pMakeF "Run" (wBody N_Run_dinit (T_Run_dinit g k))) (wCons (wC (.str (tx "great"))) (wCons (wVar 5) wNil)) wNil)) wSkip)) wSkip) wSkip) wSkip))
def T_run (g : Gs) (k : Nat) : DTS := (wSeq (wAsg (wCallP (fun ds M Q _ => pList ds M Q) (wCons (wAttr (wCall 2 0 [.arg 0, .arg 1] (g 0 .begin) (wCons (wVar 0) (wCons (wVar 1) wNil)) wNil) "names") wNil)) (wName 3)) (wSeq (wAsg (wC (.int 0)) (wName 4)) (wSeq (wFor (wRng1 (wCons (w2 pAdd (wVar 2) (wC (.int 1))) wNil)) (wName 5) (B_run_0 g k)) (wSeq (wRet (wCall 2 0 [.arg 0, .arg 1, .dfl .non] (g 0 .c_Run) (wCons (wC (.str (tx "open"))) (wCons (wVar 2) wNil)) wNil)) wSkip))))
def N_law_bag : List Str := ["_law_script", "_law_at", "_law_cell", "_law_prime"]
def T_law_bag (g : Gs) (k : Nat) : DTS := (wSeq (wAsg (wC (.int 0)) (wName 2)) (wSeq (wIf (wB (w2 (pCmpI fun i j => decide (i < j)) (wVar 1) (wCallP (pLen [("Thing", g 1 .Thing_dlen), ("Program", g 1 .Program_dlen)]) (wCons (wVar 0) wNil)))) (wSeq (wAsg (wCallP (fun ds M Q _ => pAbs ds M Q) (wCons (w2 pIdx (wVar 0) (wVar 1)) wNil)) (wName 2)) wSkip) wSkip) (wSeq (wAsg (w2 pIdx (wLst (wCons (wC (.int 2147483629)) (wCons (wC (.int 2147483587)) (wCons (wC (.int 2147483579)) (wCons (wC (.int 2147483563)) (wCons (wC (.int 2147483549)) (wCons (wC (.int 2147483543)) (wCons (wC (.int 2147483497)) (wCons (wC (.int 2147483489)) wNil))))))))) (w2 pMod (wVar 1) (wC (.int 8)))) (wName 3)) (wSeq (wRet (wLst (wCons (w2 pMulL (wVar 2) (wCallP (fun ds M Q _ => pInt ds M Q) (wCons (w2 (pCmpI fun i j => decide (j ≤ i)) (wVar 2) (w2 pPow (wC (.int 10)) (wC (.int 18)))) wNil))) (wCons (w2 pMod (w2 pPow (w2 pAdd (w2 pAdd (w2 pMod (wVar 2) (wC (.int 2147483647))) (w2 pMulL (wC (.int 104729)) (wVar 1))) (wC (.int 7))) (wC (.int 5))) (wVar 3)) (wCons (wVar 3) (wCons (wC (.int 0)) wNil)))))) wSkip))))
def N_law_take : List Str := ["_law_bag_here", "_law_many", "_law_digit"]
def T_law_take (g : Gs) (k : Nat) : DTS := (wSeq (wIf (wB (w2 (pCmpI fun i j => decide (j < i)) (w2 pIdx (wVar 0) (wC (.int 0))) (wC (.int 0)))) (wSeq (wAsg (w2 pMod (w2 pIdx (wVar 0) (wC (.int 0))) (wVar 1)) (wName 2)) (wSeq (wAsg (w2 pFdiv (w2 pIdx (wVar 0) (wC (.int 0))) (wVar 1)) (wSub (wVar 0) (wC (.int 0)) pSetL)) (wSeq (wRet (wVar 2)) wSkip))) wSkip) (wSeq (wAsg (w2 pAdd (w2 pIdx (wVar 0) (wC (.int 3))) (wC (.int 1))) (wSub (wVar 0) (wC (.int 3)) pSetL)) (wSeq (wAsg (w2 pMod (w2 pAdd (w2 pAdd (w2 pMulL (w2 pIdx (wVar 0) (wC (.int 1))) (wC (.int 48271))) (w2 pMulL (wC (.int 7919)) (w2 pIdx (wVar 0) (wC (.int 3))))) (wC (.int 11))) (w2 pIdx (wVar 0) (wC (.int 2)))) (wSub (wVar 0) (wC (.int 1)) pSetL)) (wSeq (wRet (w2 pMod (w2 pMod (w2 pPow (w2 pFdiv (w2 pIdx (wVar 0) (wC (.int 1))) (wC (.int 8))) (wC (.int 3))) (wC (.int 2147483629))) (wVar 1))) wSkip))))
def N_law_thing : List Str := ["_law_bag_here", "_law_many", "_law_some", "_law_at", "_law_k"]
def B_law_thing_0 (g : Gs) (k : Nat) : DTS := (wSeq (wAsg (wCall 2 0 [.arg 0, .arg 1] (g 0 .law_take) (wCons (wVar 0) (wCons (w2 pSub (wCallP (pLen [("Thing", g 1 .Thing_dlen), ("Program", g 1 .Program_dlen)]) (wCons (wVar 2) wNil)) (wC (.int 1))) wNil)) wNil) (wName 3)) (wSeq (wAsg (wLst (wCons (wCall 2 0 [.arg 0, .arg 1] (g 0 .c_Thing) (wCons (w2 pIdx (wVar 2) (wVar 3)) (wCons (w2 pIdx (wVar 2) (w2 pAdd (wVar 3) (wC (.int 1)))) wNil)) wNil) wNil)) (wSetSl (wVar 2) (wPart (wVar 3)) (wPart (w2 pAdd (wVar 3) (wC (.int 2)))))) wSkip))
def T_law_thing (g : Gs) (k : Nat) : DTS := (wSeq (wAsg (wComp (wRng1 (wCons (w2 pAdd (wVar 1) (wC (.int 1))) wNil)) (wName 4) wYes (wCall 0 0 [.dfl .non, .dfl .non] (g 0 .c_Thing) wNil wNil) [4]) (wName 2)) (wSeq (wWhile (wB (w2 (pCmpI fun i j => decide (j < i)) (wCallP (pLen [("Thing", g 1 .Thing_dlen), ("Program", g 1 .Program_dlen)]) (wCons (wVar 2) wNil)) (wC (.int 1)))) (B_law_thing_0 g k)) (wSeq (wRet (w2 pIdx (wVar 2) (wC (.int 0)))) wSkip)))
def N_law_name : List Str := ["_law_bag_here"]
def T_law_name (g : Gs) (k : Nat) : DTS := (wSeq (wIf (wB (w2 (pEq es0 (k + 3) false) (wCall 2 0 [.arg 0, .arg 1] (g 0 .law_take) (wCons (wVar 0) (wCons (wC (.int 12)) wNil)) wNil) (wC (.int 0)))) (wSeq (wRet (wCall 2 0 [.arg 0, .arg 1] (g 0 .law_take) (wCons (wVar 0) (wCons (wC (.int 10)) wNil)) wNil)) wSkip) wSkip) (wSeq (wRet (w2 pIdx (wLst (wCons (wC (.int 0)) (wCons (wC (.int 0)) (wCons (wC (.int 0)) (wCons (wC (.int 1)) (wCons (wC (.int 1)) (wCons (wC (.int 2)) (wCons (wC (.int 2)) (wCons (wC (.int 3)) wNil))))))))) (wCall 2 0 [.arg 0, .arg 1] (g 0 .law_take) (wCons (wVar 0) (wCons (wC (.int 8)) wNil)) wNil))) wSkip))
def N_law_deed : List Str := ["_law_bag_here", "_law_left", "_law_deep", "_law_way", "_law_a", "_law_b", "_law_c", "_law_kind", "_law_inner"]
def T_law_deed (g : Gs) (k : Nat) : DTS := (wSeq (wAsg (wCall 2 0 [.arg 0, .arg 1] (g 0 .law_take) (wCons (wVar 0) (wCons (wC (.int 12)) wNil)) wNil) (wName 3)) (wSeq (wPar3 4 5 6 (wCons (wCall 1 0 [.arg 0] (g 0 .law_name) (wCons (wVar 0) wNil) wNil) (wCons (wCall 1 0 [.arg 0] (g 0 .law_name) (wCons (wVar 0) wNil) wNil) (wCons (wCall 1 0 [.arg 0] (g 0 .law_name) (wCons (wVar 0) wNil) wNil) wNil)))) (wSeq (wIf (wB (w2 (pCmpI fun i j => decide (i < j)) (wVar 3) (wC (.int 2)))) (wSeq (wRet (wTup (wCons (wC (.str (tx "told"))) (wCons (wVar 4) (wCons (wCall 2 0 [.arg 0, .arg 1] (g 0 .law_thing) (wCons (wVar 0) (wCons (wCall 2 0 [.arg 0, .arg 1] (g 0 .law_take) (wCons (wVar 0) (wCons (wC (.int 4)) wNil)) wNil) wNil)) wNil) wNil))))) wSkip) wSkip) (wSeq (wIf (wOr (wB (w2 (pCmpI fun i j => decide (i < j)) (wVar 3) (wC (.int 8)))) (wB (w2 (pCmpI fun i j => decide (j < i)) (wVar 2) (wC (.int 4))))) (wSeq (wAsg (w2 pIdx (wLst (wCons (wC (.str (tx "first"))) (wCons (wC (.str (tx "second"))) (wCons (wC (.str (tx "second"))) (wCons (wC (.str (tx "pair"))) (wCons (wC (.str (tx "pair"))) (wCons (wC (.str (tx "same"))) wNil))))))) (w2 pMod (wVar 3) (wC (.int 6)))) (wName 7)) (wSeq (wRet (wSlice (wTup (wCons (wVar 7) (wCons (wVar 4) (wCons (wVar 5) (wCons (wVar 6) wNil))))) wNo (wPart (w2 pAdd (wC (.int 3)) (wCallP (fun ds M Q _ => pInt ds M Q) (wCons (w2 (pIn es0 (k + 2) false) (wVar 7) (wTup (wCons (wC (.str (tx "pair"))) (wCons (wC (.str (tx "same"))) wNil)))) wNil)))))) wSkip)) wSkip) (wSeq (wAsg (wCall 3 0 [.arg 0, .arg 1, .arg 2] (g 0 .law_deeds) (wCons (wVar 0) (wCons (wVar 1) (wCons (w2 pAdd (wVar 2) (wC (.int 1))) wNil))) wNil) (wName 8)) (wSeq (wIf (wB (w2 (pCmpI fun i j => decide (i < j)) (wVar 3) (wC (.int 10)))) (wSeq (wIf (wB (w2 (pCmpI fun i j => decide (j < i)) (wCall 2 0 [.arg 0, .arg 1] (g 0 .law_take) (wCons (wVar 0) (wCons (wC (.int 5)) wNil)) wNil) (wC (.int 0)))) (wSeq (wAsg (w2 pAdd (wVar 8) (wTup (wCons (wTup (wCons (wC (.str (tx "second"))) (wCons (wVar 4) (wCons (wVar 4) wNil)))) wNil))) (wName 8)) wSkip) wSkip) (wSeq (wRet (wTup (wCons (wC (.str (tx "while"))) (wCons (wVar 4) (wCons (wVar 8) wNil))))) wSkip)) wSkip) (wSeq (wRet (wTup (wCons (wC (.str (tx "if"))) (wCons (wVar 4) (wCons (wVar 8) (wCons (wCall 3 0 [.arg 0, .arg 1, .arg 2] (g 0 .law_deeds) (wCons (wVar 0) (wCons (wVar 1) (wCons (w2 pAdd (wVar 2) (wC (.int 1))) wNil))) wNil) wNil)))))) wSkip)))))))
def N_law_deeds : List Str := ["_law_bag_here", "_law_left", "_law_deep", "_law_found", "_law_turn"]
def B_law_deeds_0 (g : Gs) (k : Nat) : DTS := (wSeq (wIf (wB (w2 (pCmpI fun i j => decide (j < i)) (w2 pIdx (wVar 1) (wC (.int 0))) (wC (.int 0)))) (wSeq (wAsg (w2 pSub (w2 pIdx (wVar 1) (wC (.int 0))) (wC (.int 1))) (wSub (wVar 1) (wC (.int 0)) pSetL)) (wSeq (wDrop (wMt "list" pAppend (wVar 3) (wCons (wCall 3 0 [.arg 0, .arg 1, .arg 2] (g 0 .law_deed) (wCons (wVar 0) (wCons (wVar 1) (wCons (wVar 2) wNil))) wNil) wNil))) wSkip)) wSkip) wSkip)
def T_law_deeds (g : Gs) (k : Nat) : DTS := (wSeq (wAsg (wLst wNil) (wName 3)) (wSeq (wFor (wRng1 (wCons (wCall 2 0 [.arg 0, .arg 1] (g 0 .law_take) (wCons (wVar 0) (wCons (wC (.int 6)) wNil)) wNil) wNil)) (wName 4) (B_law_deeds_0 g k)) (wSeq (wRet (wCallP (fun ds M Q _ => pTuple ds M Q) (wCons (wVar 3) wNil))) wSkip)))
def N_law_top : List Str := ["_law_bag_here", "_law_many", "_law_left"]
def T_law_top (g : Gs) (k : Nat) : DTS := (wSeq (wAsg (wLst (wCons (wVar 1) wNil)) (wName 2)) (wSeq (wRet (w2 pAdd (wCall 3 0 [.arg 0, .arg 1, .arg 2] (g 0 .law_deeds) (wCons (wVar 0) (wCons (wVar 2) (wCons (wC (.int 1)) wNil))) wNil) (wCall 3 0 [.arg 0, .arg 1, .arg 2] (g 0 .law_deeds) (wCons (wVar 0) (wCons (wVar 2) (wCons (wC (.int 1)) wNil))) wNil))) wSkip))
def N_law_stood : List Str := ["_law_made", "_law_some", "_law_count", "_law_found", "_law_turn"]
def B_law_stood_0 (g : Gs) (k : Nat) : DTS := (wSeq (wAsg (wCall 2 0 [.arg 0, .arg 1] (g 0 .step) (wCons (wVar 0) (wCons (wVar 3) wNil)) wNil) (wName 3)) wSkip)
def T_law_stood (g : Gs) (k : Nat) : DTS := (wSeq (wAsg (wCall 2 0 [.arg 0, .arg 1] (g 0 .begin) (wCons (wVar 0) (wCons (wVar 1) wNil)) wNil) (wName 3)) (wSeq (wFor (wRng1 (wCons (wVar 2) wNil)) (wName 4) (B_law_stood_0 g k)) (wSeq (wRet (wVar 3)) wSkip)))
def N_law_nils : List Str := ["_law_many", "_law_k"]
def T_law_nils (g : Gs) (k : Nat) : DTS := (wSeq (wRet (wCallP (fun ds M Q _ => pTuple ds M Q) (wCons (wComp (wRng1 (wCons (wVar 0) wNil)) (wName 1) wYes (wCall 0 0 [.dfl .non, .dfl .non] (g 0 .c_Thing) wNil wNil) [1]) wNil))) wSkip)
def N_law_right : List Str := ["_law_made", "_law_one", "_law_other", "_law_budget", "_law_half", "_law_due", "_law_known", "_law_found"]
def T_law_right (g : Gs) (k : Nat) : DTS := (wSeq (wAsg (wCall 2 0 [.arg 0, .arg 1] (g 0 .half_given) (wCons (wVar 0) (wCons (wVar 1) wNil)) wNil) (wName 4)) (wSeq (wAsg (w2 pAdd (wTup (wCons (wTup (wCons (wC (.str (tx "told"))) (wCons (wC (.int 1)) (wCons (wVar 1) wNil)))) (wCons (wTup (wCons (wC (.str (tx "pair"))) (wCons (wC (.int 0)) (wCons (wC (.int 1)) (wCons (wC (.int 0)) wNil))))) (wCons (wTup (wCons (wC (.str (tx "told"))) (wCons (wC (.int 1)) (wCons (wCall 0 0 [.dfl .non, .dfl .non] (g 0 .c_Thing) wNil wNil) wNil)))) wNil)))) (wAttr (wVar 0) "deeds")) (wName 5)) (wSeq (wIf (wOr (wNot (wB (wIsi true "Program" (wVar 4)))) (wOr (wB (w2 (pNe es0 (k + 2)) (wAttr (wVar 4) "deeds") (wVar 5))) (wB (w2 (pNe es0 (k + 2)) (wCall 0 2 [.arg 1, .arg 0] (g 0 .half_given) wNil (wCons (wVar 1) (wCons (wVar 0) wNil))) (wVar 4))))) (wSeq (wRet (wC (.bl false))) wSkip) wSkip) (wSeq (wIf (wB (w2 (pNe es0 (k + 2)) (wCall 3 0 [.arg 0, .arg 1, .arg 2] (g 0 .law_stood) (wCons (wVar 4) (wCons (wVar 2) (wCons (wC (.int 3)) wNil))) wNil) (wCall 2 0 [.arg 0, .arg 1] (g 0 .c_Stand) (wCons (wC (.int 3)) (wCons (w2 pAdd (wTup (wCons (wCall 2 0 [.arg 0, .arg 1] (g 0 .c_Thing) (wCons (wVar 1) (wCons (wVar 2) wNil)) wNil) wNil)) (wCall 1 0 [.arg 0] (g 0 .law_nils) (wCons (wC (.int 9)) wNil) wNil)) wNil)) wNil))) (wSeq (wRet (wC (.bl false))) wSkip) wSkip) (wSeq (wPar 6 7 (wCons (wCall 3 0 [.arg 0, .arg 1, .arg 2] (g 0 .run) (wCons (wVar 0) (wCons (wCall 2 0 [.arg 0, .arg 1] (g 0 .c_Thing) (wCons (wVar 1) (wCons (wVar 2) wNil)) wNil) (wCons (wVar 3) wNil))) wNil) (wCons (wCall 3 0 [.arg 0, .arg 1, .arg 2] (g 0 .run) (wCons (wVar 4) (wCons (wVar 2) (wCons (w2 pAdd (wVar 3) (wC (.int 3))) wNil))) wNil) wNil))) (wSeq (wRet (w2 (pEq es0 (k + 3) false) (wVar 7) (wCall 3 0 [.arg 0, .arg 1, .arg 2] (g 0 .c_Run) (wCons (wAttr (wVar 6) "word") (wCons (w2 pAdd (wAttr (wVar 6) "steps") (wC (.int 3))) (wCons (wAttr (wVar 6) "thing") wNil))) wNil))) wSkip))))))
def N_law_great : List Str := ["_law_bag_here", "_law_deeds_here", "_law_name_here", "_law_ahead"]
def B_law_great_0 (g : Gs) (k : Nat) : DTS := (wSeq (wAsg (wTup (wCons (wTup (wCons (wC (.str (tx "while"))) (wCons (wVar 2) (wCons (wVar 1) wNil)))) wNil)) (wName 1)) wSkip)
def T_law_great (g : Gs) (k : Nat) : DTS := (wSeq (wAsg (wTup wNil) (wName 1)) (wSeq (wFor (wRng1 (wCons (wC (.int 8)) wNil)) (wName 2) (B_law_great_0 g k)) (wSeq (wAsg (w2 pAdd (wC (.int 300)) (wCall 2 0 [.arg 0, .arg 1] (g 0 .law_take) (wCons (wVar 0) (wCons (wC (.int 400)) wNil)) wNil)) (wName 3)) (wSeq (wRet (wCall 1 0 [.arg 0] (g 0 .c_Program) (wCons (w2 pAdd (w2 pAdd (w2 pMulT (wTup (wCons (wTup (wCons (wC (.str (tx "first"))) (wCons (wC (.int 3)) (wCons (wC (.int 3)) wNil)))) wNil)) (wVar 3)) (wVar 1)) (w2 pMulT (wTup (wCons (wTup (wCons (wC (.str (tx "second"))) (wCons (wC (.int 4)) (wCons (wC (.int 4)) wNil)))) wNil)) (w2 pSub (wC (.int 992)) (wVar 3)))) wNil) wNil)) wSkip))))
def N_law_great_right : List Str := ["_law_bag_here", "_law_one", "_law_other", "_law_budget", "_law_made", "_law_half", "_law_due"]
def T_law_great_right (g : Gs) (k : Nat) : DTS := (wSeq (wAsg (wCall 1 0 [.arg 0] (g 0 .law_great) (wCons (wVar 0) wNil) wNil) (wName 4)) (wSeq (wAsg (wCall 2 0 [.arg 0, .arg 1] (g 0 .half_given) (wCons (wVar 4) (wCons (wVar 1) wNil)) wNil) (wName 5)) (wSeq (wAsg (w2 pAdd (wTup (wCons (wTup (wCons (wC (.str (tx "told"))) (wCons (wC (.int 1)) (wCons (wVar 1) wNil)))) (wCons (wTup (wCons (wC (.str (tx "pair"))) (wCons (wC (.int 0)) (wCons (wC (.int 1)) (wCons (wC (.int 0)) wNil))))) (wCons (wTup (wCons (wC (.str (tx "told"))) (wCons (wC (.int 1)) (wCons (wCall 0 0 [.dfl .non, .dfl .non] (g 0 .c_Thing) wNil wNil) wNil)))) wNil)))) (wAttr (wVar 4) "deeds")) (wName 6)) (wSeq (wIf (wOr (wB (w2 (pNe es0 (k + 2)) (wAttr (wVar 5) "deeds") (wVar 6))) (wOr (wB (w2 (pNe es0 (k + 2)) (wCallP (pLen [("Thing", g 1 .Thing_dlen), ("Program", g 1 .Program_dlen)]) (wCons (wVar 5) wNil)) (wC (.int 1003)))) (wB (w2 (pNe es0 (k + 2)) (wSlice (wAttr (wCall 2 0 [.arg 0, .arg 1] (g 0 .half_given) (wCons (wVar 4) (wCons (wVar 2) wNil)) wNil) "deeds") (wPart (wC (.int 3))) wNo) (wAttr (wVar 4) "deeds"))))) (wSeq (wRet (wC (.bl false))) wSkip) wSkip) (wSeq (wIf (wB (w2 (pNe es0 (k + 2)) (wCall 3 0 [.arg 0, .arg 1, .arg 2] (g 0 .law_stood) (wCons (wVar 5) (wCons (wVar 2) (wCons (wC (.int 3)) wNil))) wNil) (wCall 2 0 [.arg 0, .arg 1] (g 0 .c_Stand) (wCons (wC (.int 3)) (wCons (w2 pAdd (wTup (wCons (wCall 2 0 [.arg 0, .arg 1] (g 0 .c_Thing) (wCons (wVar 1) (wCons (wVar 2) wNil)) wNil) wNil)) (wCall 1 0 [.arg 0] (g 0 .law_nils) (wCons (wC (.int 9)) wNil) wNil)) wNil)) wNil))) (wSeq (wRet (wC (.bl false))) wSkip) wSkip) (wSeq (wRet (w2 (pEq es0 (k + 3) false) (wCall 3 0 [.arg 0, .arg 1, .arg 2] (g 0 .run) (wCons (wVar 5) (wCons (wVar 2) (wCons (w2 pAdd (wVar 3) (wC (.int 3))) wNil))) wNil) (wCall 2 0 [.arg 0, .arg 1, .dfl .non] (g 0 .c_Run) (wCons (wC (.str (tx "open"))) (wCons (w2 pAdd (wVar 3) (wC (.int 3))) wNil)) wNil))) wSkip))))))
def N_law : List Str := ["_law_script", "_law_k", "_law_bag_here", "_law_made", "_law_one", "_law_other", "_law_budget", "_law_first", "_law_second"]
def B_law_0 (g : Gs) (k : Nat) : DTS := (wSeq (wIf (wNot (wB (wCall 4 0 [.arg 0, .arg 1, .arg 2, .arg 3] (g 0 .law_right) (wCons (wVar 3) (wCons (wVar 7) (wCons (wVar 8) (wCons (wVar 6) wNil)))) wNil))) (wSeq (wRet (wC (.bl false))) wSkip) wSkip) wSkip)
def B_law_1 (g : Gs) (k : Nat) : DTS := (wSeq (wAsg (wCall 2 0 [.arg 0, .arg 1] (g 0 .law_bag) (wCons (wVar 0) (wCons (wVar 1) wNil)) wNil) (wName 2)) (wSeq (wAsg (wCall 1 0 [.arg 0] (g 0 .c_Program) (wCons (wCall 2 0 [.arg 0, .arg 1] (g 0 .law_top) (wCons (wVar 2) (wCons (wC (.int 20)) wNil)) wNil) wNil) wNil) (wName 3)) (wSeq (wPar 4 5 (wCons (wCall 2 0 [.arg 0, .arg 1] (g 0 .law_thing) (wCons (wVar 2) (wCons (wCall 2 0 [.arg 0, .arg 1] (g 0 .law_take) (wCons (wVar 2) (wCons (wC (.int 31)) wNil)) wNil) wNil)) wNil) (wCons (wCall 2 0 [.arg 0, .arg 1] (g 0 .law_thing) (wCons (wVar 2) (wCons (wCall 2 0 [.arg 0, .arg 1] (g 0 .law_take) (wCons (wVar 2) (wCons (wC (.int 31)) wNil)) wNil) wNil)) wNil) wNil))) (wSeq (wAsg (wCall 2 0 [.arg 0, .arg 1] (g 0 .law_take) (wCons (wVar 2) (wCons (wC (.int 61)) wNil)) wNil) (wName 6)) (wSeq (wFor (wItV (wLst (wCons (wTup (wCons (wVar 4) (wCons (wVar 5) wNil))) (wCons (wTup (wCons (wVar 5) (wCons (wVar 4) wNil))) (wCons (wTup (wCons (wVar 4) (wCons (wVar 4) wNil))) (wCons (wTup (wCons (wVar 4) (wCons (wVar 5) wNil))) wNil)))))) (wNames [7, 8]) (B_law_0 g k)) (wSeq (wIf (wNot (wB (wCall 4 0 [.arg 0, .arg 1, .arg 2, .arg 3] (g 0 .law_great_right) (wCons (wVar 2) (wCons (wVar 4) (wCons (wVar 5) (wCons (wVar 6) wNil)))) wNil))) (wSeq (wRet (wC (.bl false))) wSkip) wSkip) (wSeq (wIf (wOr (wNot (wB (wCall 4 0 [.arg 0, .arg 1, .arg 2, .arg 3] (g 0 .law_right) (wCons (wCall 1 0 [.arg 0] (g 0 .c_Program) (wCons (wTup wNil) wNil) wNil) (wCons (wVar 4) (wCons (wVar 5) (wCons (wVar 6) wNil)))) wNil))) (wNot (wB (wCall 4 0 [.arg 0, .arg 1, .arg 2, .arg 3] (g 0 .law_right) (wCons (wCall 2 0 [.arg 0, .arg 1] (g 0 .half_given) (wCons (wVar 3) (wCons (wVar 4) wNil)) wNil) (wCons (wVar 5) (wCons (wVar 4) (wCons (wVar 6) wNil)))) wNil)))) (wSeq (wRet (wC (.bl false))) wSkip) wSkip) wSkip)))))))
def T_law (g : Gs) (k : Nat) : DTS := (wSeq (wFor (wRng1 (wCons (wCallP (fun ds M Q _ => pMax2 ds M Q) (wCons (wC (.int 2)) (wCons (wCallP (fun ds M Q _ => pMin2 ds M Q) (wCons (wC (.int 6)) (wCons (wCallP (pLen [("Thing", g 1 .Thing_dlen), ("Program", g 1 .Program_dlen)]) (wCons (wVar 0) wNil)) wNil))) wNil))) wNil)) (wName 1) (B_law_1 g k)) (wSeq (wRet (wC (.bl true))) wSkip))
def step (g : Gs) (k : Nat) : Fn → DSp
  | .TooGreat_dinit => botS
  | .Thing_dinit => wBody N_Thing_dinit (T_Thing_dinit g k)
  | .Thing_deq => wBody N_Thing_deq (T_Thing_deq g k)
  | .Thing_dlen => wBody N_Thing_dlen (T_Thing_dlen g k)
  | .Thing_head => wBody N_Thing_head (T_Thing_head g k)
  | .Thing_tail => wBody N_Thing_tail (T_Thing_tail g k)
  | .yes => wBody N_yes (T_yes g k)
  | .is_name => wBody N_is_name (T_is_name g k)
  | .rows_of => wBody N_rows_of (T_rows_of g k)
  | .names_of => wBody N_names_of (T_names_of g k)
  | .has_form => wBody N_has_form (T_has_form g k)
  | .check_row => wBody N_check_row (T_check_row g k)
  | .check_deed => wBody N_check_deed (T_check_deed g k)
  | .size_of => wBody N_size_of (T_size_of g k)
  | .placed => wBody N_placed (T_placed g k)
  | .Program_dinit => wBody N_Program_dinit (T_Program_dinit g k)
  | .Program_deq => wBody N_Program_deq (T_Program_deq g k)
  | .Program_dlen => wBody N_Program_dlen (T_Program_dlen g k)
  | .cleared_deed => wBody N_cleared_deed (T_cleared_deed g k)
  | .half_given => wBody N_half_given (T_half_given g k)
  | .Stand_dinit => wBody N_Stand_dinit (T_Stand_dinit g k)
  | .Stand_deq => wBody N_Stand_deq (T_Stand_deq g k)
  | .Run_dinit => wBody N_Run_dinit (T_Run_dinit g k)
  | .Run_deq => wBody N_Run_deq (T_Run_deq g k)
  | .value_of => wBody N_value_of (T_value_of g k)
  | .go_on => wBody N_go_on (T_go_on g k)
  | .begin => wBody N_begin (T_begin g k)
  | .step => wBody N_step (T_step g k)
  | .run => wBody N_run (T_run g k)
  | .law_bag => wBody N_law_bag (T_law_bag g k)
  | .law_take => wBody N_law_take (T_law_take g k)
  | .law_thing => wBody N_law_thing (T_law_thing g k)
  | .law_name => wBody N_law_name (T_law_name g k)
  | .law_deed => wBody N_law_deed (T_law_deed g k)
  | .law_deeds => wBody N_law_deeds (T_law_deeds g k)
  | .law_top => wBody N_law_top (T_law_top g k)
  | .law_stood => wBody N_law_stood (T_law_stood g k)
  | .law_nils => wBody N_law_nils (T_law_nils g k)
  | .law_right => wBody N_law_right (T_law_right g k)
  | .law_great => wBody N_law_great (T_law_great g k)
  | .law_great_right => wBody N_law_great_right (T_law_great_right g k)
  | .law => wBody N_law (T_law g k)
  | .c_Thing => pMakeF "Thing" (g 0 .Thing_dinit)
  | .c_Program => pMakeF "Program" (g 0 .Program_dinit)
  | .c_Stand => pMakeF "Stand" (g 0 .Stand_dinit)
  | .c_Run => pMakeF "Run" (g 0 .Run_dinit)
abbrev G : Nat → Nat → Fn → DSp := Gh step
theorem G_s (k : Nat) (f : Fn) : G (k + 1) 0 f = step (G k) k f := rfl
theorem st_Thing_dinit (g : Gs) (k : Nat) : step g k .Thing_dinit = wBody N_Thing_dinit (T_Thing_dinit g k) := rfl
theorem st_Thing_deq (g : Gs) (k : Nat) : step g k .Thing_deq = wBody N_Thing_deq (T_Thing_deq g k) := rfl
theorem st_Thing_dlen (g : Gs) (k : Nat) : step g k .Thing_dlen = wBody N_Thing_dlen (T_Thing_dlen g k) := rfl
theorem st_Thing_head (g : Gs) (k : Nat) : step g k .Thing_head = wBody N_Thing_head (T_Thing_head g k) := rfl
theorem st_Thing_tail (g : Gs) (k : Nat) : step g k .Thing_tail = wBody N_Thing_tail (T_Thing_tail g k) := rfl
theorem st_yes (g : Gs) (k : Nat) : step g k .yes = wBody N_yes (T_yes g k) := rfl
theorem st_is_name (g : Gs) (k : Nat) : step g k .is_name = wBody N_is_name (T_is_name g k) := rfl
theorem st_rows_of (g : Gs) (k : Nat) : step g k .rows_of = wBody N_rows_of (T_rows_of g k) := rfl
theorem st_names_of (g : Gs) (k : Nat) : step g k .names_of = wBody N_names_of (T_names_of g k) := rfl
theorem st_has_form (g : Gs) (k : Nat) : step g k .has_form = wBody N_has_form (T_has_form g k) := rfl
theorem st_check_row (g : Gs) (k : Nat) : step g k .check_row = wBody N_check_row (T_check_row g k) := rfl
theorem st_check_deed (g : Gs) (k : Nat) : step g k .check_deed = wBody N_check_deed (T_check_deed g k) := rfl
theorem st_size_of (g : Gs) (k : Nat) : step g k .size_of = wBody N_size_of (T_size_of g k) := rfl
theorem st_placed (g : Gs) (k : Nat) : step g k .placed = wBody N_placed (T_placed g k) := rfl
theorem st_Program_dinit (g : Gs) (k : Nat) : step g k .Program_dinit = wBody N_Program_dinit (T_Program_dinit g k) := rfl
theorem st_Program_deq (g : Gs) (k : Nat) : step g k .Program_deq = wBody N_Program_deq (T_Program_deq g k) := rfl
theorem st_Program_dlen (g : Gs) (k : Nat) : step g k .Program_dlen = wBody N_Program_dlen (T_Program_dlen g k) := rfl
theorem st_cleared_deed (g : Gs) (k : Nat) : step g k .cleared_deed = wBody N_cleared_deed (T_cleared_deed g k) := rfl
theorem st_half_given (g : Gs) (k : Nat) : step g k .half_given = wBody N_half_given (T_half_given g k) := rfl
theorem st_Stand_dinit (g : Gs) (k : Nat) : step g k .Stand_dinit = wBody N_Stand_dinit (T_Stand_dinit g k) := rfl
theorem st_Stand_deq (g : Gs) (k : Nat) : step g k .Stand_deq = wBody N_Stand_deq (T_Stand_deq g k) := rfl
theorem st_Run_dinit (g : Gs) (k : Nat) : step g k .Run_dinit = wBody N_Run_dinit (T_Run_dinit g k) := rfl
theorem st_Run_deq (g : Gs) (k : Nat) : step g k .Run_deq = wBody N_Run_deq (T_Run_deq g k) := rfl
theorem st_value_of (g : Gs) (k : Nat) : step g k .value_of = wBody N_value_of (T_value_of g k) := rfl
theorem st_go_on (g : Gs) (k : Nat) : step g k .go_on = wBody N_go_on (T_go_on g k) := rfl
theorem st_begin (g : Gs) (k : Nat) : step g k .begin = wBody N_begin (T_begin g k) := rfl
theorem st_step (g : Gs) (k : Nat) : step g k .step = wBody N_step (T_step g k) := rfl
theorem st_run (g : Gs) (k : Nat) : step g k .run = wBody N_run (T_run g k) := rfl
theorem st_law_bag (g : Gs) (k : Nat) : step g k .law_bag = wBody N_law_bag (T_law_bag g k) := rfl
theorem st_law_take (g : Gs) (k : Nat) : step g k .law_take = wBody N_law_take (T_law_take g k) := rfl
theorem st_law_thing (g : Gs) (k : Nat) : step g k .law_thing = wBody N_law_thing (T_law_thing g k) := rfl
theorem st_law_name (g : Gs) (k : Nat) : step g k .law_name = wBody N_law_name (T_law_name g k) := rfl
theorem st_law_deed (g : Gs) (k : Nat) : step g k .law_deed = wBody N_law_deed (T_law_deed g k) := rfl
theorem st_law_deeds (g : Gs) (k : Nat) : step g k .law_deeds = wBody N_law_deeds (T_law_deeds g k) := rfl
theorem st_law_top (g : Gs) (k : Nat) : step g k .law_top = wBody N_law_top (T_law_top g k) := rfl
theorem st_law_stood (g : Gs) (k : Nat) : step g k .law_stood = wBody N_law_stood (T_law_stood g k) := rfl
theorem st_law_nils (g : Gs) (k : Nat) : step g k .law_nils = wBody N_law_nils (T_law_nils g k) := rfl
theorem st_law_right (g : Gs) (k : Nat) : step g k .law_right = wBody N_law_right (T_law_right g k) := rfl
theorem st_law_great (g : Gs) (k : Nat) : step g k .law_great = wBody N_law_great (T_law_great g k) := rfl
theorem st_law_great_right (g : Gs) (k : Nat) : step g k .law_great_right = wBody N_law_great_right (T_law_great_right g k) := rfl
theorem st_law (g : Gs) (k : Nat) : step g k .law = wBody N_law (T_law g k) := rfl
theorem st_c_Thing (g : Gs) (k : Nat) : step g k .c_Thing = pMakeF "Thing" (g 0 .Thing_dinit) := rfl
theorem st_c_Program (g : Gs) (k : Nat) : step g k .c_Program = pMakeF "Program" (g 0 .Program_dinit) := rfl
theorem st_c_Stand (g : Gs) (k : Nat) : step g k .c_Stand = pMakeF "Stand" (g 0 .Stand_dinit) := rfl
theorem st_c_Run (g : Gs) (k : Nat) : step g k .c_Run = pMakeF "Run" (g 0 .Run_dinit) := rfl
def d_TooGreat_dinit : He.DefD := ⟨⟨"TooGreat", some "__init__"⟩, "__init__", "TooGreat.__init__", defArgs s_TooGreat_dinit, defBody s_TooGreat_dinit, defScope s_TooGreat_dinit, [], []⟩
def d_Thing_dinit : He.DefD := ⟨⟨"Thing", some "__init__"⟩, "__init__", "Thing.__init__", defArgs s_Thing_dinit, defBody s_Thing_dinit, defScope s_Thing_dinit, [.non, .non], []⟩
def d_Thing_deq : He.DefD := ⟨⟨"Thing", some "__eq__"⟩, "__eq__", "Thing.__eq__", defArgs s_Thing_deq, defBody s_Thing_deq, defScope s_Thing_deq, [], []⟩
def d_Thing_dlen : He.DefD := ⟨⟨"Thing", some "__len__"⟩, "__len__", "Thing.__len__", defArgs s_Thing_dlen, defBody s_Thing_dlen, defScope s_Thing_dlen, [], []⟩
def d_Thing_head : He.DefD := ⟨⟨"Thing", some "head"⟩, "head", "Thing.head", defArgs s_Thing_head, defBody s_Thing_head, defScope s_Thing_head, [], []⟩
def d_Thing_tail : He.DefD := ⟨⟨"Thing", some "tail"⟩, "tail", "Thing.tail", defArgs s_Thing_tail, defBody s_Thing_tail, defScope s_Thing_tail, [], []⟩
def d_yes : He.DefD := ⟨⟨"yes", none⟩, "yes", "yes", defArgs s_yes, defBody s_yes, defScope s_yes, [], []⟩
def d_is_name : He.DefD := ⟨⟨"is_name", none⟩, "is_name", "is_name", defArgs s_is_name, defBody s_is_name, defScope s_is_name, [], []⟩
def d_rows_of : He.DefD := ⟨⟨"rows_of", none⟩, "rows_of", "rows_of", defArgs s_rows_of, defBody s_rows_of, defScope s_rows_of, [], []⟩
def d_names_of : He.DefD := ⟨⟨"names_of", none⟩, "names_of", "names_of", defArgs s_names_of, defBody s_names_of, defScope s_names_of, [], []⟩
def d_has_form : He.DefD := ⟨⟨"has_form", none⟩, "has_form", "has_form", defArgs s_has_form, defBody s_has_form, defScope s_has_form, [], []⟩
def d_check_row : He.DefD := ⟨⟨"check_row", none⟩, "check_row", "check_row", defArgs s_check_row, defBody s_check_row, defScope s_check_row, [], []⟩
def d_check_deed : He.DefD := ⟨⟨"check_deed", none⟩, "check_deed", "check_deed", defArgs s_check_deed, defBody s_check_deed, defScope s_check_deed, [], []⟩
def d_size_of : He.DefD := ⟨⟨"size_of", none⟩, "size_of", "size_of", defArgs s_size_of, defBody s_size_of, defScope s_size_of, [], []⟩
def d_placed : He.DefD := ⟨⟨"placed", none⟩, "placed", "placed", defArgs s_placed, defBody s_placed, defScope s_placed, [], []⟩
def d_Program_dinit : He.DefD := ⟨⟨"Program", some "__init__"⟩, "__init__", "Program.__init__", defArgs s_Program_dinit, defBody s_Program_dinit, defScope s_Program_dinit, [], []⟩
def d_Program_deq : He.DefD := ⟨⟨"Program", some "__eq__"⟩, "__eq__", "Program.__eq__", defArgs s_Program_deq, defBody s_Program_deq, defScope s_Program_deq, [], []⟩
def d_Program_dlen : He.DefD := ⟨⟨"Program", some "__len__"⟩, "__len__", "Program.__len__", defArgs s_Program_dlen, defBody s_Program_dlen, defScope s_Program_dlen, [], []⟩
def d_cleared_deed : He.DefD := ⟨⟨"cleared_deed", none⟩, "cleared_deed", "cleared_deed", defArgs s_cleared_deed, defBody s_cleared_deed, defScope s_cleared_deed, [], []⟩
def d_half_given : He.DefD := ⟨⟨"half_given", none⟩, "half_given", "half_given", defArgs s_half_given, defBody s_half_given, defScope s_half_given, [], []⟩
def d_Stand_dinit : He.DefD := ⟨⟨"Stand", some "__init__"⟩, "__init__", "Stand.__init__", defArgs s_Stand_dinit, defBody s_Stand_dinit, defScope s_Stand_dinit, [], []⟩
def d_Stand_deq : He.DefD := ⟨⟨"Stand", some "__eq__"⟩, "__eq__", "Stand.__eq__", defArgs s_Stand_deq, defBody s_Stand_deq, defScope s_Stand_deq, [], []⟩
def d_Run_dinit : He.DefD := ⟨⟨"Run", some "__init__"⟩, "__init__", "Run.__init__", defArgs s_Run_dinit, defBody s_Run_dinit, defScope s_Run_dinit, [.non], []⟩
def d_Run_deq : He.DefD := ⟨⟨"Run", some "__eq__"⟩, "__eq__", "Run.__eq__", defArgs s_Run_deq, defBody s_Run_deq, defScope s_Run_deq, [], []⟩
def d_value_of : He.DefD := ⟨⟨"value_of", none⟩, "value_of", "value_of", defArgs s_value_of, defBody s_value_of, defScope s_value_of, [], []⟩
def d_go_on : He.DefD := ⟨⟨"go_on", none⟩, "go_on", "go_on", defArgs s_go_on, defBody s_go_on, defScope s_go_on, [], []⟩
def d_begin : He.DefD := ⟨⟨"begin", none⟩, "begin", "begin", defArgs s_begin, defBody s_begin, defScope s_begin, [], []⟩
def d_step : He.DefD := ⟨⟨"step", none⟩, "step", "step", defArgs s_step, defBody s_step, defScope s_step, [], []⟩
def d_run : He.DefD := ⟨⟨"run", none⟩, "run", "run", defArgs s_run, defBody s_run, defScope s_run, [(.int 2000)], []⟩
def d_law_bag : He.DefD := ⟨⟨"_law_bag", none⟩, "_law_bag", "_law_bag", defArgs s_law_bag, defBody s_law_bag, defScope s_law_bag, [], []⟩
def d_law_take : He.DefD := ⟨⟨"_law_take", none⟩, "_law_take", "_law_take", defArgs s_law_take, defBody s_law_take, defScope s_law_take, [], []⟩
def d_law_thing : He.DefD := ⟨⟨"_law_thing", none⟩, "_law_thing", "_law_thing", defArgs s_law_thing, defBody s_law_thing, defScope s_law_thing, [], []⟩
def d_law_name : He.DefD := ⟨⟨"_law_name", none⟩, "_law_name", "_law_name", defArgs s_law_name, defBody s_law_name, defScope s_law_name, [], []⟩
def d_law_deed : He.DefD := ⟨⟨"_law_deed", none⟩, "_law_deed", "_law_deed", defArgs s_law_deed, defBody s_law_deed, defScope s_law_deed, [], []⟩
def d_law_deeds : He.DefD := ⟨⟨"_law_deeds", none⟩, "_law_deeds", "_law_deeds", defArgs s_law_deeds, defBody s_law_deeds, defScope s_law_deeds, [], []⟩
def d_law_top : He.DefD := ⟨⟨"_law_top", none⟩, "_law_top", "_law_top", defArgs s_law_top, defBody s_law_top, defScope s_law_top, [], []⟩
def d_law_stood : He.DefD := ⟨⟨"_law_stood", none⟩, "_law_stood", "_law_stood", defArgs s_law_stood, defBody s_law_stood, defScope s_law_stood, [], []⟩
def d_law_nils : He.DefD := ⟨⟨"_law_nils", none⟩, "_law_nils", "_law_nils", defArgs s_law_nils, defBody s_law_nils, defScope s_law_nils, [], []⟩
def d_law_right : He.DefD := ⟨⟨"_law_right", none⟩, "_law_right", "_law_right", defArgs s_law_right, defBody s_law_right, defScope s_law_right, [], []⟩
def d_law_great : He.DefD := ⟨⟨"_law_great", none⟩, "_law_great", "_law_great", defArgs s_law_great, defBody s_law_great, defScope s_law_great, [], []⟩
def d_law_great_right : He.DefD := ⟨⟨"_law_great_right", none⟩, "_law_great_right", "_law_great_right", defArgs s_law_great_right, defBody s_law_great_right, defScope s_law_great_right, [], []⟩
def d_law : He.DefD := ⟨⟨"law", none⟩, "law", "law", defArgs s_law, defBody s_law, defScope s_law, [], []⟩
def dOf : Fn → He.DefD
  | .TooGreat_dinit => d_TooGreat_dinit
  | .Thing_dinit => d_Thing_dinit
  | .Thing_deq => d_Thing_deq
  | .Thing_dlen => d_Thing_dlen
  | .Thing_head => d_Thing_head
  | .Thing_tail => d_Thing_tail
  | .yes => d_yes
  | .is_name => d_is_name
  | .rows_of => d_rows_of
  | .names_of => d_names_of
  | .has_form => d_has_form
  | .check_row => d_check_row
  | .check_deed => d_check_deed
  | .size_of => d_size_of
  | .placed => d_placed
  | .Program_dinit => d_Program_dinit
  | .Program_deq => d_Program_deq
  | .Program_dlen => d_Program_dlen
  | .cleared_deed => d_cleared_deed
  | .half_given => d_half_given
  | .Stand_dinit => d_Stand_dinit
  | .Stand_deq => d_Stand_deq
  | .Run_dinit => d_Run_dinit
  | .Run_deq => d_Run_deq
  | .value_of => d_value_of
  | .go_on => d_go_on
  | .begin => d_begin
  | .step => d_step
  | .run => d_run
  | .law_bag => d_law_bag
  | .law_take => d_law_take
  | .law_thing => d_law_thing
  | .law_name => d_law_name
  | .law_deed => d_law_deed
  | .law_deeds => d_law_deeds
  | .law_top => d_law_top
  | .law_stood => d_law_stood
  | .law_nils => d_law_nils
  | .law_right => d_law_right
  | .law_great => d_law_great
  | .law_great_right => d_law_great_right
  | .law => d_law
  | _ => d_law
def psOf : Fn → List Str
  | .TooGreat_dinit => ["self", "bound"]
  | .Thing_dinit => ["self", "first", "second"]
  | .Thing_deq => ["self", "other"]
  | .Thing_dlen => ["self"]
  | .Thing_head => ["self"]
  | .Thing_tail => ["self"]
  | .yes => []
  | .is_name => ["thing"]
  | .rows_of => ["deed"]
  | .names_of => ["deed"]
  | .has_form => ["thing", "deep"]
  | .check_row => ["row", "deep", "at"]
  | .check_deed => ["deed", "deep", "at"]
  | .size_of => ["row"]
  | .placed => ["row", "at", "behind", "found"]
  | .Program_dinit => ["self", "deeds"]
  | .Program_deq => ["self", "other"]
  | .Program_dlen => ["self"]
  | .cleared_deed => ["name"]
  | .half_given => ["program", "thing"]
  | .Stand_dinit => ["self", "point", "names"]
  | .Stand_deq => ["self", "other"]
  | .Run_dinit => ["self", "word", "steps", "thing"]
  | .Run_deq => ["self", "other"]
  | .value_of => ["deed", "names"]
  | .go_on => ["program", "point", "names"]
  | .begin => ["program", "thing"]
  | .step => ["program", "stand"]
  | .run => ["program", "thing", "budget"]
  | .law_bag => ["_law_script", "_law_at"]
  | .law_take => ["_law_bag_here", "_law_many"]
  | .law_thing => ["_law_bag_here", "_law_many"]
  | .law_name => ["_law_bag_here"]
  | .law_deed => ["_law_bag_here", "_law_left", "_law_deep"]
  | .law_deeds => ["_law_bag_here", "_law_left", "_law_deep"]
  | .law_top => ["_law_bag_here", "_law_many"]
  | .law_stood => ["_law_made", "_law_some", "_law_count"]
  | .law_nils => ["_law_many"]
  | .law_right => ["_law_made", "_law_one", "_law_other", "_law_budget"]
  | .law_great => ["_law_bag_here"]
  | .law_great_right => ["_law_bag_here", "_law_one", "_law_other", "_law_budget"]
  | .law => ["_law_script"]
  | _ => []
def isD : Fn → Prop
  | .TooGreat_dinit => True
  | .Thing_dinit => True
  | .Thing_deq => True
  | .Thing_dlen => True
  | .Thing_head => True
  | .Thing_tail => True
  | .yes => True
  | .is_name => True
  | .rows_of => True
  | .names_of => True
  | .has_form => True
  | .check_row => True
  | .check_deed => True
  | .size_of => True
  | .placed => True
  | .Program_dinit => True
  | .Program_deq => True
  | .Program_dlen => True
  | .cleared_deed => True
  | .half_given => True
  | .Stand_dinit => True
  | .Stand_deq => True
  | .Run_dinit => True
  | .Run_deq => True
  | .value_of => True
  | .go_on => True
  | .begin => True
  | .step => True
  | .run => True
  | .law_bag => True
  | .law_take => True
  | .law_thing => True
  | .law_name => True
  | .law_deed => True
  | .law_deeds => True
  | .law_top => True
  | .law_stood => True
  | .law_nils => True
  | .law_right => True
  | .law_great => True
  | .law_great_right => True
  | .law => True
  | _ => False
def flds : List String := ["text", "deeds", "point", "names", "word", "steps", "thing", "many", "order", "left", "right", "marked"]
abbrev adr (K : PySem.W.Frag) (f : Fn) : Addr := He.fAd K (dOf f).at_
structure Fx (K : PySem.W.Frag) (mg : Str → Option Value) (w : World) : Prop where
  m_yes : mg "yes" = some (.ref (He.ga K "yes"))
  m_is_name : mg "is_name" = some (.ref (He.ga K "is_name"))
  m_rows_of : mg "rows_of" = some (.ref (He.ga K "rows_of"))
  m_names_of : mg "names_of" = some (.ref (He.ga K "names_of"))
  m_has_form : mg "has_form" = some (.ref (He.ga K "has_form"))
  m_check_row : mg "check_row" = some (.ref (He.ga K "check_row"))
  m_check_deed : mg "check_deed" = some (.ref (He.ga K "check_deed"))
  m_size_of : mg "size_of" = some (.ref (He.ga K "size_of"))
  m_placed : mg "placed" = some (.ref (He.ga K "placed"))
  m_cleared_deed : mg "cleared_deed" = some (.ref (He.ga K "cleared_deed"))
  m_half_given : mg "half_given" = some (.ref (He.ga K "half_given"))
  m_value_of : mg "value_of" = some (.ref (He.ga K "value_of"))
  m_go_on : mg "go_on" = some (.ref (He.ga K "go_on"))
  m_begin : mg "begin" = some (.ref (He.ga K "begin"))
  m_step : mg "step" = some (.ref (He.ga K "step"))
  m_run : mg "run" = some (.ref (He.ga K "run"))
  m_law_bag : mg "_law_bag" = some (.ref (He.ga K "_law_bag"))
  m_law_take : mg "_law_take" = some (.ref (He.ga K "_law_take"))
  m_law_thing : mg "_law_thing" = some (.ref (He.ga K "_law_thing"))
  m_law_name : mg "_law_name" = some (.ref (He.ga K "_law_name"))
  m_law_deed : mg "_law_deed" = some (.ref (He.ga K "_law_deed"))
  m_law_deeds : mg "_law_deeds" = some (.ref (He.ga K "_law_deeds"))
  m_law_top : mg "_law_top" = some (.ref (He.ga K "_law_top"))
  m_law_stood : mg "_law_stood" = some (.ref (He.ga K "_law_stood"))
  m_law_nils : mg "_law_nils" = some (.ref (He.ga K "_law_nils"))
  m_law_right : mg "_law_right" = some (.ref (He.ga K "_law_right"))
  m_law_great : mg "_law_great" = some (.ref (He.ga K "_law_great"))
  m_law_great_right : mg "_law_great_right" = some (.ref (He.ga K "_law_great_right"))
  m_law : mg "law" = some (.ref (He.ga K "law"))
  m_Thing : mg "Thing" = some (.ref (He.ga K "Thing"))
  k_Thing : Mk K (He.ga K "Thing") (He.ma K (He.ga K "Thing") "__init__")
  m_Program : mg "Program" = some (.ref (He.ga K "Program"))
  k_Program : Mk K (He.ga K "Program") (He.ma K (He.ga K "Program") "__init__")
  m_Stand : mg "Stand" = some (.ref (He.ga K "Stand"))
  k_Stand : Mk K (He.ga K "Stand") (He.ma K (He.ga K "Stand") "__init__")
  m_Run : mg "Run" = some (.ref (He.ga K "Run"))
  k_Run : Mk K (He.ga K "Run") (He.ma K (He.ga K "Run") "__init__")
  n_OverflowError : mg "OverflowError" = none
  n_abs : mg "abs" = none
  n_all : mg "all" = none
  n_bool : mg "bool" = none
  n_enumerate : mg "enumerate" = none
  n_int : mg "int" = none
  n_isinstance : mg "isinstance" = none
  n_len : mg "len" = none
  n_list : mg "list" = none
  n_max : mg "max" = none
  n_min : mg "min" = none
  n_range : mg "range" = none
  n_str : mg "str" = none
  n_sum : mg "sum" = none
  n_tuple : mg "tuple" = none
  v_MOST_DEEDS : ∃ t, mg "MOST_DEEDS" = some (.int 4000 t)
  v_MOST_DEEP : ∃ t, mg "MOST_DEEP" = some (.int 8 t)
  v_MOST_NAMES : ∃ t, mg "MOST_NAMES" = some (.int 10 t)
  v_MOST_PAIRS : ∃ t, mg "MOST_PAIRS" = some (.int 4000 t)
  v_NIL_TEXT : ∃ t, mg "NIL_TEXT" = some (.str "." t)
  o_Program_dlen : Meth K (He.ga K "Program") "__len__" (He.ma K (He.ga K "Program") "__len__")
  o_Thing_dlen : Meth K (He.ga K "Thing") "__len__" (He.ma K (He.ga K "Thing") "__len__")
  o_Thing_head : Meth K (He.ga K "Thing") "head" (He.ma K (He.ga K "Thing") "head")
  o_Thing_tail : Meth K (He.ga K "Thing") "tail" (He.ma K (He.ga K "Thing") "tail")
  m_ROWS_OF : mg "ROWS_OF" = some (.ref (He.ga K "ROWS_OF"))
  m_NAMES_OF : mg "NAMES_OF" = some (.ref (He.ga K "NAMES_OF"))
  m_TooGreat : mg "TooGreat" = some (.ref (He.ga K "TooGreat"))
  m_PAIRED : mg "PAIRED" = some (.ref (He.ga K "PAIRED"))
  clz : Clz (zn K) flds
  q_Thing : Meth K (He.ga K "Thing") "__eq__" (He.ma K (He.ga K "Thing") "__eq__")
  q_Program : Meth K (He.ga K "Program") "__eq__" (He.ma K (He.ga K "Program") "__eq__")
  q_Stand : Meth K (He.ga K "Stand") "__eq__" (He.ma K (He.ga K "Stand") "__eq__")
  q_Run : Meth K (He.ga K "Run") "__eq__" (He.ma K (He.ga K "Run") "__eq__")
  x_TooGreat : XFacts K "TooGreat" "bound" (adr K .TooGreat_dinit)
  xis : XIs K xs0 ts0
  t_ROWS_OF : TblF K w (He.ga K "ROWS_OF") qs0 t_ROWS_OF
  t_NAMES_OF : TblF K w (He.ga K "NAMES_OF") qs0 t_NAMES_OF
  ct_PAIRED : CtF K (He.ga K "PAIRED") u_PAIRED
section
variable {P : Program} {w : World} {K : PySem.W.Frag} {mg : Str → Option Value} {base : Heap} {fd : Fn → FuncData}
abbrev Ok (P : Program) (w : World) (K : PySem.W.Frag) (mg : Str → Option Value) (base : Heap) (fd : Fn → FuncData) (j : Nat) (f : Fn) (S : DSp) : Prop := FnOk P w K mg base (CX P w) j (adr K f) (fd f) (psOf f) (spOf (zn K) (psOf f).length S)
abbrev FD (K : PySem.W.Frag) (fd : Fn → FuncData) (f : Fn) : Prop := FunD K (dOf f).name (dOf f).qual (dOf f).params (dOf f).body (dOf f).scope ((dOf f).dvs K) ((dOf f).kws K) (adr K f) (fd f)
structure Ih (P : Program) (w : World) (K : PySem.W.Frag) (mg : Str → Option Value) (base : Heap) (fd : Fn → FuncData) (g : Gs) (k : Nat) : Prop where
  all : ∀ i, i ≤ 3 → ∀ f, isD f → Ok P w K mg base fd (k + 3 - i) f (g i f)
  fun_ : ∀ f, isD f → FD K fd f
  cl_Thing : g 0 .c_Thing = botS ∨ g 0 .c_Thing = pMakeF "Thing" (g 1 .Thing_dinit)
  cl_Program : g 0 .c_Program = botS ∨ g 0 .c_Program = pMakeF "Program" (g 1 .Program_dinit)
  cl_Stand : g 0 .c_Stand = botS ∨ g 0 .c_Stand = pMakeF "Stand" (g 1 .Stand_dinit)
  cl_Run : g 0 .c_Run = botS ∨ g 0 .c_Run = pMakeF "Run" (g 1 .Run_dinit)
theorem Ih.F {g : Gs} {k : Nat} (I : Ih P w K mg base fd g k) (f : Fn) (h : isD f := by exact True.intro) : FD K fd f := I.fun_ f h
theorem Ih.kp {g : Gs} {k : Nat} (I : Ih P w K mg base fd g k) (f : Fn) (h : isD f := by exact True.intro) : PySem.W.keepIn K (.ref (adr K f)) = true := (I.fun_ f h).kp
theorem Ih.f0 {g : Gs} {k : Nat} (I : Ih P w K mg base fd g k) (f : Fn) (h : isD f := by exact True.intro) : Ok P w K mg base fd (k + 3) f (g 0 f) := I.all 0 (by omega) f h
theorem Ih.f1 {g : Gs} {k : Nat} (I : Ih P w K mg base fd g k) (f : Fn) (h : isD f := by exact True.intro) : Ok P w K mg base fd (k + 2) f (g 1 f) := I.all 1 (by omega) f h
theorem mk_Thing {g : Gs} {k : Nat} (I : Ih P w K mg base fd g k) : MkOk (zn K) (He.ga K "Thing") (psOf .Thing_dinit).length (g 1 .Thing_dinit) (g 0 .c_Thing) := by
  rcases I.cl_Thing with e | e
  · rw [e]; exact fun _ _ _ _ _ _ _ _ _ _ _ _ _ z => z.elim
  · rw [e]; exact mkF (Z := zn K) (c := "Thing") (show "Thing" ∈ cs0 from List.mem_of_getElem? (i := 0) rfl)
theorem mk_Program {g : Gs} {k : Nat} (I : Ih P w K mg base fd g k) : MkOk (zn K) (He.ga K "Program") (psOf .Program_dinit).length (g 1 .Program_dinit) (g 0 .c_Program) := by
  rcases I.cl_Program with e | e
  · rw [e]; exact fun _ _ _ _ _ _ _ _ _ _ _ _ _ z => z.elim
  · rw [e]; exact mkF (Z := zn K) (c := "Program") (show "Program" ∈ cs0 from List.mem_of_getElem? (i := 1) rfl)
theorem mk_Stand {g : Gs} {k : Nat} (I : Ih P w K mg base fd g k) : MkOk (zn K) (He.ga K "Stand") (psOf .Stand_dinit).length (g 1 .Stand_dinit) (g 0 .c_Stand) := by
  rcases I.cl_Stand with e | e
  · rw [e]; exact fun _ _ _ _ _ _ _ _ _ _ _ _ _ z => z.elim
  · rw [e]; exact mkF (Z := zn K) (c := "Stand") (show "Stand" ∈ cs0 from List.mem_of_getElem? (i := 2) rfl)
theorem mk_Run {g : Gs} {k : Nat} (I : Ih P w K mg base fd g k) : MkOk (zn K) (He.ga K "Run") (psOf .Run_dinit).length (g 1 .Run_dinit) (g 0 .c_Run) := by
  rcases I.cl_Run with e | e
  · rw [e]; exact fun _ _ _ _ _ _ _ _ _ _ _ _ _ z => z.elim
  · rw [e]; exact mkF (Z := zn K) (c := "Run") (show "Run" ∈ cs0 from List.mem_of_getElem? (i := 3) rfl)
theorem ow_dlen {g : Gs} {k : Nat} {X : Cx} (I : Ih X.prog X.w X.K X.mg X.base fd g k) (U : Fx X.K X.mg X.w) (hr : Room (k + 3) X.A) : OwnMs (zn X.K) X 1 "__len__" [("Thing", g 1 .Thing_dlen), ("Program", g 1 .Program_dlen)] := by
  intro c S h
  rw [List.lookup_cons] at h
  split at h
  · rename_i hc
    cases beq_iff_eq.mp hc
    cases h
    refine .inr ⟨k + 2, hr, He.ma X.K (He.ga X.K "Thing") "__len__", _, ["self"], U.o_Thing_dlen.at_, U.o_Thing_dlen.fn, rfl, ?_, I.all 1 (by omega) .Thing_dlen True.intro⟩
    exact FunD.bindsN (I.F .Thing_dlen) fun _ _ _ _ _ _ us hl => match us, hl with | [_], _ => rfl
  rw [List.lookup_cons] at h
  split at h
  · rename_i hc
    cases beq_iff_eq.mp hc
    cases h
    refine .inr ⟨k + 2, hr, He.ma X.K (He.ga X.K "Program") "__len__", _, ["self"], U.o_Program_dlen.at_, U.o_Program_dlen.fn, rfl, ?_, I.all 1 (by omega) .Program_dlen True.intro⟩
    exact FunD.bindsN (I.F .Program_dlen) fun _ _ _ _ _ _ us hl => match us, hl with | [_], _ => rfl
  cases h
theorem sh_law_bag_2 (F : FD K fd .law_bag) : Shape K (fd .law_bag) (psOf .law_bag) 2 [] [.arg 0, .arg 1] := shapeN (br := [.inl 0, .inl 1]) F rfl (fun _ => rfl) fun _ _ _ _ _ _ us ws h1 h2 => match us, ws, h1, h2 with | [_, _], [], _, _ => rfl
theorem sh_Program_dinit_1 (F : FD K fd .Program_dinit) : ShapeC K (fd .Program_dinit) (psOf .Program_dinit) 1 [] [.arg 0] := shapeC (show Shape K (fd .Program_dinit) (psOf .Program_dinit) 2 [] (.arg 0 :: [.arg 0].map Ar.up) from shapeN (br := [.inl 0, .inl 1]) F rfl (fun _ => rfl) fun _ _ _ _ _ _ us ws h1 h2 => match us, ws, h1, h2 with | [_, _], [], _, _ => rfl) rfl
theorem sh_law_top_2 (F : FD K fd .law_top) : Shape K (fd .law_top) (psOf .law_top) 2 [] [.arg 0, .arg 1] := shapeN (br := [.inl 0, .inl 1]) F rfl (fun _ => rfl) fun _ _ _ _ _ _ us ws h1 h2 => match us, ws, h1, h2 with | [_, _], [], _, _ => rfl
theorem sh_law_thing_2 (F : FD K fd .law_thing) : Shape K (fd .law_thing) (psOf .law_thing) 2 [] [.arg 0, .arg 1] := shapeN (br := [.inl 0, .inl 1]) F rfl (fun _ => rfl) fun _ _ _ _ _ _ us ws h1 h2 => match us, ws, h1, h2 with | [_, _], [], _, _ => rfl
theorem sh_law_take_2 (F : FD K fd .law_take) : Shape K (fd .law_take) (psOf .law_take) 2 [] [.arg 0, .arg 1] := shapeN (br := [.inl 0, .inl 1]) F rfl (fun _ => rfl) fun _ _ _ _ _ _ us ws h1 h2 => match us, ws, h1, h2 with | [_, _], [], _, _ => rfl
theorem sh_law_right_4 (F : FD K fd .law_right) : Shape K (fd .law_right) (psOf .law_right) 4 [] [.arg 0, .arg 1, .arg 2, .arg 3] := shapeN (br := [.inl 0, .inl 1, .inl 2, .inl 3]) F rfl (fun _ => rfl) fun _ _ _ _ _ _ us ws h1 h2 => match us, ws, h1, h2 with | [_, _, _, _], [], _, _ => rfl
theorem sh_law_great_right_4 (F : FD K fd .law_great_right) : Shape K (fd .law_great_right) (psOf .law_great_right) 4 [] [.arg 0, .arg 1, .arg 2, .arg 3] := shapeN (br := [.inl 0, .inl 1, .inl 2, .inl 3]) F rfl (fun _ => rfl) fun _ _ _ _ _ _ us ws h1 h2 => match us, ws, h1, h2 with | [_, _, _, _], [], _, _ => rfl
theorem sh_half_given_2 (F : FD K fd .half_given) : Shape K (fd .half_given) (psOf .half_given) 2 [] [.arg 0, .arg 1] := shapeN (br := [.inl 0, .inl 1]) F rfl (fun _ => rfl) fun _ _ _ _ _ _ us ws h1 h2 => match us, ws, h1, h2 with | [_, _], [], _, _ => rfl
theorem sh_check_row_3 (F : FD K fd .check_row) : Shape K (fd .check_row) (psOf .check_row) 3 [] [.arg 0, .arg 1, .arg 2] := shapeN (br := [.inl 0, .inl 1, .inl 2]) F rfl (fun _ => rfl) fun _ _ _ _ _ _ us ws h1 h2 => match us, ws, h1, h2 with | [_, _, _], [], _, _ => rfl
theorem sh_placed_4 (F : FD K fd .placed) : Shape K (fd .placed) (psOf .placed) 4 [] [.arg 0, .arg 1, .arg 2, .arg 3] := shapeN (br := [.inl 0, .inl 1, .inl 2, .inl 3]) F rfl (fun _ => rfl) fun _ _ _ _ _ _ us ws h1 h2 => match us, ws, h1, h2 with | [_, _, _, _], [], _, _ => rfl
theorem sh_law_deeds_3 (F : FD K fd .law_deeds) : Shape K (fd .law_deeds) (psOf .law_deeds) 3 [] [.arg 0, .arg 1, .arg 2] := shapeN (br := [.inl 0, .inl 1, .inl 2]) F rfl (fun _ => rfl) fun _ _ _ _ _ _ us ws h1 h2 => match us, ws, h1, h2 with | [_, _, _], [], _, _ => rfl
theorem sh_Thing_dinit_0 (F : FD K fd .Thing_dinit) : ShapeC K (fd .Thing_dinit) (psOf .Thing_dinit) 0 [] [.dfl .non, .dfl .non] := shapeC (show Shape K (fd .Thing_dinit) (psOf .Thing_dinit) 1 [] (.arg 0 :: [.dfl .non, .dfl .non].map Ar.up) from shapeD (br := [.inl 0, .inr 0, .inr 1]) F (fun z => nomatch z) rfl (fun _ => rfl) fun T _ _ _ _ _ _ us its ws h1 h2 h3 => match us, its, ws, h1, h2, h3 with | [_], [_, _], [], _, _, _ => ⟨_, rfl, rfl⟩) rfl
theorem sh_Thing_dinit_2 (F : FD K fd .Thing_dinit) : ShapeC K (fd .Thing_dinit) (psOf .Thing_dinit) 2 [] [.arg 0, .arg 1] := shapeC (show Shape K (fd .Thing_dinit) (psOf .Thing_dinit) 3 [] (.arg 0 :: [.arg 0, .arg 1].map Ar.up) from shapeD (br := [.inl 0, .inl 1, .inl 2]) F (fun z => nomatch z) rfl (fun _ => rfl) fun T _ _ _ _ _ _ us its ws h1 h2 h3 => match us, its, ws, h1, h2, h3 with | [_, _, _], [_, _], [], _, _, _ => ⟨_, rfl, rfl⟩) rfl
theorem sh_half_given_0_thing_program (F : FD K fd .half_given) : Shape K (fd .half_given) (psOf .half_given) 0 ["thing", "program"] [.arg 1, .arg 0] := shapeN (br := [.inl 1, .inl 0]) F rfl (fun _ => rfl) fun _ _ _ _ _ _ us ws h1 h2 => match us, ws, h1, h2 with | [], [_, _], _, _ => rfl
theorem sh_law_stood_3 (F : FD K fd .law_stood) : Shape K (fd .law_stood) (psOf .law_stood) 3 [] [.arg 0, .arg 1, .arg 2] := shapeN (br := [.inl 0, .inl 1, .inl 2]) F rfl (fun _ => rfl) fun _ _ _ _ _ _ us ws h1 h2 => match us, ws, h1, h2 with | [_, _, _], [], _, _ => rfl
theorem sh_Stand_dinit_2 (F : FD K fd .Stand_dinit) : ShapeC K (fd .Stand_dinit) (psOf .Stand_dinit) 2 [] [.arg 0, .arg 1] := shapeC (show Shape K (fd .Stand_dinit) (psOf .Stand_dinit) 3 [] (.arg 0 :: [.arg 0, .arg 1].map Ar.up) from shapeN (br := [.inl 0, .inl 1, .inl 2]) F rfl (fun _ => rfl) fun _ _ _ _ _ _ us ws h1 h2 => match us, ws, h1, h2 with | [_, _, _], [], _, _ => rfl) rfl
theorem sh_law_nils_1 (F : FD K fd .law_nils) : Shape K (fd .law_nils) (psOf .law_nils) 1 [] [.arg 0] := shapeN (br := [.inl 0]) F rfl (fun _ => rfl) fun _ _ _ _ _ _ us ws h1 h2 => match us, ws, h1, h2 with | [_], [], _, _ => rfl
theorem sh_run_3 (F : FD K fd .run) : Shape K (fd .run) (psOf .run) 3 [] [.arg 0, .arg 1, .arg 2] := shapeD (br := [.inl 0, .inl 1, .inl 2]) F (fun z => nomatch z) rfl (fun _ => rfl) fun T _ _ _ _ _ _ us its ws h1 h2 h3 => match us, its, ws, h1, h2, h3 with | [_, _, _], [_], [], _, _, _ => ⟨_, rfl, rfl⟩
theorem sh_Run_dinit_3 (F : FD K fd .Run_dinit) : ShapeC K (fd .Run_dinit) (psOf .Run_dinit) 3 [] [.arg 0, .arg 1, .arg 2] := shapeC (show Shape K (fd .Run_dinit) (psOf .Run_dinit) 4 [] (.arg 0 :: [.arg 0, .arg 1, .arg 2].map Ar.up) from shapeD (br := [.inl 0, .inl 1, .inl 2, .inl 3]) F (fun z => nomatch z) rfl (fun _ => rfl) fun T _ _ _ _ _ _ us its ws h1 h2 h3 => match us, its, ws, h1, h2, h3 with | [_, _, _, _], [_], [], _, _, _ => ⟨_, rfl, rfl⟩) rfl
theorem sh_law_great_1 (F : FD K fd .law_great) : Shape K (fd .law_great) (psOf .law_great) 1 [] [.arg 0] := shapeN (br := [.inl 0]) F rfl (fun _ => rfl) fun _ _ _ _ _ _ us ws h1 h2 => match us, ws, h1, h2 with | [_], [], _, _ => rfl
theorem sh_Run_dinit_2 (F : FD K fd .Run_dinit) : ShapeC K (fd .Run_dinit) (psOf .Run_dinit) 2 [] [.arg 0, .arg 1, .dfl .non] := shapeC (show Shape K (fd .Run_dinit) (psOf .Run_dinit) 3 [] (.arg 0 :: [.arg 0, .arg 1, .dfl .non].map Ar.up) from shapeD (br := [.inl 0, .inl 1, .inl 2, .inr 0]) F (fun z => nomatch z) rfl (fun _ => rfl) fun T _ _ _ _ _ _ us its ws h1 h2 h3 => match us, its, ws, h1, h2, h3 with | [_, _, _], [_], [], _, _, _ => ⟨_, rfl, rfl⟩) rfl
theorem sh_cleared_deed_1 (F : FD K fd .cleared_deed) : Shape K (fd .cleared_deed) (psOf .cleared_deed) 1 [] [.arg 0] := shapeN (br := [.inl 0]) F rfl (fun _ => rfl) fun _ _ _ _ _ _ us ws h1 h2 => match us, ws, h1, h2 with | [_], [], _, _ => rfl
theorem sh_check_deed_3 (F : FD K fd .check_deed) : Shape K (fd .check_deed) (psOf .check_deed) 3 [] [.arg 0, .arg 1, .arg 2] := shapeN (br := [.inl 0, .inl 1, .inl 2]) F rfl (fun _ => rfl) fun _ _ _ _ _ _ us ws h1 h2 => match us, ws, h1, h2 with | [_, _, _], [], _, _ => rfl
theorem sh_rows_of_1 (F : FD K fd .rows_of) : Shape K (fd .rows_of) (psOf .rows_of) 1 [] [.arg 0] := shapeN (br := [.inl 0]) F rfl (fun _ => rfl) fun _ _ _ _ _ _ us ws h1 h2 => match us, ws, h1, h2 with | [_], [], _, _ => rfl
theorem sh_size_of_1 (F : FD K fd .size_of) : Shape K (fd .size_of) (psOf .size_of) 1 [] [.arg 0] := shapeN (br := [.inl 0]) F rfl (fun _ => rfl) fun _ _ _ _ _ _ us ws h1 h2 => match us, ws, h1, h2 with | [_], [], _, _ => rfl
theorem sh_law_deed_3 (F : FD K fd .law_deed) : Shape K (fd .law_deed) (psOf .law_deed) 3 [] [.arg 0, .arg 1, .arg 2] := shapeN (br := [.inl 0, .inl 1, .inl 2]) F rfl (fun _ => rfl) fun _ _ _ _ _ _ us ws h1 h2 => match us, ws, h1, h2 with | [_, _, _], [], _, _ => rfl
theorem sh_begin_2 (F : FD K fd .begin) : Shape K (fd .begin) (psOf .begin) 2 [] [.arg 0, .arg 1] := shapeN (br := [.inl 0, .inl 1]) F rfl (fun _ => rfl) fun _ _ _ _ _ _ us ws h1 h2 => match us, ws, h1, h2 with | [_, _], [], _, _ => rfl
theorem sh_step_2 (F : FD K fd .step) : Shape K (fd .step) (psOf .step) 2 [] [.arg 0, .arg 1] := shapeN (br := [.inl 0, .inl 1]) F rfl (fun _ => rfl) fun _ _ _ _ _ _ us ws h1 h2 => match us, ws, h1, h2 with | [_, _], [], _, _ => rfl
theorem sh_go_on_3 (F : FD K fd .go_on) : Shape K (fd .go_on) (psOf .go_on) 3 [] [.arg 0, .arg 1, .arg 2] := shapeN (br := [.inl 0, .inl 1, .inl 2]) F rfl (fun _ => rfl) fun _ _ _ _ _ _ us ws h1 h2 => match us, ws, h1, h2 with | [_, _, _], [], _, _ => rfl
theorem sh_has_form_2 (F : FD K fd .has_form) : Shape K (fd .has_form) (psOf .has_form) 2 [] [.arg 0, .arg 1] := shapeN (br := [.inl 0, .inl 1]) F rfl (fun _ => rfl) fun _ _ _ _ _ _ us ws h1 h2 => match us, ws, h1, h2 with | [_, _], [], _, _ => rfl
theorem sh_law_name_1 (F : FD K fd .law_name) : Shape K (fd .law_name) (psOf .law_name) 1 [] [.arg 0] := shapeN (br := [.inl 0]) F rfl (fun _ => rfl) fun _ _ _ _ _ _ us ws h1 h2 => match us, ws, h1, h2 with | [_], [], _, _ => rfl
theorem sh_value_of_2 (F : FD K fd .value_of) : Shape K (fd .value_of) (psOf .value_of) 2 [] [.arg 0, .arg 1] := shapeN (br := [.inl 0, .inl 1]) F rfl (fun _ => rfl) fun _ _ _ _ _ _ us ws h1 h2 => match us, ws, h1, h2 with | [_, _], [], _, _ => rfl
theorem sh_names_of_1 (F : FD K fd .names_of) : Shape K (fd .names_of) (psOf .names_of) 1 [] [.arg 0] := shapeN (br := [.inl 0]) F rfl (fun _ => rfl) fun _ _ _ _ _ _ us ws h1 h2 => match us, ws, h1, h2 with | [_], [], _, _ => rfl
theorem sh_is_name_1 (F : FD K fd .is_name) : Shape K (fd .is_name) (psOf .is_name) 1 [] [.arg 0] := shapeN (br := [.inl 0]) F rfl (fun _ => rfl) fun _ _ _ _ _ _ us ws h1 h2 => match us, ws, h1, h2 with | [_], [], _, _ => rfl
theorem sh_Thing_head_1 (F : FD K fd .Thing_head) : Shape K (fd .Thing_head) (psOf .Thing_head) 1 [] [.arg 0] := shapeN (br := [.inl 0]) F rfl (fun _ => rfl) fun _ _ _ _ _ _ us ws h1 h2 => match us, ws, h1, h2 with | [_], [], _, _ => rfl
theorem sh_Thing_tail_1 (F : FD K fd .Thing_tail) : Shape K (fd .Thing_tail) (psOf .Thing_tail) 1 [] [.arg 0] := shapeN (br := [.inl 0]) F rfl (fun _ => rfl) fun _ _ _ _ _ _ us ws h1 h2 => match us, ws, h1, h2 with | [_], [], _, _ => rfl
theorem sh_yes_0 (F : FD K fd .yes) : Shape K (fd .yes) (psOf .yes) 0 [] [] := shapeN (br := []) F rfl (fun _ => rfl) fun _ _ _ _ _ _ us ws h1 h2 => match us, ws, h1, h2 with | [], [], _, _ => rfl
abbrev EqF (P : Program) (w : World) (K : PySem.W.Frag) (mg : Str → Option Value) (base : Heap) (k : Nat) : Prop := ∀ X : Cx, X.K = K → X.prog = P → X.w = w → X.mg = mg → X.base = base → EqAll (zn K) X (k + 3) ∧ (∀ c ∈ (zn K).es, NeCls (zn K) X c) ∧ IsiF (zn K) X
theorem sc_TooGreat_dinit : FnScope ["self", "bound"] ["self", "bound"] (defScope s_TooGreat_dinit) := ⟨rfl, rfl, rfl, by decide +kernel, rfl, by decide +kernel, by decide +kernel⟩
theorem xi_TooGreat {g : Gs} {k j : Nat} (I : Ih P w K mg base fd g k) (U : Fx K mg w) : FnOk P w K mg base (CX P w) (j + 1) (adr K .TooGreat_dinit) (fd .TooGreat_dinit) ["self", "bound"] (spX K (newOf (xBase "TooGreat")) (bmOf (xBase "TooGreat")) (Str.ofString "bound")) :=
  fn_x (I.F .TooGreat_dinit) sc_TooGreat_dinit fun cdv A outer s H E => pss_cons (ps_expr (pe_xinit xb_TooGreat.fb rfl U.n_OverflowError bx_TooGreat xb_TooGreat.ty U.x_TooGreat.bcl xb_TooGreat.st xb_TooGreat.hd (pa_cons (pe_var (i := 0) rfl (Or.inl rfl)) (pa_cons pe_str pa_nil)))) (pss_one (ps_xset xb_TooGreat.sf (pe_var (i := 0) rfl (Or.inl rfl)) (pe_var (i := 1) rfl (Or.inl rfl))))
theorem scw_Run_dinit : FnScope ["self", "word", "steps", "thing"] ["self", "word", "steps", "thing"] (defScope s_Run_dinit) := ⟨rfl, rfl, rfl, by decide +kernel, rfl, by decide +kernel, by decide +kernel⟩
theorem okw_Run_dinit {g : Gs} {k : Nat} (I : Ih P w K mg base fd g k) (U : Fx K mg w) : FnW P w K mg base (CX P w) (0 + 1) (adr K .Run_dinit) (fd .Run_dinit) (psOf .Run_dinit) (spOf (zn K) (psOf .Run_dinit).length (wBody N_Run_dinit (T_Run_dinit g k))) :=
  fn_w (T := T_Run_dinit g k) (I.F .Run_dinit) scw_Run_dinit fun cdv A outer s H E => (dss_cons (sattW "word" rfl U.clz (List.mem_of_getElem? (i := 4) rfl) (qv 0) (qv 1)) (dss_cons (sattW "steps" rfl U.clz (List.mem_of_getElem? (i := 5) rfl) (qv 0) (qv 2)) (dss_cons (sattW "thing" rfl U.clz (List.mem_of_getElem? (i := 6) rfl) (qv 0) (qv 3)) dss_nil)))
theorem ok_TooGreat_dinit {g : Gs} {k : Nat} (I : Ih P w K mg base fd g k) (U : Fx K mg w) (E : EqF P w K mg base k) : Ok P w K mg base fd (k + 1 + 3) .TooGreat_dinit (step g k .TooGreat_dinit) := fn_bot rfl
theorem sc_Thing_dinit : FnScope ["self", "first", "second"] ["self", "first", "second"] (defScope s_Thing_dinit) := ⟨rfl, rfl, rfl, by decide +kernel, rfl, by decide +kernel, by decide +kernel⟩
theorem ok_Thing_dinit {g : Gs} {k : Nat} (I : Ih P w K mg base fd g k) (U : Fx K mg w) (E : EqF P w K mg base k) : Ok P w K mg base fd (k + 1 + 3) .Thing_dinit (step g k .Thing_dinit) :=
  fn_c (T := T_Thing_dinit g k) (I.F .Thing_dinit) sc_Thing_dinit rfl E fun cdv A outer s H E c => (dss_cons (satt "left" c U.clz (List.mem_of_getElem? (i := 9) rfl) (qv 0) (qv 1)) (dss_cons (satt "right" c U.clz (List.mem_of_getElem? (i := 10) rfl) (qv 0) (qv 2)) (dss_cons (satt "many" c U.clz (List.mem_of_getElem? (i := 7) rfl) (qv 0) de_int) (dss_cons (satt "text" c U.clz (List.mem_of_getElem? (i := 0) rfl) (qv 0) (qgs U.v_NIL_TEXT)) (dss_cons (satt "marked" c U.clz (List.mem_of_getElem? (i := 11) rfl) (qv 0) de_bl) (dss_cons (ds_if (tcmp oNotN (qv 1) de_non) (dss_cons (satt "many" c U.clz (List.mem_of_getElem? (i := 7) rfl) (qv 0) (qadd c (qadd c de_int (qat "many" c U.clz (List.mem_of_getElem? (i := 7) rfl) (qv 1))) (qat "many" c U.clz (List.mem_of_getElem? (i := 7) rfl) (qv 2)))) (dss_cons (ds_if (tcmp (oI op_gt) (qat "many" c U.clz (List.mem_of_getElem? (i := 7) rfl) (qv 0)) (qgi U.v_MOST_PAIRS)) (dss_cons (sraise "TooGreat" "bound" c xb_TooGreat U.x_TooGreat (xi_TooGreat I U) (FunD.bindsN (I.F .TooGreat_dinit) fun _ _ _ _ _ _ us hl => match us, hl with | [_, _], _ => rfl) U.m_TooGreat (qgi U.v_MOST_PAIRS)) dss_nil) dss_nil) (dss_cons (satt "text" c U.clz (List.mem_of_getElem? (i := 0) rfl) (qv 0) (de_joined (DJ.cons (qs "(") (DJ.cons (de_fmt (qat "text" c U.clz (List.mem_of_getElem? (i := 0) rfl) (qv 1))) (DJ.cons (de_fmt (qat "text" c U.clz (List.mem_of_getElem? (i := 0) rfl) (qv 2))) (DJ.cons (qs ")") DJ.nil)))))) (dss_cons (satt "marked" c U.clz (List.mem_of_getElem? (i := 11) rfl) (qv 0) (de_or (qat "marked" c U.clz (List.mem_of_getElem? (i := 11) rfl) (qv 1)) (de_one (qat "marked" c U.clz (List.mem_of_getElem? (i := 11) rfl) (qv 2))))) dss_nil)))) dss_nil) dss_nil))))))
theorem sc_Thing_deq : FnScope ["self", "other"] ["self", "other"] (defScope s_Thing_deq) := ⟨rfl, rfl, rfl, by decide +kernel, rfl, by decide +kernel, by decide +kernel⟩
theorem ok_Thing_deq {g : Gs} {k : Nat} (I : Ih P w K mg base fd g k) (U : Fx K mg w) (E : EqF P w K mg base k) : Ok P w K mg base fd (k + 1 + 3) .Thing_deq (step g k .Thing_deq) :=
  fn_c (T := T_Thing_deq g k) (I.F .Thing_deq) sc_Thing_deq rfl E fun cdv A outer s H E c => (dss_cons (ds_ret (de_and (qis c (show "Thing" ∈ cs0 from List.mem_of_getElem? (i := 0) rfl) U.n_isinstance bt_isinstance (qv 1) (pe_glob rfl U.m_Thing rfl)) (de_one (qcmp (oEq c) (qat "text" c U.clz (List.mem_of_getElem? (i := 0) rfl) (qv 0)) (qat "text" c U.clz (List.mem_of_getElem? (i := 0) rfl) (qv 1)))))) dss_nil)
theorem sc_Thing_dlen : FnScope ["self"] ["self"] (defScope s_Thing_dlen) := ⟨rfl, rfl, rfl, by decide +kernel, rfl, by decide +kernel, by decide +kernel⟩
theorem ok_Thing_dlen {g : Gs} {k : Nat} (I : Ih P w K mg base fd g k) (U : Fx K mg w) (E : EqF P w K mg base k) : Ok P w K mg base fd (k + 1 + 3) .Thing_dlen (step g k .Thing_dlen) :=
  fn_c (T := T_Thing_dlen g k) (I.F .Thing_dlen) sc_Thing_dlen rfl E fun cdv A outer s H E c => (dss_cons (ds_ret (qlenR U.n_len U.n_range (ac (qat "many" c U.clz (List.mem_of_getElem? (i := 7) rfl) (qv 0)) da_nil))) dss_nil)
theorem sc_Thing_head : FnScope ["self"] ["self"] (defScope s_Thing_head) := ⟨rfl, rfl, rfl, by decide +kernel, rfl, by decide +kernel, by decide +kernel⟩
theorem ok_Thing_head {g : Gs} {k : Nat} (I : Ih P w K mg base fd g k) (U : Fx K mg w) (E : EqF P w K mg base k) : Ok P w K mg base fd (k + 1 + 3) .Thing_head (step g k .Thing_head) :=
  fn_c (T := T_Thing_head g k) (I.F .Thing_head) sc_Thing_head rfl E fun cdv A outer s H E c => (dss_cons (ds_ret (de_ite (tcmp oNotN (qat "left" c U.clz (List.mem_of_getElem? (i := 9) rfl) (qv 0)) de_non) (qat "left" c U.clz (List.mem_of_getElem? (i := 9) rfl) (qv 0)) (qmake0 c U.k_Thing (mk_Thing I) (I.f1 .Thing_dinit) U.m_Thing (sh_Thing_dinit_0 (I.F .Thing_dinit)) rfl dkw_nil))) dss_nil)
theorem sc_Thing_tail : FnScope ["self"] ["self"] (defScope s_Thing_tail) := ⟨rfl, rfl, rfl, by decide +kernel, rfl, by decide +kernel, by decide +kernel⟩
theorem ok_Thing_tail {g : Gs} {k : Nat} (I : Ih P w K mg base fd g k) (U : Fx K mg w) (E : EqF P w K mg base k) : Ok P w K mg base fd (k + 1 + 3) .Thing_tail (step g k .Thing_tail) :=
  fn_c (T := T_Thing_tail g k) (I.F .Thing_tail) sc_Thing_tail rfl E fun cdv A outer s H E c => (dss_cons (ds_ret (de_ite (tcmp oNotN (qat "right" c U.clz (List.mem_of_getElem? (i := 10) rfl) (qv 0)) de_non) (qat "right" c U.clz (List.mem_of_getElem? (i := 10) rfl) (qv 0)) (qmake0 c U.k_Thing (mk_Thing I) (I.f1 .Thing_dinit) U.m_Thing (sh_Thing_dinit_0 (I.F .Thing_dinit)) rfl dkw_nil))) dss_nil)
theorem sc_yes : FnScope [] [] (defScope s_yes) := ⟨rfl, rfl, rfl, by decide +kernel, rfl, by decide +kernel, by decide +kernel⟩
theorem ok_yes {g : Gs} {k : Nat} (I : Ih P w K mg base fd g k) (U : Fx K mg w) (E : EqF P w K mg base k) : Ok P w K mg base fd (k + 1 + 3) .yes (step g k .yes) :=
  fn_c (T := T_yes g k) (I.F .yes) sc_yes rfl E fun cdv A outer s H E c => (dss_cons (ds_ret (qmake c U.k_Thing (mk_Thing I) (I.f1 .Thing_dinit) U.m_Thing (sh_Thing_dinit_2 (I.F .Thing_dinit)) rfl (ac (qmake0 c U.k_Thing (mk_Thing I) (I.f1 .Thing_dinit) U.m_Thing (sh_Thing_dinit_0 (I.F .Thing_dinit)) rfl dkw_nil) (ac (qmake0 c U.k_Thing (mk_Thing I) (I.f1 .Thing_dinit) U.m_Thing (sh_Thing_dinit_0 (I.F .Thing_dinit)) rfl dkw_nil) da_nil)) dkw_nil)) dss_nil)
theorem sc_is_name : FnScope ["thing"] ["thing"] (defScope s_is_name) := ⟨rfl, rfl, rfl, by decide +kernel, rfl, by decide +kernel, by decide +kernel⟩
theorem ok_is_name {g : Gs} {k : Nat} (I : Ih P w K mg base fd g k) (U : Fx K mg w) (E : EqF P w K mg base k) : Ok P w K mg base fd (k + 1 + 3) .is_name (step g k .is_name) :=
  fn_c (T := T_is_name g k) (I.F .is_name) sc_is_name rfl E fun cdv A outer s H E c => (dss_cons (ds_ret (de_and (qis c (show "int" ∈ plainTs by decide) U.n_isinstance bt_isinstance (qv 0) (pe_bty U.n_int bt_int)) (de_and (de_not (qis c (show "bool" ∈ plainTs by decide) U.n_isinstance bt_isinstance (qv 0) (pe_bty U.n_bool bt_bool))) (de_one (qchain (oI op_le) (oI op_lt) de_int (qv 0) (qgi U.v_MOST_NAMES)))))) dss_nil)
theorem sc_rows_of : FnScope ["deed"] ["deed"] (defScope s_rows_of) := ⟨rfl, rfl, rfl, by decide +kernel, rfl, by decide +kernel, by decide +kernel⟩
theorem ok_rows_of {g : Gs} {k : Nat} (I : Ih P w K mg base fd g k) (U : Fx K mg w) (E : EqF P w K mg base k) : Ok P w K mg base fd (k + 1 + 3) .rows_of (step g k .rows_of) :=
  fn_c (T := T_rows_of g k) (I.F .rows_of) sc_rows_of rfl E fun cdv A outer s H E c => (dss_cons (ds_ret (de_ite (db_tin U.t_ROWS_OF (qix c (qv 0) de_int) (pe_glob rfl U.m_ROWS_OF rfl) rfl) (qsl c (qv 0) (do_some de_int) do_none) (de_tup da_nil))) dss_nil)
theorem sc_names_of : FnScope ["deed"] ["deed"] (defScope s_names_of) := ⟨rfl, rfl, rfl, by decide +kernel, rfl, by decide +kernel, by decide +kernel⟩
theorem ok_names_of {g : Gs} {k : Nat} (I : Ih P w K mg base fd g k) (U : Fx K mg w) (E : EqF P w K mg base k) : Ok P w K mg base fd (k + 1 + 3) .names_of (step g k .names_of) :=
  fn_c (T := T_names_of g k) (I.F .names_of) sc_names_of rfl E fun cdv A outer s H E c => (dss_cons (ds_ret (qsl c (qv 0) (do_some de_int) (do_some (qadd c de_int (de_tix U.t_NAMES_OF (pe_glob rfl U.m_NAMES_OF rfl) (qix c (qv 0) de_int) (by intro _ _; rfl)))))) dss_nil)
theorem sc_has_form : FnScope ["thing", "deep", "kind", "many", "name", "row"] ["thing", "deep"] (defScope s_has_form) := ⟨rfl, rfl, rfl, by decide +kernel, rfl, by decide +kernel, by decide +kernel⟩
theorem ok_has_form {g : Gs} {k : Nat} (I : Ih P w K mg base fd g k) (U : Fx K mg w) (E : EqF P w K mg base k) : Ok P w K mg base fd (k + 1 + 3) .has_form (step g k .has_form) :=
  fn_c (T := T_has_form g k) (I.F .has_form) sc_has_form rfl E fun cdv A outer s H E c => (dss_cons (ds_if (PW.pt (dw_or (db_not (tval (qis c (show "tuple" ∈ plainTs by decide) U.n_isinstance bt_isinstance (qv 0) (pe_bty U.n_tuple bt_tuple)))) (dw_or (tcmp (oEq c) (qv 0) (de_tup da_nil)) (dw_or (db_not (tval (qis c (show "str" ∈ plainTs by decide) U.n_isinstance bt_isinstance (qix c (qv 0) de_int) (pe_bty U.n_str bt_str)))) (dw_or1 (db_tnin U.t_NAMES_OF (qix c (qv 0) de_int) (pe_glob rfl U.m_NAMES_OF rfl) rfl)))))) (dss_cons (ds_ret de_bl) dss_nil) dss_nil) (dss_cons (sset 2 c (qix c (qv 0) de_int)) (dss_cons (sset 3 c (qadd c (qadd c (qadd c de_int (de_tix U.t_NAMES_OF (pe_glob rfl U.m_NAMES_OF rfl) (qv 2) (by intro _ _; rfl))) (de_tget U.t_ROWS_OF (pe_glob rfl U.m_ROWS_OF rfl) (qv 2) pe_int ⟨rfl, rfl, rfl, rfl⟩)) (qT U.n_int bt_int (CallD.ofR call_int1 ref_int) (ac (qcmp (oEq c) (qv 2) (qs "told")) da_nil)))) (dss_cons (ds_if (PW.pt (dw_or (tcmp (oNe c) (qB U.n_len bt_len (cd_len c.hz c.tk (ow_dlen I U c.hr)) (ac (qv 0) da_nil)) (qv 3)) (dw_or1 (db_not (tval (qB U.n_all bt_all (CallD.ofR (cr_all c.calm) ref_all) (ac (qlc [("name", 4)] c (blkOk_by (N := N_has_form) (sc := defScope s_has_form) (by decide +kernel)) (iv c (qcall c (I.f0 .names_of) U.m_names_of (I.kp .names_of) (sh_names_of_1 (I.F .names_of)) rfl (ac (qv 0) da_nil) dkw_nil)) (cg_one (by decide)) (fun s H C cl fp => gnV 4 (c.blk ..)) (fun s H C cl fp c => dts_nil) (fun s H C cl fp c => (qcall c (I.f0 .is_name) U.m_is_name (I.kp .is_name) (sh_is_name_1 (I.F .is_name)) rfl (ac (qv 4) da_nil) dkw_nil))) da_nil))))))) (dss_cons (ds_ret de_bl) dss_nil) dss_nil) (dss_cons (ds_if (tcmp (oEq c) (qv 2) (qs "told")) (dss_cons (ds_ret (qis c (show "Thing" ∈ cs0 from List.mem_of_getElem? (i := 0) rfl) U.n_isinstance bt_isinstance (qix c (qv 0) de_int) (pe_glob rfl U.m_Thing rfl))) dss_nil) dss_nil) (dss_cons (ds_if (db_tin U.t_ROWS_OF (qv 2) (pe_glob rfl U.m_ROWS_OF rfl) rfl) (dss_cons (ds_ret (de_and (qcmp (oI op_le) (qv 1) (qgi U.v_MOST_DEEP)) (de_one (qB U.n_all bt_all (CallD.ofR (cr_all c.calm) ref_all) (ac (qlc [("row", 5)] c (blkOk_by (N := N_has_form) (sc := defScope s_has_form) (by decide +kernel)) (iv c (qsl c (qv 0) (do_some de_int) do_none)) (cg_one (by decide)) (fun s H C cl fp => gnV 5 (c.blk ..)) (fun s H C cl fp c => dts_nil) (fun s H C cl fp c => (qis c (show "tuple" ∈ plainTs by decide) U.n_isinstance bt_isinstance (qv 5) (pe_bty U.n_tuple bt_tuple)))) da_nil))))) dss_nil) dss_nil) (dss_cons (ds_ret de_bl) dss_nil)))))))
theorem sc_check_row : FnScope ["row", "deep", "at", "deed"] ["row", "deep", "at"] (defScope s_check_row) := ⟨rfl, rfl, rfl, by decide +kernel, rfl, by decide +kernel, by decide +kernel⟩
theorem ok_check_row {g : Gs} {k : Nat} (I : Ih P w K mg base fd g k) (U : Fx K mg w) (E : EqF P w K mg base k) : Ok P w K mg base fd (k + 1 + 3) .check_row (step g k .check_row) :=
  fn_c (T := T_check_row g k) (I.F .check_row) sc_check_row rfl E fun cdv A outer s H E c => (dss_cons (sfor c (iv c (qv 0)) (gn 3 c) (dss_cons (sset 2 c (qcall c (I.f0 .check_deed) U.m_check_deed (I.kp .check_deed) (sh_check_deed_3 (I.F .check_deed)) rfl (ac (qv 3) (ac (qv 1) (ac (qv 2) da_nil))) dkw_nil)) dss_nil)) (dss_cons (ds_ret (qv 2)) dss_nil))
theorem sc_check_deed : FnScope ["deed", "deep", "at", "row"] ["deed", "deep", "at"] (defScope s_check_deed) := ⟨rfl, rfl, rfl, by decide +kernel, rfl, by decide +kernel, by decide +kernel⟩
theorem ok_check_deed {g : Gs} {k : Nat} (I : Ih P w K mg base fd g k) (U : Fx K mg w) (E : EqF P w K mg base k) : Ok P w K mg base fd (k + 1 + 3) .check_deed (step g k .check_deed) :=
  fn_c (T := T_check_deed g k) (I.F .check_deed) sc_check_deed rfl E fun cdv A outer s H E c => (dss_cons (ds_if (PW.pt (dw_or (tcmp (oI op_ge) (qv 2) (qgi U.v_MOST_DEEDS)) (dw_or1 (db_not (tval (qcall c (I.f0 .has_form) U.m_has_form (I.kp .has_form) (sh_has_form_2 (I.F .has_form)) rfl (ac (qv 0) (ac (qv 1) da_nil)) dkw_nil)))))) (dss_cons ds_out dss_nil) dss_nil) (dss_cons (saug 2 c ip_addO de_int) (dss_cons (sfor c (iv c (qcall c (I.f0 .rows_of) U.m_rows_of (I.kp .rows_of) (sh_rows_of_1 (I.F .rows_of)) rfl (ac (qv 0) da_nil) dkw_nil)) (gn 3 c) (dss_cons (sset 2 c (qcall c (I.f0 .check_row) U.m_check_row (I.kp .check_row) (sh_check_row_3 (I.F .check_row)) rfl (ac (qv 3) (ac (qadd c (qv 1) de_int) (ac (qv 2) da_nil))) dkw_nil)) dss_nil)) (dss_cons (ds_ret (qv 2)) dss_nil))))
theorem sc_size_of : FnScope ["row", "deed", "inner"] ["row"] (defScope s_size_of) := ⟨rfl, rfl, rfl, by decide +kernel, rfl, by decide +kernel, by decide +kernel⟩
theorem ok_size_of {g : Gs} {k : Nat} (I : Ih P w K mg base fd g k) (U : Fx K mg w) (E : EqF P w K mg base k) : Ok P w K mg base fd (k + 1 + 3) .size_of (step g k .size_of) :=
  fn_c (T := T_size_of g k) (I.F .size_of) sc_size_of rfl E fun cdv A outer s H E c => (dss_cons (ds_ret (qadd c (qB U.n_len bt_len (cd_len c.hz c.tk (ow_dlen I U c.hr)) (ac (qv 0) da_nil)) (qB U.n_sum bt_sum (CallD.ofR (cr_sum c.calm) ref_sum) (ac (qlc [("deed", 1)] c (blkOk_by (N := N_size_of) (sc := defScope s_size_of) (by decide +kernel)) (iv c (qv 0)) (cg_one (by decide)) (fun s H C cl fp => gnV 1 (c.blk ..)) (fun s H C cl fp c => dts_nil) (fun s H C cl fp c => (qB U.n_sum bt_sum (CallD.ofR (cr_sum c.calm) ref_sum) (ac (qlc [("inner", 2)] c (blkOk_by (N := N_size_of) (by kernel_rfl)) (iv c (qcall c (I.f0 .rows_of) U.m_rows_of (I.kp .rows_of) (sh_rows_of_1 (I.F .rows_of)) rfl (ac (qv 1) da_nil) dkw_nil)) (cg_one (by decide)) (fun s H C cl fp => gnV 2 (c.blk ..)) (fun s H C cl fp c => dts_nil) (fun s H C cl fp c => (qcall c (I.f0 .size_of) U.m_size_of (I.kp .size_of) (sh_size_of_1 (I.F .size_of)) rfl (ac (qv 2) da_nil) dkw_nil))) da_nil)))) da_nil)))) dss_nil)
theorem sc_placed : FnScope ["row", "at", "behind", "found", "k", "deed", "rows", "far", "after", "begins", "begin", "inner"] ["row", "at", "behind", "found"] (defScope s_placed) := ⟨rfl, rfl, rfl, by decide +kernel, rfl, by decide +kernel, by decide +kernel⟩
theorem ok_placed {g : Gs} {k : Nat} (I : Ih P w K mg base fd g k) (U : Fx K mg w) (E : EqF P w K mg base k) : Ok P w K mg base fd (k + 1 + 3) .placed (step g k .placed) :=
  fn_c (T := T_placed g k) (I.F .placed) sc_placed rfl E fun cdv A outer s H E c => (dss_cons (sfor c (ienum c U.n_enumerate (ac (qv 0) da_nil)) (gtup c (gcons 4 c (gcons 5 c pgs_names0))) (dss_cons (sset 6 c (qcall c (I.f0 .rows_of) U.m_rows_of (I.kp .rows_of) (sh_rows_of_1 (I.F .rows_of)) rfl (ac (qv 5) da_nil) dkw_nil)) (dss_cons (sset 7 c (qadd c (qadd c (qv 1) de_int) (qB U.n_sum bt_sum (CallD.ofR (cr_sum c.calm) ref_sum) (ac (qlc [("inner", 11)] c (blkOk_by (N := N_placed) (sc := defScope s_placed) (by decide +kernel)) (iv c (qv 6)) (cg_one (by decide)) (fun s H C cl fp => gnV 11 (c.blk ..)) (fun s H C cl fp c => dts_nil) (fun s H C cl fp c => (qcall c (I.f0 .size_of) U.m_size_of (I.kp .size_of) (sh_size_of_1 (I.F .size_of)) rfl (ac (qv 11) da_nil) dkw_nil))) da_nil)))) (dss_cons (sset 8 c (de_ite (tcmp (oI op_lt) (qadd c (qv 4) de_int) (qB U.n_len bt_len (cd_len c.hz c.tk (ow_dlen I U c.hr)) (ac (qv 0) da_nil))) (qv 7) (qv 2))) (dss_cons (sset 9 c (de_lst da_nil)) (dss_cons (sset 10 c (qadd c (qv 1) de_int)) (dss_cons (sfor c (iv c (qv 6)) (gn 11 c) (dss_cons (sexp (qmt c PySem.F.plainAttrs_list PySem.F.slot_list_append PySem.F.type_list_append mt_append md_append (qv 9) (ac (de_ite (tcmp (oNe c) (qv 11) (de_tup da_nil)) (qv 10) (de_ite (tcmp (oEq c) (qix c (qv 5) de_int) (qs "while")) (qv 1) (qv 8))) da_nil))) (dss_cons (saug 10 c ip_addO (qcall c (I.f0 .size_of) U.m_size_of (I.kp .size_of) (sh_size_of_1 (I.F .size_of)) rfl (ac (qv 11) da_nil) dkw_nil)) dss_nil))) (dss_cons (saug 9 c ip_addO (de_lst (ac (qv 8) (ac (qv 8) da_nil)))) (dss_cons (sexp (qmt c PySem.F.plainAttrs_list PySem.F.slot_list_append PySem.F.type_list_append mt_append md_append (qv 3) (ac (de_tup (ac (qv 5) (ac (qv 8) (ac (qix c (qv 9) de_int) (ac (qix c (qv 9) de_int) da_nil))))) da_nil))) (dss_cons (sset 10 c (qadd c (qv 1) de_int)) (dss_cons (sfor c (iv c (qv 6)) (gn 11 c) (dss_cons (sexp (qcall c (I.f0 .placed) U.m_placed (I.kp .placed) (sh_placed_4 (I.F .placed)) rfl (ac (qv 11) (ac (qv 10) (ac (de_ite (tcmp (oEq c) (qix c (qv 5) de_int) (qs "while")) (qv 1) (qv 8)) (ac (qv 3) da_nil)))) dkw_nil)) (dss_cons (saug 10 c ip_addO (qcall c (I.f0 .size_of) U.m_size_of (I.kp .size_of) (sh_size_of_1 (I.F .size_of)) rfl (ac (qv 11) da_nil) dkw_nil)) dss_nil))) (dss_cons (sset 1 c (qv 7)) dss_nil)))))))))))) dss_nil)
theorem sc_Program_dinit : FnScope ["self", "deeds", "many", "found"] ["self", "deeds"] (defScope s_Program_dinit) := ⟨rfl, rfl, rfl, by decide +kernel, rfl, by decide +kernel, by decide +kernel⟩
theorem ok_Program_dinit {g : Gs} {k : Nat} (I : Ih P w K mg base fd g k) (U : Fx K mg w) (E : EqF P w K mg base k) : Ok P w K mg base fd (k + 1 + 3) .Program_dinit (step g k .Program_dinit) :=
  fn_c (T := T_Program_dinit g k) (I.F .Program_dinit) sc_Program_dinit rfl E fun cdv A outer s H E c => (dss_cons (ds_if (db_not (tval (qis c (show "tuple" ∈ plainTs by decide) U.n_isinstance bt_isinstance (qv 1) (pe_bty U.n_tuple bt_tuple)))) (dss_cons ds_out dss_nil) dss_nil) (dss_cons (sset 2 c (qcall c (I.f0 .check_row) U.m_check_row (I.kp .check_row) (sh_check_row_3 (I.F .check_row)) rfl (ac (qv 1) (ac de_int (ac de_int da_nil))) dkw_nil)) (dss_cons (sset 3 c (de_lst da_nil)) (dss_cons (sexp (qcall c (I.f0 .placed) U.m_placed (I.kp .placed) (sh_placed_4 (I.F .placed)) rfl (ac (qv 1) (ac de_int (ac (qv 2) (ac (qv 3) da_nil)))) dkw_nil)) (dss_cons (satt "deeds" c U.clz (List.mem_of_getElem? (i := 1) rfl) (qv 0) (qv 1)) (dss_cons (satt "order" c U.clz (List.mem_of_getElem? (i := 8) rfl) (qv 0) (qT U.n_tuple bt_tuple (CallD.ofR call_tuple_of ref_tuple) (ac (qv 3) da_nil))) dss_nil))))))
theorem sc_Program_deq : FnScope ["self", "other"] ["self", "other"] (defScope s_Program_deq) := ⟨rfl, rfl, rfl, by decide +kernel, rfl, by decide +kernel, by decide +kernel⟩
theorem ok_Program_deq {g : Gs} {k : Nat} (I : Ih P w K mg base fd g k) (U : Fx K mg w) (E : EqF P w K mg base k) : Ok P w K mg base fd (k + 1 + 3) .Program_deq (step g k .Program_deq) :=
  fn_c (T := T_Program_deq g k) (I.F .Program_deq) sc_Program_deq rfl E fun cdv A outer s H E c => (dss_cons (ds_ret (de_and (qis c (show "Program" ∈ cs0 from List.mem_of_getElem? (i := 1) rfl) U.n_isinstance bt_isinstance (qv 1) (pe_glob rfl U.m_Program rfl)) (de_one (qcmp (oEq c) (qat "deeds" c U.clz (List.mem_of_getElem? (i := 1) rfl) (qv 0)) (qat "deeds" c U.clz (List.mem_of_getElem? (i := 1) rfl) (qv 1)))))) dss_nil)
theorem sc_Program_dlen : FnScope ["self"] ["self"] (defScope s_Program_dlen) := ⟨rfl, rfl, rfl, by decide +kernel, rfl, by decide +kernel, by decide +kernel⟩
theorem ok_Program_dlen {g : Gs} {k : Nat} (I : Ih P w K mg base fd g k) (U : Fx K mg w) (E : EqF P w K mg base k) : Ok P w K mg base fd (k + 1 + 3) .Program_dlen (step g k .Program_dlen) :=
  fn_c (T := T_Program_dlen g k) (I.F .Program_dlen) sc_Program_dlen rfl E fun cdv A outer s H E c => (dss_cons (ds_ret (qB U.n_len bt_len (cd_len c.hz c.tk (ow_dlen I U c.hr)) (ac (qat "order" c U.clz (List.mem_of_getElem? (i := 8) rfl) (qv 0)) da_nil))) dss_nil)
theorem sc_cleared_deed : FnScope ["name"] ["name"] (defScope s_cleared_deed) := ⟨rfl, rfl, rfl, by decide +kernel, rfl, by decide +kernel, by decide +kernel⟩
theorem ok_cleared_deed {g : Gs} {k : Nat} (I : Ih P w K mg base fd g k) (U : Fx K mg w) (E : EqF P w K mg base k) : Ok P w K mg base fd (k + 1 + 3) .cleared_deed (step g k .cleared_deed) :=
  fn_c (T := T_cleared_deed g k) (I.F .cleared_deed) sc_cleared_deed rfl E fun cdv A outer s H E c => (dss_cons (ds_ret (de_tup (ac (qs "told") (ac (qv 0) (ac (qmake0 c U.k_Thing (mk_Thing I) (I.f1 .Thing_dinit) U.m_Thing (sh_Thing_dinit_0 (I.F .Thing_dinit)) rfl dkw_nil) da_nil))))) dss_nil)
theorem sc_half_given : FnScope ["program", "thing"] ["program", "thing"] (defScope s_half_given) := ⟨rfl, rfl, rfl, by decide +kernel, rfl, by decide +kernel, by decide +kernel⟩
theorem ok_half_given {g : Gs} {k : Nat} (I : Ih P w K mg base fd g k) (U : Fx K mg w) (E : EqF P w K mg base k) : Ok P w K mg base fd (k + 1 + 3) .half_given (step g k .half_given) :=
  fn_c (T := T_half_given g k) (I.F .half_given) sc_half_given rfl E fun cdv A outer s H E c => (dss_cons (ds_ret (qmake c U.k_Program (mk_Program I) (I.f1 .Program_dinit) U.m_Program (sh_Program_dinit_1 (I.F .Program_dinit)) rfl (ac (qadd c (de_tup (ac (de_tup (ac (qs "told") (ac de_int (ac (qv 1) da_nil)))) (ac (de_ct U.ct_PAIRED c.hz (pe_glob rfl U.m_PAIRED rfl)) (ac (qcall c (I.f0 .cleared_deed) U.m_cleared_deed (I.kp .cleared_deed) (sh_cleared_deed_1 (I.F .cleared_deed)) rfl (ac de_int da_nil) dkw_nil) da_nil)))) (qat "deeds" c U.clz (List.mem_of_getElem? (i := 1) rfl) (qv 0))) da_nil) dkw_nil)) dss_nil)
theorem sc_Stand_dinit : FnScope ["self", "point", "names"] ["self", "point", "names"] (defScope s_Stand_dinit) := ⟨rfl, rfl, rfl, by decide +kernel, rfl, by decide +kernel, by decide +kernel⟩
theorem ok_Stand_dinit {g : Gs} {k : Nat} (I : Ih P w K mg base fd g k) (U : Fx K mg w) (E : EqF P w K mg base k) : Ok P w K mg base fd (k + 1 + 3) .Stand_dinit (step g k .Stand_dinit) :=
  fn_c (T := T_Stand_dinit g k) (I.F .Stand_dinit) sc_Stand_dinit rfl E fun cdv A outer s H E c => (dss_cons (satt "point" c U.clz (List.mem_of_getElem? (i := 2) rfl) (qv 0) (qv 1)) (dss_cons (satt "names" c U.clz (List.mem_of_getElem? (i := 3) rfl) (qv 0) (qv 2)) dss_nil))
theorem sc_Stand_deq : FnScope ["self", "other"] ["self", "other"] (defScope s_Stand_deq) := ⟨rfl, rfl, rfl, by decide +kernel, rfl, by decide +kernel, by decide +kernel⟩
theorem ok_Stand_deq {g : Gs} {k : Nat} (I : Ih P w K mg base fd g k) (U : Fx K mg w) (E : EqF P w K mg base k) : Ok P w K mg base fd (k + 1 + 3) .Stand_deq (step g k .Stand_deq) :=
  fn_c (T := T_Stand_deq g k) (I.F .Stand_deq) sc_Stand_deq rfl E fun cdv A outer s H E c => (dss_cons (ds_ret (de_and (qis c (show "Stand" ∈ cs0 from List.mem_of_getElem? (i := 2) rfl) U.n_isinstance bt_isinstance (qv 1) (pe_glob rfl U.m_Stand rfl)) (de_and (qcmp (oEq c) (qat "point" c U.clz (List.mem_of_getElem? (i := 2) rfl) (qv 0)) (qat "point" c U.clz (List.mem_of_getElem? (i := 2) rfl) (qv 1))) (de_one (qcmp (oEq c) (qat "names" c U.clz (List.mem_of_getElem? (i := 3) rfl) (qv 0)) (qat "names" c U.clz (List.mem_of_getElem? (i := 3) rfl) (qv 1))))))) dss_nil)
theorem sc_Run_dinit : FnScope ["self", "word", "steps", "thing"] ["self", "word", "steps", "thing"] (defScope s_Run_dinit) := ⟨rfl, rfl, rfl, by decide +kernel, rfl, by decide +kernel, by decide +kernel⟩
theorem ok_Run_dinit {g : Gs} {k : Nat} (I : Ih P w K mg base fd g k) (U : Fx K mg w) (E : EqF P w K mg base k) : Ok P w K mg base fd (k + 1 + 3) .Run_dinit (step g k .Run_dinit) :=
  fn_c (T := T_Run_dinit g k) (I.F .Run_dinit) sc_Run_dinit rfl E fun cdv A outer s H E c => (dss_cons (satt "word" c U.clz (List.mem_of_getElem? (i := 4) rfl) (qv 0) (qv 1)) (dss_cons (satt "steps" c U.clz (List.mem_of_getElem? (i := 5) rfl) (qv 0) (qv 2)) (dss_cons (satt "thing" c U.clz (List.mem_of_getElem? (i := 6) rfl) (qv 0) (qv 3)) dss_nil)))
theorem sc_Run_deq : FnScope ["self", "other"] ["self", "other"] (defScope s_Run_deq) := ⟨rfl, rfl, rfl, by decide +kernel, rfl, by decide +kernel, by decide +kernel⟩
theorem ok_Run_deq {g : Gs} {k : Nat} (I : Ih P w K mg base fd g k) (U : Fx K mg w) (E : EqF P w K mg base k) : Ok P w K mg base fd (k + 1 + 3) .Run_deq (step g k .Run_deq) :=
  fn_c (T := T_Run_deq g k) (I.F .Run_deq) sc_Run_deq rfl E fun cdv A outer s H E c => (dss_cons (ds_if (db_not (tval (qis c (show "Run" ∈ cs0 from List.mem_of_getElem? (i := 3) rfl) U.n_isinstance bt_isinstance (qv 1) (pe_glob rfl U.m_Run rfl)))) (dss_cons (ds_ret de_bl) dss_nil) dss_nil) (dss_cons (ds_ret (qcmp (oEq c) (de_tup (ac (qat "word" c U.clz (List.mem_of_getElem? (i := 4) rfl) (qv 0)) (ac (qat "steps" c U.clz (List.mem_of_getElem? (i := 5) rfl) (qv 0)) (ac (qat "thing" c U.clz (List.mem_of_getElem? (i := 6) rfl) (qv 0)) da_nil)))) (de_tup (ac (qat "word" c U.clz (List.mem_of_getElem? (i := 4) rfl) (qv 1)) (ac (qat "steps" c U.clz (List.mem_of_getElem? (i := 5) rfl) (qv 1)) (ac (qat "thing" c U.clz (List.mem_of_getElem? (i := 6) rfl) (qv 1)) da_nil)))))) dss_nil))
theorem sc_value_of : FnScope ["deed", "names"] ["deed", "names"] (defScope s_value_of) := ⟨rfl, rfl, rfl, by decide +kernel, rfl, by decide +kernel, by decide +kernel⟩
theorem ok_value_of {g : Gs} {k : Nat} (I : Ih P w K mg base fd g k) (U : Fx K mg w) (E : EqF P w K mg base k) : Ok P w K mg base fd (k + 1 + 3) .value_of (step g k .value_of) :=
  fn_c (T := T_value_of g k) (I.F .value_of) sc_value_of rfl E fun cdv A outer s H E c => (dss_cons (ds_if (tcmp (oEq c) (qix c (qv 0) de_int) (qs "told")) (dss_cons (ds_ret (qix c (qv 0) de_int)) dss_nil) dss_nil) (dss_cons (ds_if (tcmp (oEq c) (qix c (qv 0) de_int) (qs "first")) (dss_cons (ds_ret (qmeth0 "head" c (U.clz.cl "Thing" (show "Thing" ∈ cs0 from List.mem_of_getElem? (i := 0) rfl)) U.o_Thing_head (I.f0 .Thing_head) (sh_Thing_head_1 (I.F .Thing_head)) rfl (qix c (qv 1) (qix c (qv 0) de_int)))) dss_nil) dss_nil) (dss_cons (ds_if (tcmp (oEq c) (qix c (qv 0) de_int) (qs "second")) (dss_cons (ds_ret (qmeth0 "tail" c (U.clz.cl "Thing" (show "Thing" ∈ cs0 from List.mem_of_getElem? (i := 0) rfl)) U.o_Thing_tail (I.f0 .Thing_tail) (sh_Thing_tail_1 (I.F .Thing_tail)) rfl (qix c (qv 1) (qix c (qv 0) de_int)))) dss_nil) dss_nil) (dss_cons (ds_if (tcmp (oEq c) (qix c (qv 0) de_int) (qs "pair")) (dss_cons (ds_ret (qmake c U.k_Thing (mk_Thing I) (I.f1 .Thing_dinit) U.m_Thing (sh_Thing_dinit_2 (I.F .Thing_dinit)) rfl (ac (qix c (qv 1) (qix c (qv 0) de_int)) (ac (qix c (qv 1) (qix c (qv 0) de_int)) da_nil)) dkw_nil)) dss_nil) dss_nil) (dss_cons (ds_ret (de_ite (tcmp (oEq c) (qix c (qv 1) (qix c (qv 0) de_int)) (qix c (qv 1) (qix c (qv 0) de_int))) (qcall0 c (I.f0 .yes) U.m_yes (I.kp .yes) (sh_yes_0 (I.F .yes)) rfl dkw_nil) (qmake0 c U.k_Thing (mk_Thing I) (I.f1 .Thing_dinit) U.m_Thing (sh_Thing_dinit_0 (I.F .Thing_dinit)) rfl dkw_nil))) dss_nil)))))
theorem sc_go_on : FnScope ["program", "point", "names", "deed", "behind", "inside", "other"] ["program", "point", "names"] (defScope s_go_on) := ⟨rfl, rfl, rfl, by decide +kernel, rfl, by decide +kernel, by decide +kernel⟩
theorem ok_go_on {g : Gs} {k : Nat} (I : Ih P w K mg base fd g k) (U : Fx K mg w) (E : EqF P w K mg base k) : Ok P w K mg base fd (k + 1 + 3) .go_on (step g k .go_on) :=
  fn_c (T := T_go_on g k) (I.F .go_on) sc_go_on rfl E fun cdv A outer s H E c => (dss_cons (sasg (qix c (qat "order" c U.clz (List.mem_of_getElem? (i := 8) rfl) (qv 0)) (qv 1)) (gtup c (gcons 3 c (gcons 4 c (gcons 5 c (gcons 6 c pgs_names0)))))) (dss_cons (ds_if (tcmp (oEq c) (qix c (qv 3) de_int) (qs "while")) (dss_cons (ds_ret (de_ite (tcmp oNotN (qat "left" c U.clz (List.mem_of_getElem? (i := 9) rfl) (qix c (qv 2) (qix c (qv 3) de_int))) de_non) (qv 5) (qv 4))) dss_nil) dss_nil) (dss_cons (ds_if (tcmp (oEq c) (qix c (qv 3) de_int) (qs "if")) (dss_cons (ds_ret (de_ite (tcmp oNotN (qat "left" c U.clz (List.mem_of_getElem? (i := 9) rfl) (qix c (qv 2) (qix c (qv 3) de_int))) de_non) (qv 5) (qv 6))) dss_nil) dss_nil) (dss_cons (sasg (qcall c (I.f0 .value_of) U.m_value_of (I.kp .value_of) (sh_value_of_2 (I.F .value_of)) rfl (ac (qv 3) (ac (qv 2) da_nil)) dkw_nil) (gs set_list ref_setL (qv 2) (qix c (qv 3) de_int))) (dss_cons (ds_ret (qv 4)) dss_nil)))))
theorem sc_begin : FnScope ["program", "thing", "k"] ["program", "thing"] (defScope s_begin) := ⟨rfl, rfl, rfl, by decide +kernel, rfl, by decide +kernel, by decide +kernel⟩
theorem ok_begin {g : Gs} {k : Nat} (I : Ih P w K mg base fd g k) (U : Fx K mg w) (E : EqF P w K mg base k) : Ok P w K mg base fd (k + 1 + 3) .begin (step g k .begin) :=
  fn_c (T := T_begin g k) (I.F .begin) sc_begin rfl E fun cdv A outer s H E c => (dss_cons (ds_ret (qmake c U.k_Stand (mk_Stand I) (I.f1 .Stand_dinit) U.m_Stand (sh_Stand_dinit_2 (I.F .Stand_dinit)) rfl (ac de_int (ac (qadd c (de_tup (ac (qv 1) da_nil)) (qT U.n_tuple bt_tuple (CallD.ofR call_tuple_of ref_tuple) (ac (qlc [("k", 2)] c (blkOk_by (N := N_begin) (sc := defScope s_begin) (by decide +kernel)) (ir1 U.n_range (ac (qsub (qgi U.v_MOST_NAMES) de_int) da_nil)) (cg_one (by decide)) (fun s H C cl fp => gnV 2 (c.blk ..)) (fun s H C cl fp c => dts_nil) (fun s H C cl fp c => (qmake0 c U.k_Thing (mk_Thing I) (I.f1 .Thing_dinit) U.m_Thing (sh_Thing_dinit_0 (I.F .Thing_dinit)) rfl dkw_nil))) da_nil))) da_nil)) dkw_nil)) dss_nil)
theorem sc_step : FnScope ["program", "stand", "names", "point"] ["program", "stand"] (defScope s_step) := ⟨rfl, rfl, rfl, by decide +kernel, rfl, by decide +kernel, by decide +kernel⟩
theorem ok_step {g : Gs} {k : Nat} (I : Ih P w K mg base fd g k) (U : Fx K mg w) (E : EqF P w K mg base k) : Ok P w K mg base fd (k + 1 + 3) .step (step g k .step) :=
  fn_c (T := T_step g k) (I.F .step) sc_step rfl E fun cdv A outer s H E c => (dss_cons (ds_if (tcmp (oI op_ge) (qat "point" c U.clz (List.mem_of_getElem? (i := 2) rfl) (qv 1)) (qB U.n_len bt_len (cd_len c.hz c.tk (ow_dlen I U c.hr)) (ac (qv 0) da_nil))) (dss_cons ds_out dss_nil) dss_nil) (dss_cons (sset 2 c (qT U.n_list bt_list (CallD.ofR call_list_of ref_list) (ac (qat "names" c U.clz (List.mem_of_getElem? (i := 3) rfl) (qv 1)) da_nil))) (dss_cons (sset 3 c (qcall c (I.f0 .go_on) U.m_go_on (I.kp .go_on) (sh_go_on_3 (I.F .go_on)) rfl (ac (qv 0) (ac (qat "point" c U.clz (List.mem_of_getElem? (i := 2) rfl) (qv 1)) (ac (qv 2) da_nil))) dkw_nil)) (dss_cons (ds_ret (qmake c U.k_Stand (mk_Stand I) (I.f1 .Stand_dinit) U.m_Stand (sh_Stand_dinit_2 (I.F .Stand_dinit)) rfl (ac (qv 3) (ac (qT U.n_tuple bt_tuple (CallD.ofR call_tuple_of ref_tuple) (ac (qv 2) da_nil)) da_nil)) dkw_nil)) dss_nil))))
theorem sc_run : FnScope ["program", "thing", "budget", "names", "point", "steps"] ["program", "thing", "budget"] (defScope s_run) := ⟨rfl, rfl, rfl, by decide +kernel, rfl, by decide +kernel, by decide +kernel⟩
theorem ok_run {g : Gs} {k : Nat} (I : Ih P w K mg base fd g k) (U : Fx K mg w) (E : EqF P w K mg base k) : Ok P w K mg base fd (k + 1 + 3) .run (step g k .run) :=
  fn_c (T := T_run g k) (I.F .run) sc_run rfl E fun cdv A outer s H E c => (dss_cons (sset 3 c (qT U.n_list bt_list (CallD.ofR call_list_of ref_list) (ac (qat "names" c U.clz (List.mem_of_getElem? (i := 3) rfl) (qcall c (I.f0 .begin) U.m_begin (I.kp .begin) (sh_begin_2 (I.F .begin)) rfl (ac (qv 0) (ac (qv 1) da_nil)) dkw_nil)) da_nil))) (dss_cons (sset 4 c de_int) (dss_cons (sfor c (ir1 U.n_range (ac (qadd c (qv 2) de_int) da_nil)) (gn 5 c) (dss_cons (ds_if (tcmp (oI op_ge) (qv 4) (qB U.n_len bt_len (cd_len c.hz c.tk (ow_dlen I U c.hr)) (ac (qv 0) da_nil))) (dss_cons (ds_ret (qmake c U.k_Run (mk_Run I) (I.f1 .Run_dinit) U.m_Run (sh_Run_dinit_3 (I.F .Run_dinit)) rfl (ac (qs "ended") (ac (qv 5) (ac (qix c (qv 3) de_int) da_nil))) dkw_nil)) dss_nil) dss_nil) (dss_cons (ds_if (tcmp (oI op_lt) (qv 5) (qv 2)) (dss_cons (stry0R "TooGreat" c U.xis (show "TooGreat" ∈ xs0 from by decide +kernel) U.m_TooGreat (fun W pn xe c => (dss_cons (sset 4 c (qcall c (I.f0 .go_on) U.m_go_on (I.kp .go_on) (sh_go_on_3 (I.F .go_on)) rfl (ac (qv 0) (ac (qv 4) (ac (qv 3) da_nil))) dkw_nil)) dss_nil)) (fun a oe pn c r => (dss_cons (ds_ret (smakeW U.k_Run (okw_Run_dinit I U) (mkF (Z := zn K) (c := "Run") (show "Run" ∈ cs0 from List.mem_of_getElem? (i := 3) rfl)) (r.mono (by decide)) (sh_Run_dinit_2 (I.F .Run_dinit)) rfl U.m_Run (ac (qs "great") (ac (qv 5) da_nil)) dkw_nil)) dss_nil))) dss_nil) dss_nil) dss_nil))) (dss_cons (ds_ret (qmake c U.k_Run (mk_Run I) (I.f1 .Run_dinit) U.m_Run (sh_Run_dinit_2 (I.F .Run_dinit)) rfl (ac (qs "open") (ac (qv 2) da_nil)) dkw_nil)) dss_nil))))
theorem sc_law_bag : FnScope ["_law_script", "_law_at", "_law_cell", "_law_prime"] ["_law_script", "_law_at"] (defScope s_law_bag) := ⟨rfl, rfl, rfl, by decide +kernel, rfl, by decide +kernel, by decide +kernel⟩
theorem ok_law_bag {g : Gs} {k : Nat} (I : Ih P w K mg base fd g k) (U : Fx K mg w) (E : EqF P w K mg base k) : Ok P w K mg base fd (k + 1 + 3) .law_bag (step g k .law_bag) :=
  fn_c (T := T_law_bag g k) (I.F .law_bag) sc_law_bag rfl E fun cdv A outer s H E c => (dss_cons (sset 2 c de_int) (dss_cons (ds_if (tcmp (oI op_lt) (qv 1) (qB U.n_len bt_len (cd_len c.hz c.tk (ow_dlen I U c.hr)) (ac (qv 0) da_nil))) (dss_cons (sset 2 c (qB U.n_abs bt_abs (CallD.ofR call_abs ref_abs) (ac (qix c (qv 0) (qv 1)) da_nil))) dss_nil) dss_nil) (dss_cons (sset 3 c (qix c (de_lst (ac de_int (ac de_int (ac de_int (ac de_int (ac de_int (ac de_int (ac de_int (ac de_int da_nil))))))))) (qmod (qv 1) de_int))) (dss_cons (ds_ret (de_lst (ac (qmulL (qv 2) (qT U.n_int bt_int (CallD.ofR call_int1 ref_int) (ac (qcmp (oI op_ge) (qv 2) (qpow de_int de_int)) da_nil))) (ac (qmod (qpow (qadd c (qadd c (qmod (qv 2) de_int) (qmulL de_int (qv 1))) de_int) de_int) (qv 3)) (ac (qv 3) (ac de_int da_nil)))))) dss_nil))))
theorem sc_law_take : FnScope ["_law_bag_here", "_law_many", "_law_digit"] ["_law_bag_here", "_law_many"] (defScope s_law_take) := ⟨rfl, rfl, rfl, by decide +kernel, rfl, by decide +kernel, by decide +kernel⟩
theorem ok_law_take {g : Gs} {k : Nat} (I : Ih P w K mg base fd g k) (U : Fx K mg w) (E : EqF P w K mg base k) : Ok P w K mg base fd (k + 1 + 3) .law_take (step g k .law_take) :=
  fn_c (T := T_law_take g k) (I.F .law_take) sc_law_take rfl E fun cdv A outer s H E c => (dss_cons (ds_if (tcmp (oI op_gt) (qix c (qv 0) de_int) de_int) (dss_cons (sset 2 c (qmod (qix c (qv 0) de_int) (qv 1))) (dss_cons (sasg (qdiv (qix c (qv 0) de_int) (qv 1)) (gs set_list ref_setL (qv 0) de_int)) (dss_cons (ds_ret (qv 2)) dss_nil))) dss_nil) (dss_cons (sasg (qadd c (qix c (qv 0) de_int) de_int) (gs set_list ref_setL (qv 0) de_int)) (dss_cons (sasg (qmod (qadd c (qadd c (qmulL (qix c (qv 0) de_int) de_int) (qmulL de_int (qix c (qv 0) de_int))) de_int) (qix c (qv 0) de_int)) (gs set_list ref_setL (qv 0) de_int)) (dss_cons (ds_ret (qmod (qmod (qpow (qdiv (qix c (qv 0) de_int) de_int) de_int) de_int) (qv 1))) dss_nil))))
theorem sc_law_thing : FnScope ["_law_bag_here", "_law_many", "_law_some", "_law_at", "_law_k"] ["_law_bag_here", "_law_many"] (defScope s_law_thing) := ⟨rfl, rfl, rfl, by decide +kernel, rfl, by decide +kernel, by decide +kernel⟩
theorem ok_law_thing {g : Gs} {k : Nat} (I : Ih P w K mg base fd g k) (U : Fx K mg w) (E : EqF P w K mg base k) : Ok P w K mg base fd (k + 1 + 3) .law_thing (step g k .law_thing) :=
  fn_c (T := T_law_thing g k) (I.F .law_thing) sc_law_thing rfl E fun cdv A outer s H E c => (dss_cons (ssetLc 2 [("_law_k", 4)] c (blkOk_by (N := N_law_thing) (sc := defScope s_law_thing) (by decide +kernel)) (ir1 U.n_range (ac (qadd c (qv 1) de_int) da_nil)) (cg_one (by decide)) (fun s H C cl fp => gnV 4 (c.blk ..)) (fun s H C cl fp c => dts_nil) (fun s H C cl fp c => (qmake0 c U.k_Thing (mk_Thing I) (I.f1 .Thing_dinit) U.m_Thing (sh_Thing_dinit_0 (I.F .Thing_dinit)) rfl dkw_nil))) (dss_cons (swhile c (tcmp (oI op_gt) (qB U.n_len bt_len (cd_len c.hz c.tk (ow_dlen I U c.hr)) (ac (qv 2) da_nil)) de_int) (dss_cons (sset 3 c (qcall c (I.f0 .law_take) U.m_law_take (I.kp .law_take) (sh_law_take_2 (I.F .law_take)) rfl (ac (qv 0) (ac (qsub (qB U.n_len bt_len (cd_len c.hz c.tk (ow_dlen I U c.hr)) (ac (qv 2) da_nil)) de_int) da_nil)) dkw_nil)) (dss_cons (sasg (de_lst (ac (qmake c U.k_Thing (mk_Thing I) (I.f1 .Thing_dinit) U.m_Thing (sh_Thing_dinit_2 (I.F .Thing_dinit)) rfl (ac (qix c (qv 2) (qv 3)) (ac (qix c (qv 2) (qadd c (qv 3) de_int)) da_nil)) dkw_nil) da_nil)) (gsl (qv 2) (do_some (qv 3)) (do_some (qadd c (qv 3) de_int)))) dss_nil))) (dss_cons (ds_ret (qix c (qv 2) de_int)) dss_nil)))
theorem sc_law_name : FnScope ["_law_bag_here"] ["_law_bag_here"] (defScope s_law_name) := ⟨rfl, rfl, rfl, by decide +kernel, rfl, by decide +kernel, by decide +kernel⟩
theorem ok_law_name {g : Gs} {k : Nat} (I : Ih P w K mg base fd g k) (U : Fx K mg w) (E : EqF P w K mg base k) : Ok P w K mg base fd (k + 1 + 3) .law_name (step g k .law_name) :=
  fn_c (T := T_law_name g k) (I.F .law_name) sc_law_name rfl E fun cdv A outer s H E c => (dss_cons (ds_if (tcmp (oEq c) (qcall c (I.f0 .law_take) U.m_law_take (I.kp .law_take) (sh_law_take_2 (I.F .law_take)) rfl (ac (qv 0) (ac de_int da_nil)) dkw_nil) de_int) (dss_cons (ds_ret (qcall c (I.f0 .law_take) U.m_law_take (I.kp .law_take) (sh_law_take_2 (I.F .law_take)) rfl (ac (qv 0) (ac de_int da_nil)) dkw_nil)) dss_nil) dss_nil) (dss_cons (ds_ret (qix c (de_lst (ac de_int (ac de_int (ac de_int (ac de_int (ac de_int (ac de_int (ac de_int (ac de_int da_nil))))))))) (qcall c (I.f0 .law_take) U.m_law_take (I.kp .law_take) (sh_law_take_2 (I.F .law_take)) rfl (ac (qv 0) (ac de_int da_nil)) dkw_nil))) dss_nil))
theorem sc_law_deed : FnScope ["_law_bag_here", "_law_left", "_law_deep", "_law_way", "_law_a", "_law_b", "_law_c", "_law_kind", "_law_inner"] ["_law_bag_here", "_law_left", "_law_deep"] (defScope s_law_deed) := ⟨rfl, rfl, rfl, by decide +kernel, rfl, by decide +kernel, by decide +kernel⟩
theorem ok_law_deed {g : Gs} {k : Nat} (I : Ih P w K mg base fd g k) (U : Fx K mg w) (E : EqF P w K mg base k) : Ok P w K mg base fd (k + 1 + 3) .law_deed (step g k .law_deed) :=
  fn_c (T := T_law_deed g k) (I.F .law_deed) sc_law_deed rfl E fun cdv A outer s H E c => (dss_cons (sset 3 c (qcall c (I.f0 .law_take) U.m_law_take (I.kp .law_take) (sh_law_take_2 (I.F .law_take)) rfl (ac (qv 0) (ac de_int da_nil)) dkw_nil)) (dss_cons (spar3 4 5 6 c (ac (qcall c (I.f0 .law_name) U.m_law_name (I.kp .law_name) (sh_law_name_1 (I.F .law_name)) rfl (ac (qv 0) da_nil) dkw_nil) (ac (qcall c (I.f0 .law_name) U.m_law_name (I.kp .law_name) (sh_law_name_1 (I.F .law_name)) rfl (ac (qv 0) da_nil) dkw_nil) (ac (qcall c (I.f0 .law_name) U.m_law_name (I.kp .law_name) (sh_law_name_1 (I.F .law_name)) rfl (ac (qv 0) da_nil) dkw_nil) da_nil)))) (dss_cons (ds_if (tcmp (oI op_lt) (qv 3) de_int) (dss_cons (ds_ret (de_tup (ac (qs "told") (ac (qv 4) (ac (qcall c (I.f0 .law_thing) U.m_law_thing (I.kp .law_thing) (sh_law_thing_2 (I.F .law_thing)) rfl (ac (qv 0) (ac (qcall c (I.f0 .law_take) U.m_law_take (I.kp .law_take) (sh_law_take_2 (I.F .law_take)) rfl (ac (qv 0) (ac de_int da_nil)) dkw_nil) da_nil)) dkw_nil) da_nil))))) dss_nil) dss_nil) (dss_cons (ds_if (PW.pt (dw_or (tcmp (oI op_lt) (qv 3) de_int) (dw_or1 (tcmp (oI op_gt) (qv 2) de_int)))) (dss_cons (sset 7 c (qix c (de_lst (ac (qs "first") (ac (qs "second") (ac (qs "second") (ac (qs "pair") (ac (qs "pair") (ac (qs "same") da_nil))))))) (qmod (qv 3) de_int))) (dss_cons (ds_ret (qsl c (de_tup (ac (qv 7) (ac (qv 4) (ac (qv 5) (ac (qv 6) da_nil))))) do_none (do_some (qadd c de_int (qT U.n_int bt_int (CallD.ofR call_int1 ref_int) (ac (qcmp (oIn c) (qv 7) (de_tup (ac (qs "pair") (ac (qs "same") da_nil)))) da_nil)))))) dss_nil)) dss_nil) (dss_cons (sset 8 c (qcall c (I.f0 .law_deeds) U.m_law_deeds (I.kp .law_deeds) (sh_law_deeds_3 (I.F .law_deeds)) rfl (ac (qv 0) (ac (qv 1) (ac (qadd c (qv 2) de_int) da_nil))) dkw_nil)) (dss_cons (ds_if (tcmp (oI op_lt) (qv 3) de_int) (dss_cons (ds_if (tcmp (oI op_gt) (qcall c (I.f0 .law_take) U.m_law_take (I.kp .law_take) (sh_law_take_2 (I.F .law_take)) rfl (ac (qv 0) (ac de_int da_nil)) dkw_nil) de_int) (dss_cons (sset 8 c (qadd c (qv 8) (de_tup (ac (de_tup (ac (qs "second") (ac (qv 4) (ac (qv 4) da_nil)))) da_nil)))) dss_nil) dss_nil) (dss_cons (ds_ret (de_tup (ac (qs "while") (ac (qv 4) (ac (qv 8) da_nil))))) dss_nil)) dss_nil) (dss_cons (ds_ret (de_tup (ac (qs "if") (ac (qv 4) (ac (qv 8) (ac (qcall c (I.f0 .law_deeds) U.m_law_deeds (I.kp .law_deeds) (sh_law_deeds_3 (I.F .law_deeds)) rfl (ac (qv 0) (ac (qv 1) (ac (qadd c (qv 2) de_int) da_nil))) dkw_nil) da_nil)))))) dss_nil)))))))
theorem sc_law_deeds : FnScope ["_law_bag_here", "_law_left", "_law_deep", "_law_found", "_law_turn"] ["_law_bag_here", "_law_left", "_law_deep"] (defScope s_law_deeds) := ⟨rfl, rfl, rfl, by decide +kernel, rfl, by decide +kernel, by decide +kernel⟩
theorem ok_law_deeds {g : Gs} {k : Nat} (I : Ih P w K mg base fd g k) (U : Fx K mg w) (E : EqF P w K mg base k) : Ok P w K mg base fd (k + 1 + 3) .law_deeds (step g k .law_deeds) :=
  fn_c (T := T_law_deeds g k) (I.F .law_deeds) sc_law_deeds rfl E fun cdv A outer s H E c => (dss_cons (sset 3 c (de_lst da_nil)) (dss_cons (sfor c (ir1 U.n_range (ac (qcall c (I.f0 .law_take) U.m_law_take (I.kp .law_take) (sh_law_take_2 (I.F .law_take)) rfl (ac (qv 0) (ac de_int da_nil)) dkw_nil) da_nil)) (gn 4 c) (dss_cons (ds_if (tcmp (oI op_gt) (qix c (qv 1) de_int) de_int) (dss_cons (sasg (qsub (qix c (qv 1) de_int) de_int) (gs set_list ref_setL (qv 1) de_int)) (dss_cons (sexp (qmt c PySem.F.plainAttrs_list PySem.F.slot_list_append PySem.F.type_list_append mt_append md_append (qv 3) (ac (qcall c (I.f0 .law_deed) U.m_law_deed (I.kp .law_deed) (sh_law_deed_3 (I.F .law_deed)) rfl (ac (qv 0) (ac (qv 1) (ac (qv 2) da_nil))) dkw_nil) da_nil))) dss_nil)) dss_nil) dss_nil)) (dss_cons (ds_ret (qT U.n_tuple bt_tuple (CallD.ofR call_tuple_of ref_tuple) (ac (qv 3) da_nil))) dss_nil)))
theorem sc_law_top : FnScope ["_law_bag_here", "_law_many", "_law_left"] ["_law_bag_here", "_law_many"] (defScope s_law_top) := ⟨rfl, rfl, rfl, by decide +kernel, rfl, by decide +kernel, by decide +kernel⟩
theorem ok_law_top {g : Gs} {k : Nat} (I : Ih P w K mg base fd g k) (U : Fx K mg w) (E : EqF P w K mg base k) : Ok P w K mg base fd (k + 1 + 3) .law_top (step g k .law_top) :=
  fn_c (T := T_law_top g k) (I.F .law_top) sc_law_top rfl E fun cdv A outer s H E c => (dss_cons (sset 2 c (de_lst (ac (qv 1) da_nil))) (dss_cons (ds_ret (qadd c (qcall c (I.f0 .law_deeds) U.m_law_deeds (I.kp .law_deeds) (sh_law_deeds_3 (I.F .law_deeds)) rfl (ac (qv 0) (ac (qv 2) (ac de_int da_nil))) dkw_nil) (qcall c (I.f0 .law_deeds) U.m_law_deeds (I.kp .law_deeds) (sh_law_deeds_3 (I.F .law_deeds)) rfl (ac (qv 0) (ac (qv 2) (ac de_int da_nil))) dkw_nil))) dss_nil))
theorem sc_law_stood : FnScope ["_law_made", "_law_some", "_law_count", "_law_found", "_law_turn"] ["_law_made", "_law_some", "_law_count"] (defScope s_law_stood) := ⟨rfl, rfl, rfl, by decide +kernel, rfl, by decide +kernel, by decide +kernel⟩
theorem ok_law_stood {g : Gs} {k : Nat} (I : Ih P w K mg base fd g k) (U : Fx K mg w) (E : EqF P w K mg base k) : Ok P w K mg base fd (k + 1 + 3) .law_stood (step g k .law_stood) :=
  fn_c (T := T_law_stood g k) (I.F .law_stood) sc_law_stood rfl E fun cdv A outer s H E c => (dss_cons (sset 3 c (qcall c (I.f0 .begin) U.m_begin (I.kp .begin) (sh_begin_2 (I.F .begin)) rfl (ac (qv 0) (ac (qv 1) da_nil)) dkw_nil)) (dss_cons (sfor c (ir1 U.n_range (ac (qv 2) da_nil)) (gn 4 c) (dss_cons (sset 3 c (qcall c (I.f0 .step) U.m_step (I.kp .step) (sh_step_2 (I.F .step)) rfl (ac (qv 0) (ac (qv 3) da_nil)) dkw_nil)) dss_nil)) (dss_cons (ds_ret (qv 3)) dss_nil)))
theorem sc_law_nils : FnScope ["_law_many", "_law_k"] ["_law_many"] (defScope s_law_nils) := ⟨rfl, rfl, rfl, by decide +kernel, rfl, by decide +kernel, by decide +kernel⟩
theorem ok_law_nils {g : Gs} {k : Nat} (I : Ih P w K mg base fd g k) (U : Fx K mg w) (E : EqF P w K mg base k) : Ok P w K mg base fd (k + 1 + 3) .law_nils (step g k .law_nils) :=
  fn_c (T := T_law_nils g k) (I.F .law_nils) sc_law_nils rfl E fun cdv A outer s H E c => (dss_cons (ds_ret (qT U.n_tuple bt_tuple (CallD.ofR call_tuple_of ref_tuple) (ac (qlc [("_law_k", 1)] c (blkOk_by (N := N_law_nils) (sc := defScope s_law_nils) (by decide +kernel)) (ir1 U.n_range (ac (qv 0) da_nil)) (cg_one (by decide)) (fun s H C cl fp => gnV 1 (c.blk ..)) (fun s H C cl fp c => dts_nil) (fun s H C cl fp c => (qmake0 c U.k_Thing (mk_Thing I) (I.f1 .Thing_dinit) U.m_Thing (sh_Thing_dinit_0 (I.F .Thing_dinit)) rfl dkw_nil))) da_nil))) dss_nil)
theorem sc_law_right : FnScope ["_law_made", "_law_one", "_law_other", "_law_budget", "_law_half", "_law_due", "_law_known", "_law_found"] ["_law_made", "_law_one", "_law_other", "_law_budget"] (defScope s_law_right) := ⟨rfl, rfl, rfl, by decide +kernel, rfl, by decide +kernel, by decide +kernel⟩
theorem ok_law_right {g : Gs} {k : Nat} (I : Ih P w K mg base fd g k) (U : Fx K mg w) (E : EqF P w K mg base k) : Ok P w K mg base fd (k + 1 + 3) .law_right (step g k .law_right) :=
  fn_c (T := T_law_right g k) (I.F .law_right) sc_law_right rfl E fun cdv A outer s H E c => (dss_cons (sset 4 c (qcall c (I.f0 .half_given) U.m_half_given (I.kp .half_given) (sh_half_given_2 (I.F .half_given)) rfl (ac (qv 0) (ac (qv 1) da_nil)) dkw_nil)) (dss_cons (sset 5 c (qadd c (de_tup (ac (de_tup (ac (qs "told") (ac de_int (ac (qv 1) da_nil)))) (ac (de_tup (ac (qs "pair") (ac de_int (ac de_int (ac de_int da_nil))))) (ac (de_tup (ac (qs "told") (ac de_int (ac (qmake0 c U.k_Thing (mk_Thing I) (I.f1 .Thing_dinit) U.m_Thing (sh_Thing_dinit_0 (I.F .Thing_dinit)) rfl dkw_nil) da_nil)))) da_nil)))) (qat "deeds" c U.clz (List.mem_of_getElem? (i := 1) rfl) (qv 0)))) (dss_cons (ds_if (PW.pt (dw_or (db_not (tval (qis c (show "Program" ∈ cs0 from List.mem_of_getElem? (i := 1) rfl) U.n_isinstance bt_isinstance (qv 4) (pe_glob rfl U.m_Program rfl)))) (dw_or (tcmp (oNe c) (qat "deeds" c U.clz (List.mem_of_getElem? (i := 1) rfl) (qv 4)) (qv 5)) (dw_or1 (tcmp (oNe c) (qcall0 c (I.f0 .half_given) U.m_half_given (I.kp .half_given) (sh_half_given_0_thing_program (I.F .half_given)) rfl (dkw_cons (qv 1) (dkw_cons (qv 0) dkw_nil))) (qv 4)))))) (dss_cons (ds_ret de_bl) dss_nil) dss_nil) (dss_cons (ds_if (tcmp (oNe c) (qcall c (I.f0 .law_stood) U.m_law_stood (I.kp .law_stood) (sh_law_stood_3 (I.F .law_stood)) rfl (ac (qv 4) (ac (qv 2) (ac de_int da_nil))) dkw_nil) (qmake c U.k_Stand (mk_Stand I) (I.f1 .Stand_dinit) U.m_Stand (sh_Stand_dinit_2 (I.F .Stand_dinit)) rfl (ac de_int (ac (qadd c (de_tup (ac (qmake c U.k_Thing (mk_Thing I) (I.f1 .Thing_dinit) U.m_Thing (sh_Thing_dinit_2 (I.F .Thing_dinit)) rfl (ac (qv 1) (ac (qv 2) da_nil)) dkw_nil) da_nil)) (qcall c (I.f0 .law_nils) U.m_law_nils (I.kp .law_nils) (sh_law_nils_1 (I.F .law_nils)) rfl (ac de_int da_nil) dkw_nil)) da_nil)) dkw_nil)) (dss_cons (ds_ret de_bl) dss_nil) dss_nil) (dss_cons (spar 6 7 c (ac (qcall c (I.f0 .run) U.m_run (I.kp .run) (sh_run_3 (I.F .run)) rfl (ac (qv 0) (ac (qmake c U.k_Thing (mk_Thing I) (I.f1 .Thing_dinit) U.m_Thing (sh_Thing_dinit_2 (I.F .Thing_dinit)) rfl (ac (qv 1) (ac (qv 2) da_nil)) dkw_nil) (ac (qv 3) da_nil))) dkw_nil) (ac (qcall c (I.f0 .run) U.m_run (I.kp .run) (sh_run_3 (I.F .run)) rfl (ac (qv 4) (ac (qv 2) (ac (qadd c (qv 3) de_int) da_nil))) dkw_nil) da_nil))) (dss_cons (ds_ret (qcmp (oEq c) (qv 7) (qmake c U.k_Run (mk_Run I) (I.f1 .Run_dinit) U.m_Run (sh_Run_dinit_3 (I.F .Run_dinit)) rfl (ac (qat "word" c U.clz (List.mem_of_getElem? (i := 4) rfl) (qv 6)) (ac (qadd c (qat "steps" c U.clz (List.mem_of_getElem? (i := 5) rfl) (qv 6)) de_int) (ac (qat "thing" c U.clz (List.mem_of_getElem? (i := 6) rfl) (qv 6)) da_nil))) dkw_nil))) dss_nil))))))
theorem sc_law_great : FnScope ["_law_bag_here", "_law_deeds_here", "_law_name_here", "_law_ahead"] ["_law_bag_here"] (defScope s_law_great) := ⟨rfl, rfl, rfl, by decide +kernel, rfl, by decide +kernel, by decide +kernel⟩
theorem ok_law_great {g : Gs} {k : Nat} (I : Ih P w K mg base fd g k) (U : Fx K mg w) (E : EqF P w K mg base k) : Ok P w K mg base fd (k + 1 + 3) .law_great (step g k .law_great) :=
  fn_c (T := T_law_great g k) (I.F .law_great) sc_law_great rfl E fun cdv A outer s H E c => (dss_cons (sset 1 c (de_tup da_nil)) (dss_cons (sfor c (ir1 U.n_range (ac de_int da_nil)) (gn 2 c) (dss_cons (sset 1 c (de_tup (ac (de_tup (ac (qs "while") (ac (qv 2) (ac (qv 1) da_nil)))) da_nil))) dss_nil)) (dss_cons (sset 3 c (qadd c de_int (qcall c (I.f0 .law_take) U.m_law_take (I.kp .law_take) (sh_law_take_2 (I.F .law_take)) rfl (ac (qv 0) (ac de_int da_nil)) dkw_nil))) (dss_cons (ds_ret (qmake c U.k_Program (mk_Program I) (I.f1 .Program_dinit) U.m_Program (sh_Program_dinit_1 (I.F .Program_dinit)) rfl (ac (qadd c (qadd c (qmulT c (de_tup (ac (de_tup (ac (qs "first") (ac de_int (ac de_int da_nil)))) da_nil)) (qv 3)) (qv 1)) (qmulT c (de_tup (ac (de_tup (ac (qs "second") (ac de_int (ac de_int da_nil)))) da_nil)) (qsub de_int (qv 3)))) da_nil) dkw_nil)) dss_nil))))
theorem sc_law_great_right : FnScope ["_law_bag_here", "_law_one", "_law_other", "_law_budget", "_law_made", "_law_half", "_law_due"] ["_law_bag_here", "_law_one", "_law_other", "_law_budget"] (defScope s_law_great_right) := ⟨rfl, rfl, rfl, by decide +kernel, rfl, by decide +kernel, by decide +kernel⟩
theorem ok_law_great_right {g : Gs} {k : Nat} (I : Ih P w K mg base fd g k) (U : Fx K mg w) (E : EqF P w K mg base k) : Ok P w K mg base fd (k + 1 + 3) .law_great_right (step g k .law_great_right) :=
  fn_c (T := T_law_great_right g k) (I.F .law_great_right) sc_law_great_right rfl E fun cdv A outer s H E c => (dss_cons (sset 4 c (qcall c (I.f0 .law_great) U.m_law_great (I.kp .law_great) (sh_law_great_1 (I.F .law_great)) rfl (ac (qv 0) da_nil) dkw_nil)) (dss_cons (sset 5 c (qcall c (I.f0 .half_given) U.m_half_given (I.kp .half_given) (sh_half_given_2 (I.F .half_given)) rfl (ac (qv 4) (ac (qv 1) da_nil)) dkw_nil)) (dss_cons (sset 6 c (qadd c (de_tup (ac (de_tup (ac (qs "told") (ac de_int (ac (qv 1) da_nil)))) (ac (de_tup (ac (qs "pair") (ac de_int (ac de_int (ac de_int da_nil))))) (ac (de_tup (ac (qs "told") (ac de_int (ac (qmake0 c U.k_Thing (mk_Thing I) (I.f1 .Thing_dinit) U.m_Thing (sh_Thing_dinit_0 (I.F .Thing_dinit)) rfl dkw_nil) da_nil)))) da_nil)))) (qat "deeds" c U.clz (List.mem_of_getElem? (i := 1) rfl) (qv 4)))) (dss_cons (ds_if (PW.pt (dw_or (tcmp (oNe c) (qat "deeds" c U.clz (List.mem_of_getElem? (i := 1) rfl) (qv 5)) (qv 6)) (dw_or (tcmp (oNe c) (qB U.n_len bt_len (cd_len c.hz c.tk (ow_dlen I U c.hr)) (ac (qv 5) da_nil)) de_int) (dw_or1 (tcmp (oNe c) (qsl c (qat "deeds" c U.clz (List.mem_of_getElem? (i := 1) rfl) (qcall c (I.f0 .half_given) U.m_half_given (I.kp .half_given) (sh_half_given_2 (I.F .half_given)) rfl (ac (qv 4) (ac (qv 2) da_nil)) dkw_nil)) (do_some de_int) do_none) (qat "deeds" c U.clz (List.mem_of_getElem? (i := 1) rfl) (qv 4))))))) (dss_cons (ds_ret de_bl) dss_nil) dss_nil) (dss_cons (ds_if (tcmp (oNe c) (qcall c (I.f0 .law_stood) U.m_law_stood (I.kp .law_stood) (sh_law_stood_3 (I.F .law_stood)) rfl (ac (qv 5) (ac (qv 2) (ac de_int da_nil))) dkw_nil) (qmake c U.k_Stand (mk_Stand I) (I.f1 .Stand_dinit) U.m_Stand (sh_Stand_dinit_2 (I.F .Stand_dinit)) rfl (ac de_int (ac (qadd c (de_tup (ac (qmake c U.k_Thing (mk_Thing I) (I.f1 .Thing_dinit) U.m_Thing (sh_Thing_dinit_2 (I.F .Thing_dinit)) rfl (ac (qv 1) (ac (qv 2) da_nil)) dkw_nil) da_nil)) (qcall c (I.f0 .law_nils) U.m_law_nils (I.kp .law_nils) (sh_law_nils_1 (I.F .law_nils)) rfl (ac de_int da_nil) dkw_nil)) da_nil)) dkw_nil)) (dss_cons (ds_ret de_bl) dss_nil) dss_nil) (dss_cons (ds_ret (qcmp (oEq c) (qcall c (I.f0 .run) U.m_run (I.kp .run) (sh_run_3 (I.F .run)) rfl (ac (qv 5) (ac (qv 2) (ac (qadd c (qv 3) de_int) da_nil))) dkw_nil) (qmake c U.k_Run (mk_Run I) (I.f1 .Run_dinit) U.m_Run (sh_Run_dinit_2 (I.F .Run_dinit)) rfl (ac (qs "open") (ac (qadd c (qv 3) de_int) da_nil)) dkw_nil))) dss_nil))))))
theorem sc_law : FnScope ["_law_script", "_law_k", "_law_bag_here", "_law_made", "_law_one", "_law_other", "_law_budget", "_law_first", "_law_second"] ["_law_script"] (defScope s_law) := ⟨rfl, rfl, rfl, by decide +kernel, rfl, by decide +kernel, by decide +kernel⟩
theorem ok_law {g : Gs} {k : Nat} (I : Ih P w K mg base fd g k) (U : Fx K mg w) (E : EqF P w K mg base k) : Ok P w K mg base fd (k + 1 + 3) .law (step g k .law) :=
  fn_c (T := T_law g k) (I.F .law) sc_law rfl E fun cdv A outer s H E c => (dss_cons (sfor c (ir1 U.n_range (ac (qB U.n_max bt_max (CallD.ofR (call_max2 c.calm) ref_max2) (ac de_int (ac (qB U.n_min bt_min (CallD.ofR (call_min2 c.calm) ref_min2) (ac de_int (ac (qB U.n_len bt_len (cd_len c.hz c.tk (ow_dlen I U c.hr)) (ac (qv 0) da_nil)) da_nil))) da_nil))) da_nil)) (gn 1 c) (dss_cons (sset 2 c (qcall c (I.f0 .law_bag) U.m_law_bag (I.kp .law_bag) (sh_law_bag_2 (I.F .law_bag)) rfl (ac (qv 0) (ac (qv 1) da_nil)) dkw_nil)) (dss_cons (sset 3 c (qmake c U.k_Program (mk_Program I) (I.f1 .Program_dinit) U.m_Program (sh_Program_dinit_1 (I.F .Program_dinit)) rfl (ac (qcall c (I.f0 .law_top) U.m_law_top (I.kp .law_top) (sh_law_top_2 (I.F .law_top)) rfl (ac (qv 2) (ac de_int da_nil)) dkw_nil) da_nil) dkw_nil)) (dss_cons (spar 4 5 c (ac (qcall c (I.f0 .law_thing) U.m_law_thing (I.kp .law_thing) (sh_law_thing_2 (I.F .law_thing)) rfl (ac (qv 2) (ac (qcall c (I.f0 .law_take) U.m_law_take (I.kp .law_take) (sh_law_take_2 (I.F .law_take)) rfl (ac (qv 2) (ac de_int da_nil)) dkw_nil) da_nil)) dkw_nil) (ac (qcall c (I.f0 .law_thing) U.m_law_thing (I.kp .law_thing) (sh_law_thing_2 (I.F .law_thing)) rfl (ac (qv 2) (ac (qcall c (I.f0 .law_take) U.m_law_take (I.kp .law_take) (sh_law_take_2 (I.F .law_take)) rfl (ac (qv 2) (ac de_int da_nil)) dkw_nil) da_nil)) dkw_nil) da_nil))) (dss_cons (sset 6 c (qcall c (I.f0 .law_take) U.m_law_take (I.kp .law_take) (sh_law_take_2 (I.F .law_take)) rfl (ac (qv 2) (ac de_int da_nil)) dkw_nil)) (dss_cons (sfor c (iv c (de_lst (ac (de_tup (ac (qv 4) (ac (qv 5) da_nil))) (ac (de_tup (ac (qv 5) (ac (qv 4) da_nil))) (ac (de_tup (ac (qv 4) (ac (qv 4) da_nil))) (ac (de_tup (ac (qv 4) (ac (qv 5) da_nil))) da_nil)))))) (gtup c (gcons 7 c (gcons 8 c pgs_names0))) (dss_cons (ds_if (db_not (tval (qcall c (I.f0 .law_right) U.m_law_right (I.kp .law_right) (sh_law_right_4 (I.F .law_right)) rfl (ac (qv 3) (ac (qv 7) (ac (qv 8) (ac (qv 6) da_nil)))) dkw_nil))) (dss_cons (ds_ret de_bl) dss_nil) dss_nil) dss_nil)) (dss_cons (ds_if (db_not (tval (qcall c (I.f0 .law_great_right) U.m_law_great_right (I.kp .law_great_right) (sh_law_great_right_4 (I.F .law_great_right)) rfl (ac (qv 2) (ac (qv 4) (ac (qv 5) (ac (qv 6) da_nil)))) dkw_nil))) (dss_cons (ds_ret de_bl) dss_nil) dss_nil) (dss_cons (ds_if (PW.pt (dw_or (db_not (tval (qcall c (I.f0 .law_right) U.m_law_right (I.kp .law_right) (sh_law_right_4 (I.F .law_right)) rfl (ac (qmake c U.k_Program (mk_Program I) (I.f1 .Program_dinit) U.m_Program (sh_Program_dinit_1 (I.F .Program_dinit)) rfl (ac (de_tup da_nil) da_nil) dkw_nil) (ac (qv 4) (ac (qv 5) (ac (qv 6) da_nil)))) dkw_nil))) (dw_or1 (db_not (tval (qcall c (I.f0 .law_right) U.m_law_right (I.kp .law_right) (sh_law_right_4 (I.F .law_right)) rfl (ac (qcall c (I.f0 .half_given) U.m_half_given (I.kp .half_given) (sh_half_given_2 (I.F .half_given)) rfl (ac (qv 3) (ac (qv 4) da_nil)) dkw_nil) (ac (qv 5) (ac (qv 4) (ac (qv 6) da_nil)))) dkw_nil)))))) (dss_cons (ds_ret de_bl) dss_nil) dss_nil) dss_nil)))))))) (dss_cons (ds_ret de_bl) dss_nil))
/-- what own == asks of the readings -/
def EqLaws : Prop := ∀ (j : Nat) (ds : List D) (M : Hm) (Q : DK) (E : DX), (spEq es0 "Thing" (j + 3) ds M Q E → G j 0 .Thing_deq ds M Q E) ∧ (spEq es0 "Program" (j + 3) ds M Q E → G j 0 .Program_deq ds M Q E) ∧ (spEq es0 "Stand" (j + 3) ds M Q E → G j 0 .Stand_deq ds M Q E) ∧ (spEq es0 "Run" (j + 3) ds M Q E → G j 0 .Run_deq ds M Q E)
theorem all_ok (U : Fx K mg w) (hx : exB cs0 es0 flds K = true) (HF : ∀ f, isD f → FD K fd f) (HE : EqLaws) : ∀ k f, isD f → Ok P w K mg base fd (k + 3) f (G k 0 f) := by
  refine levels (Ok := fun j f S => Ok P w K mg base fd j f S) (fun j f _ => fn_bot rfl) fun k all low f hf => ?_
  have I : Ih P w K mg base fd (Gh step k) k := by
    refine ⟨low, HF, ?_, ?_, ?_, ?_⟩
    · cases k
      · exact .inl rfl
      · exact .inr rfl
    · cases k
      · exact .inl rfl
      · exact .inr rfl
    · cases k
      · exact .inl rfl
      · exact .inr rfl
    · cases k
      · exact .inl rfl
      · exact .inr rfl
  have E : EqF P w K mg base k := by
    intro X h1 h2 h3 h4 h5
    refine ⟨⟨(eqc_of hx h1).1, fun c hc j hj => ?_, inj_of hx⟩, (eqc_of hx h1).2, isi_of hx h1⟩
    subst h1 h2 h3 h4 h5
    rcases List.mem_cons.mp (show c ∈ ["Thing", "Program", "Stand", "Run"] from hc) with rfl | hc
    · refine ⟨He.ma X.K (He.ga X.K "Thing") "__eq__", fd .Thing_deq, psOf .Thing_deq, U.q_Thing.at_, U.q_Thing.fn, rfl, FunD.bindsN (HF .Thing_deq True.intro) fun _ _ _ _ _ _ us hl => match us, hl with | [_, _], _ => rfl, ?_⟩
      by_cases q : 3 ≤ j
      · obtain ⟨i, rfl⟩ : ∃ i, j = i + 3 := ⟨j - 3, by omega⟩
        refine (all i (by omega) .Thing_deq True.intro).imp fun vs H Q E ⟨F, ds, M, QD, ED, z1, z2, z3, z4, z5⟩ => ⟨F, ds, M, QD, ED, z1, z2, z3, (HE i ds M QD ED).1 z4, z5⟩
      · refine (fn_bot (P := X.prog) (w := X.w) (K := X.K) (mg := X.mg) (base := X.base) (Z := zn X.K) (n := 2) (k := j) (f := He.ma X.K (He.ga X.K "Thing") "__eq__") (fd := fd .Thing_deq) (ps := psOf .Thing_deq) rfl).imp fun vs H Q E ⟨F, ds, M, QD, ED, z1, z2, z3, ⟨fs, e, _, _, _, z4, _⟩, z5⟩ => ?_
        rw [dp_ins] at z4
        omega
    rcases List.mem_cons.mp (show c ∈ ["Program", "Stand", "Run"] from hc) with rfl | hc
    · refine ⟨He.ma X.K (He.ga X.K "Program") "__eq__", fd .Program_deq, psOf .Program_deq, U.q_Program.at_, U.q_Program.fn, rfl, FunD.bindsN (HF .Program_deq True.intro) fun _ _ _ _ _ _ us hl => match us, hl with | [_, _], _ => rfl, ?_⟩
      by_cases q : 3 ≤ j
      · obtain ⟨i, rfl⟩ : ∃ i, j = i + 3 := ⟨j - 3, by omega⟩
        refine (all i (by omega) .Program_deq True.intro).imp fun vs H Q E ⟨F, ds, M, QD, ED, z1, z2, z3, z4, z5⟩ => ⟨F, ds, M, QD, ED, z1, z2, z3, (HE i ds M QD ED).2.1 z4, z5⟩
      · refine (fn_bot (P := X.prog) (w := X.w) (K := X.K) (mg := X.mg) (base := X.base) (Z := zn X.K) (n := 2) (k := j) (f := He.ma X.K (He.ga X.K "Program") "__eq__") (fd := fd .Program_deq) (ps := psOf .Program_deq) rfl).imp fun vs H Q E ⟨F, ds, M, QD, ED, z1, z2, z3, ⟨fs, e, _, _, _, z4, _⟩, z5⟩ => ?_
        rw [dp_ins] at z4
        omega
    rcases List.mem_cons.mp (show c ∈ ["Stand", "Run"] from hc) with rfl | hc
    · refine ⟨He.ma X.K (He.ga X.K "Stand") "__eq__", fd .Stand_deq, psOf .Stand_deq, U.q_Stand.at_, U.q_Stand.fn, rfl, FunD.bindsN (HF .Stand_deq True.intro) fun _ _ _ _ _ _ us hl => match us, hl with | [_, _], _ => rfl, ?_⟩
      by_cases q : 3 ≤ j
      · obtain ⟨i, rfl⟩ : ∃ i, j = i + 3 := ⟨j - 3, by omega⟩
        refine (all i (by omega) .Stand_deq True.intro).imp fun vs H Q E ⟨F, ds, M, QD, ED, z1, z2, z3, z4, z5⟩ => ⟨F, ds, M, QD, ED, z1, z2, z3, (HE i ds M QD ED).2.2.1 z4, z5⟩
      · refine (fn_bot (P := X.prog) (w := X.w) (K := X.K) (mg := X.mg) (base := X.base) (Z := zn X.K) (n := 2) (k := j) (f := He.ma X.K (He.ga X.K "Stand") "__eq__") (fd := fd .Stand_deq) (ps := psOf .Stand_deq) rfl).imp fun vs H Q E ⟨F, ds, M, QD, ED, z1, z2, z3, ⟨fs, e, _, _, _, z4, _⟩, z5⟩ => ?_
        rw [dp_ins] at z4
        omega
    rcases List.mem_cons.mp (show c ∈ ["Run"] from hc) with rfl | hc
    · refine ⟨He.ma X.K (He.ga X.K "Run") "__eq__", fd .Run_deq, psOf .Run_deq, U.q_Run.at_, U.q_Run.fn, rfl, FunD.bindsN (HF .Run_deq True.intro) fun _ _ _ _ _ _ us hl => match us, hl with | [_, _], _ => rfl, ?_⟩
      by_cases q : 3 ≤ j
      · obtain ⟨i, rfl⟩ : ∃ i, j = i + 3 := ⟨j - 3, by omega⟩
        refine (all i (by omega) .Run_deq True.intro).imp fun vs H Q E ⟨F, ds, M, QD, ED, z1, z2, z3, z4, z5⟩ => ⟨F, ds, M, QD, ED, z1, z2, z3, (HE i ds M QD ED).2.2.2 z4, z5⟩
      · refine (fn_bot (P := X.prog) (w := X.w) (K := X.K) (mg := X.mg) (base := X.base) (Z := zn X.K) (n := 2) (k := j) (f := He.ma X.K (He.ga X.K "Run") "__eq__") (fd := fd .Run_deq) (ps := psOf .Run_deq) rfl).imp fun vs H Q E ⟨F, ds, M, QD, ED, z1, z2, z3, ⟨fs, e, _, _, _, z4, _⟩, z5⟩ => ?_
        rw [dp_ins] at z4
        omega
    cases hc
  cases f <;> first | exact absurd hf (fun z => z) | skip
  · exact ok_TooGreat_dinit I U E
  · exact ok_Thing_dinit I U E
  · exact ok_Thing_deq I U E
  · exact ok_Thing_dlen I U E
  · exact ok_Thing_head I U E
  · exact ok_Thing_tail I U E
  · exact ok_yes I U E
  · exact ok_is_name I U E
  · exact ok_rows_of I U E
  · exact ok_names_of I U E
  · exact ok_has_form I U E
  · exact ok_check_row I U E
  · exact ok_check_deed I U E
  · exact ok_size_of I U E
  · exact ok_placed I U E
  · exact ok_Program_dinit I U E
  · exact ok_Program_deq I U E
  · exact ok_Program_dlen I U E
  · exact ok_cleared_deed I U E
  · exact ok_half_given I U E
  · exact ok_Stand_dinit I U E
  · exact ok_Stand_deq I U E
  · exact ok_Run_dinit I U E
  · exact ok_Run_deq I U E
  · exact ok_value_of I U E
  · exact ok_go_on I U E
  · exact ok_begin I U E
  · exact ok_step I U E
  · exact ok_run I U E
  · exact ok_law_bag I U E
  · exact ok_law_take I U E
  · exact ok_law_thing I U E
  · exact ok_law_name I U E
  · exact ok_law_deed I U E
  · exact ok_law_deeds I U E
  · exact ok_law_top I U E
  · exact ok_law_stood I U E
  · exact ok_law_nils I U E
  · exact ok_law_right I U E
  · exact ok_law_great I U E
  · exact ok_law_great_right I U E
  · exact ok_law I U E
end
def exA (K : PySem.W.Frag) : Bool := exB cs0 es0 flds K && (xfB K "TooGreat" "bound" (adr K .TooGreat_dinit) && (xisB K xs0 ts0 && (tblB K (He.ga K "ROWS_OF") qs0 t_ROWS_OF && (tblB K (He.ga K "NAMES_OF") qs0 t_NAMES_OF && (ctB K (He.ga K "PAIRED") u_PAIRED && (true))))))
theorem exA_b {K : PySem.W.Frag} (h : exA K = true) : exB cs0 es0 flds K = true := (Bool.and_eq_true_iff.mp h).1
def ts1 : List He.Tab := [(fun K => He.ga K "ROWS_OF", ["while", "if"]), (fun K => He.ga K "NAMES_OF", ["told", "first", "second", "pair", "same", "while", "if"])]
def fn : List He.DefD := [d_TooGreat_dinit, d_Thing_dinit, d_Thing_deq, d_Thing_dlen, d_Thing_head, d_Thing_tail, d_yes, d_is_name, d_rows_of, d_names_of, d_has_form, d_check_row, d_check_deed, d_size_of, d_placed, d_Program_dinit, d_Program_deq, d_Program_dlen, d_cleared_deed, d_half_given, d_Stand_dinit, d_Stand_deq, d_Run_dinit, d_Run_deq, d_value_of, d_go_on, d_begin, d_step, d_run, d_law_bag, d_law_take, d_law_thing, d_law_name, d_law_deed, d_law_deeds, d_law_top, d_law_stood, d_law_nils, d_law_right, d_law_great, d_law_great_right, d_law]
def fa : List He.Fa := [.glo "yes", .glo "is_name", .glo "rows_of", .glo "names_of", .glo "has_form", .glo "check_row", .glo "check_deed", .glo "size_of", .glo "placed", .glo "cleared_deed", .glo "half_given", .glo "value_of", .glo "go_on", .glo "begin", .glo "step", .glo "run", .glo "_law_bag", .glo "_law_take", .glo "_law_thing", .glo "_law_name", .glo "_law_deed", .glo "_law_deeds", .glo "_law_top", .glo "_law_stood", .glo "_law_nils", .glo "_law_right", .glo "_law_great", .glo "_law_great_right", .glo "law", .glo "Thing", .mkr "Thing", .glo "Program", .mkr "Program", .glo "Stand", .mkr "Stand", .glo "Run", .mkr "Run", .free "OverflowError", .free "abs", .free "all", .free "bool", .free "enumerate", .free "int", .free "isinstance", .free "len", .free "list", .free "max", .free "min", .free "range", .free "str", .free "sum", .free "tuple", .int "MOST_DEEDS" 4000, .int "MOST_DEEP" 8, .int "MOST_NAMES" 10, .int "MOST_PAIRS" 4000, .str "NIL_TEXT" ".", .meth "Program" "__len__", .meth "Thing" "__len__", .meth "Thing" "head", .meth "Thing" "tail", .glo "ROWS_OF", .glo "NAMES_OF", .glo "TooGreat", .glo "PAIRED", .meth "Thing" "__eq__", .meth "Program" "__eq__", .meth "Stand" "__eq__", .meth "Run" "__eq__"]
abbrev R : PySem.W.OpenRow := PySem.W.OpenLaw.row PySem.Challenge.rw_judgeslip_k22_half_given
abbrev hk : PySem.W.Hook := He.hookX 5 fa fn ts1 [] exA
def ob (s : PySem.W.SharedT) : He.AlX := He.obsX 5 fa fn ts1 [] exA (HandSHeadRun.getT s)
theorem ob_eq (s : PySem.W.SharedT) : ob s = hk.obs s.abs := He.obsX_eq (HandSHeadRun.getT_eq s)
def loose0 : List PySem.Str := ["_wall", "NoProgram", "NoStep", "TooGreat", "MOST_PAIRS", "NIL_TEXT", "Thing", "yes", "MOST_NAMES", "MOST_DEEP", "MOST_DEEDS", "LETTERS", "NAMES_OF", "ROWS_OF", "is_name", "rows_of", "names_of", "has_form", "check_row", "check_deed"]
def loose1 : List PySem.Str := ["size_of", "placed", "shown_deed", "shown_row", "shown", "Program", "PAIRED", "cleared_deed", "half_given", "Stand", "Run", "value_of", "go_on", "begin", "step", "run", "_law_bag", "_law_take", "_law_thing", "_law_name"]
def loose2 : List PySem.Str := ["_law_deed", "_law_deeds", "_law_top", "_law_stood", "_law_nils", "_law_right", "_law_great", "_law_great_right"]
def loose : List PySem.Str := loose0 ++ loose1 ++ loose2
abbrev qv : Program := PySem.W.view R.prog [54]
theorem run_a (w : World) : HandSHeadRun.RunEq R qv hk ob 12000 loose (w.withFollow "special-get-raises" false) := by
  intro os
  kernel_rfl
theorem run_b (w : World) : HandSHeadRun.RunEq R qv hk ob 12000 loose (w.withFollow "special-get-raises" true) := by
  intro os
  kernel_rfl
theorem run (w : World) : HandSHeadRun.RunEq R qv hk ob 12000 loose w := PySem.W.byRow2 "special-get-raises" run_a run_b w
theorem fx_of {w : World} {K : PySem.W.Frag} {h : Heap} {mg : Str → Option Value} (X : K.In h) (G : h.Ns mainGlobals mg) (c : He.SaysX fa fn ts1 [] exA w h K) : Fx K mg w := by
  exact ⟨He.glo_ok X G (c.t.d.fact 0 (f := .glo "yes") rfl), He.glo_ok X G (c.t.d.fact 1 (f := .glo "is_name") rfl), He.glo_ok X G (c.t.d.fact 2 (f := .glo "rows_of") rfl), He.glo_ok X G (c.t.d.fact 3 (f := .glo "names_of") rfl), He.glo_ok X G (c.t.d.fact 4 (f := .glo "has_form") rfl), He.glo_ok X G (c.t.d.fact 5 (f := .glo "check_row") rfl), He.glo_ok X G (c.t.d.fact 6 (f := .glo "check_deed") rfl), He.glo_ok X G (c.t.d.fact 7 (f := .glo "size_of") rfl), He.glo_ok X G (c.t.d.fact 8 (f := .glo "placed") rfl), He.glo_ok X G (c.t.d.fact 9 (f := .glo "cleared_deed") rfl), He.glo_ok X G (c.t.d.fact 10 (f := .glo "half_given") rfl), He.glo_ok X G (c.t.d.fact 11 (f := .glo "value_of") rfl), He.glo_ok X G (c.t.d.fact 12 (f := .glo "go_on") rfl), He.glo_ok X G (c.t.d.fact 13 (f := .glo "begin") rfl), He.glo_ok X G (c.t.d.fact 14 (f := .glo "step") rfl), He.glo_ok X G (c.t.d.fact 15 (f := .glo "run") rfl), He.glo_ok X G (c.t.d.fact 16 (f := .glo "_law_bag") rfl), He.glo_ok X G (c.t.d.fact 17 (f := .glo "_law_take") rfl), He.glo_ok X G (c.t.d.fact 18 (f := .glo "_law_thing") rfl), He.glo_ok X G (c.t.d.fact 19 (f := .glo "_law_name") rfl), He.glo_ok X G (c.t.d.fact 20 (f := .glo "_law_deed") rfl), He.glo_ok X G (c.t.d.fact 21 (f := .glo "_law_deeds") rfl), He.glo_ok X G (c.t.d.fact 22 (f := .glo "_law_top") rfl), He.glo_ok X G (c.t.d.fact 23 (f := .glo "_law_stood") rfl), He.glo_ok X G (c.t.d.fact 24 (f := .glo "_law_nils") rfl), He.glo_ok X G (c.t.d.fact 25 (f := .glo "_law_right") rfl), He.glo_ok X G (c.t.d.fact 26 (f := .glo "_law_great") rfl), He.glo_ok X G (c.t.d.fact 27 (f := .glo "_law_great_right") rfl), He.glo_ok X G (c.t.d.fact 28 (f := .glo "law") rfl), He.glo_ok X G (c.t.d.fact 29 (f := .glo "Thing") rfl), He.mkr_ok (c.t.d.fact 30 (f := .mkr "Thing") rfl), He.glo_ok X G (c.t.d.fact 31 (f := .glo "Program") rfl), He.mkr_ok (c.t.d.fact 32 (f := .mkr "Program") rfl), He.glo_ok X G (c.t.d.fact 33 (f := .glo "Stand") rfl), He.mkr_ok (c.t.d.fact 34 (f := .mkr "Stand") rfl), He.glo_ok X G (c.t.d.fact 35 (f := .glo "Run") rfl), He.mkr_ok (c.t.d.fact 36 (f := .mkr "Run") rfl), He.free_ok X G (c.t.d.fact 37 (f := .free "OverflowError") rfl), He.free_ok X G (c.t.d.fact 38 (f := .free "abs") rfl), He.free_ok X G (c.t.d.fact 39 (f := .free "all") rfl), He.free_ok X G (c.t.d.fact 40 (f := .free "bool") rfl), He.free_ok X G (c.t.d.fact 41 (f := .free "enumerate") rfl), He.free_ok X G (c.t.d.fact 42 (f := .free "int") rfl), He.free_ok X G (c.t.d.fact 43 (f := .free "isinstance") rfl), He.free_ok X G (c.t.d.fact 44 (f := .free "len") rfl), He.free_ok X G (c.t.d.fact 45 (f := .free "list") rfl), He.free_ok X G (c.t.d.fact 46 (f := .free "max") rfl), He.free_ok X G (c.t.d.fact 47 (f := .free "min") rfl), He.free_ok X G (c.t.d.fact 48 (f := .free "range") rfl), He.free_ok X G (c.t.d.fact 49 (f := .free "str") rfl), He.free_ok X G (c.t.d.fact 50 (f := .free "sum") rfl), He.free_ok X G (c.t.d.fact 51 (f := .free "tuple") rfl), He.int_ok X G (c.t.d.fact 52 (f := .int "MOST_DEEDS" 4000) rfl), He.int_ok X G (c.t.d.fact 53 (f := .int "MOST_DEEP" 8) rfl), He.int_ok X G (c.t.d.fact 54 (f := .int "MOST_NAMES" 10) rfl), He.int_ok X G (c.t.d.fact 55 (f := .int "MOST_PAIRS" 4000) rfl), He.str_ok X G (c.t.d.fact 56 (f := .str "NIL_TEXT" ".") rfl), He.meth_ok (c.t.d.fact 57 (f := .meth "Program" "__len__") rfl), He.meth_ok (c.t.d.fact 58 (f := .meth "Thing" "__len__") rfl), He.meth_ok (c.t.d.fact 59 (f := .meth "Thing" "head") rfl), He.meth_ok (c.t.d.fact 60 (f := .meth "Thing" "tail") rfl), He.glo_ok X G (c.t.d.fact 61 (f := .glo "ROWS_OF") rfl), He.glo_ok X G (c.t.d.fact 62 (f := .glo "NAMES_OF") rfl), He.glo_ok X G (c.t.d.fact 63 (f := .glo "TooGreat") rfl), He.glo_ok X G (c.t.d.fact 64 (f := .glo "PAIRED") rfl), clz_of (exA_b c.more), He.meth_ok (c.t.d.fact 65 (f := .meth "Thing" "__eq__") rfl), He.meth_ok (c.t.d.fact 66 (f := .meth "Program" "__eq__") rfl), He.meth_ok (c.t.d.fact 67 (f := .meth "Stand" "__eq__") rfl), He.meth_ok (c.t.d.fact 68 (f := .meth "Run" "__eq__") rfl), xf_of (Bool.and_eq_true_iff.mp (Bool.and_eq_true_iff.mp c.more).2).1, xis_of (Bool.and_eq_true_iff.mp (Bool.and_eq_true_iff.mp (Bool.and_eq_true_iff.mp c.more).2).2).1, tbl_of (c.t.tab 0 rfl) (Bool.and_eq_true_iff.mp (Bool.and_eq_true_iff.mp (Bool.and_eq_true_iff.mp (Bool.and_eq_true_iff.mp c.more).2).2).2).1, tbl_of (c.t.tab 1 rfl) (Bool.and_eq_true_iff.mp (Bool.and_eq_true_iff.mp (Bool.and_eq_true_iff.mp (Bool.and_eq_true_iff.mp (Bool.and_eq_true_iff.mp c.more).2).2).2).2).1, ct_of (Bool.and_eq_true_iff.mp (Bool.and_eq_true_iff.mp (Bool.and_eq_true_iff.mp (Bool.and_eq_true_iff.mp (Bool.and_eq_true_iff.mp (Bool.and_eq_true_iff.mp c.more).2).2).2).2).2).1⟩
theorem fds {w : World} {K : PySem.W.Frag} {h : Heap} (c : He.SaysX fa fn ts1 [] exA w h K) : ∃ fd : Fn → FuncData, ∀ f, isD f → FD K fd f := by
  have H : ∀ f : Fn, ∃ x : FuncData, isD f → FunD K (dOf f).name (dOf f).qual (dOf f).params (dOf f).body (dOf f).scope ((dOf f).dvs K) ((dOf f).kws K) (adr K f) x := by
    intro f
    cases f
    · obtain ⟨x, hx⟩ := c.t.d.def_ 0 (d := d_TooGreat_dinit) rfl; exact ⟨x, fun _ => hx⟩
    · obtain ⟨x, hx⟩ := c.t.d.def_ 1 (d := d_Thing_dinit) rfl; exact ⟨x, fun _ => hx⟩
    · obtain ⟨x, hx⟩ := c.t.d.def_ 2 (d := d_Thing_deq) rfl; exact ⟨x, fun _ => hx⟩
    · obtain ⟨x, hx⟩ := c.t.d.def_ 3 (d := d_Thing_dlen) rfl; exact ⟨x, fun _ => hx⟩
    · obtain ⟨x, hx⟩ := c.t.d.def_ 4 (d := d_Thing_head) rfl; exact ⟨x, fun _ => hx⟩
    · obtain ⟨x, hx⟩ := c.t.d.def_ 5 (d := d_Thing_tail) rfl; exact ⟨x, fun _ => hx⟩
    · obtain ⟨x, hx⟩ := c.t.d.def_ 6 (d := d_yes) rfl; exact ⟨x, fun _ => hx⟩
    · obtain ⟨x, hx⟩ := c.t.d.def_ 7 (d := d_is_name) rfl; exact ⟨x, fun _ => hx⟩
    · obtain ⟨x, hx⟩ := c.t.d.def_ 8 (d := d_rows_of) rfl; exact ⟨x, fun _ => hx⟩
    · obtain ⟨x, hx⟩ := c.t.d.def_ 9 (d := d_names_of) rfl; exact ⟨x, fun _ => hx⟩
    · obtain ⟨x, hx⟩ := c.t.d.def_ 10 (d := d_has_form) rfl; exact ⟨x, fun _ => hx⟩
    · obtain ⟨x, hx⟩ := c.t.d.def_ 11 (d := d_check_row) rfl; exact ⟨x, fun _ => hx⟩
    · obtain ⟨x, hx⟩ := c.t.d.def_ 12 (d := d_check_deed) rfl; exact ⟨x, fun _ => hx⟩
    · obtain ⟨x, hx⟩ := c.t.d.def_ 13 (d := d_size_of) rfl; exact ⟨x, fun _ => hx⟩
    · obtain ⟨x, hx⟩ := c.t.d.def_ 14 (d := d_placed) rfl; exact ⟨x, fun _ => hx⟩
    · obtain ⟨x, hx⟩ := c.t.d.def_ 15 (d := d_Program_dinit) rfl; exact ⟨x, fun _ => hx⟩
    · obtain ⟨x, hx⟩ := c.t.d.def_ 16 (d := d_Program_deq) rfl; exact ⟨x, fun _ => hx⟩
    · obtain ⟨x, hx⟩ := c.t.d.def_ 17 (d := d_Program_dlen) rfl; exact ⟨x, fun _ => hx⟩
    · obtain ⟨x, hx⟩ := c.t.d.def_ 18 (d := d_cleared_deed) rfl; exact ⟨x, fun _ => hx⟩
    · obtain ⟨x, hx⟩ := c.t.d.def_ 19 (d := d_half_given) rfl; exact ⟨x, fun _ => hx⟩
    · obtain ⟨x, hx⟩ := c.t.d.def_ 20 (d := d_Stand_dinit) rfl; exact ⟨x, fun _ => hx⟩
    · obtain ⟨x, hx⟩ := c.t.d.def_ 21 (d := d_Stand_deq) rfl; exact ⟨x, fun _ => hx⟩
    · obtain ⟨x, hx⟩ := c.t.d.def_ 22 (d := d_Run_dinit) rfl; exact ⟨x, fun _ => hx⟩
    · obtain ⟨x, hx⟩ := c.t.d.def_ 23 (d := d_Run_deq) rfl; exact ⟨x, fun _ => hx⟩
    · obtain ⟨x, hx⟩ := c.t.d.def_ 24 (d := d_value_of) rfl; exact ⟨x, fun _ => hx⟩
    · obtain ⟨x, hx⟩ := c.t.d.def_ 25 (d := d_go_on) rfl; exact ⟨x, fun _ => hx⟩
    · obtain ⟨x, hx⟩ := c.t.d.def_ 26 (d := d_begin) rfl; exact ⟨x, fun _ => hx⟩
    · obtain ⟨x, hx⟩ := c.t.d.def_ 27 (d := d_step) rfl; exact ⟨x, fun _ => hx⟩
    · obtain ⟨x, hx⟩ := c.t.d.def_ 28 (d := d_run) rfl; exact ⟨x, fun _ => hx⟩
    · obtain ⟨x, hx⟩ := c.t.d.def_ 29 (d := d_law_bag) rfl; exact ⟨x, fun _ => hx⟩
    · obtain ⟨x, hx⟩ := c.t.d.def_ 30 (d := d_law_take) rfl; exact ⟨x, fun _ => hx⟩
    · obtain ⟨x, hx⟩ := c.t.d.def_ 31 (d := d_law_thing) rfl; exact ⟨x, fun _ => hx⟩
    · obtain ⟨x, hx⟩ := c.t.d.def_ 32 (d := d_law_name) rfl; exact ⟨x, fun _ => hx⟩
    · obtain ⟨x, hx⟩ := c.t.d.def_ 33 (d := d_law_deed) rfl; exact ⟨x, fun _ => hx⟩
    · obtain ⟨x, hx⟩ := c.t.d.def_ 34 (d := d_law_deeds) rfl; exact ⟨x, fun _ => hx⟩
    · obtain ⟨x, hx⟩ := c.t.d.def_ 35 (d := d_law_top) rfl; exact ⟨x, fun _ => hx⟩
    · obtain ⟨x, hx⟩ := c.t.d.def_ 36 (d := d_law_stood) rfl; exact ⟨x, fun _ => hx⟩
    · obtain ⟨x, hx⟩ := c.t.d.def_ 37 (d := d_law_nils) rfl; exact ⟨x, fun _ => hx⟩
    · obtain ⟨x, hx⟩ := c.t.d.def_ 38 (d := d_law_right) rfl; exact ⟨x, fun _ => hx⟩
    · obtain ⟨x, hx⟩ := c.t.d.def_ 39 (d := d_law_great) rfl; exact ⟨x, fun _ => hx⟩
    · obtain ⟨x, hx⟩ := c.t.d.def_ 40 (d := d_law_great_right) rfl; exact ⟨x, fun _ => hx⟩
    · obtain ⟨x, hx⟩ := c.t.d.def_ 41 (d := d_law) rfl; exact ⟨x, fun _ => hx⟩
    · obtain ⟨x, hx⟩ := c.t.d.def_ 0 (d := d_TooGreat_dinit) rfl; exact ⟨x, fun z => z.elim⟩
    · obtain ⟨x, hx⟩ := c.t.d.def_ 0 (d := d_TooGreat_dinit) rfl; exact ⟨x, fun z => z.elim⟩
    · obtain ⟨x, hx⟩ := c.t.d.def_ 0 (d := d_TooGreat_dinit) rfl; exact ⟨x, fun z => z.elim⟩
    · obtain ⟨x, hx⟩ := c.t.d.def_ 0 (d := d_TooGreat_dinit) rfl; exact ⟨x, fun z => z.elim⟩
  exact Classical.axiomOfChoice H
/-- THE LAW over data -/
def Goal : Prop := ∀ (a : Addr) (ns : List Int), ns.length ≤ 63 → G 40 0 .law [.ref a] (sM a ns) (fun d _ => d = .bl true) fun _ _ => False
end K22
namespace K22
open DL
theorem t1 : (tx "(").length = 1 := rfl
theorem t2 : (tx ")").length = 1 := rfl
theorem mk_nil (k : Nat) (M : Hm) (Q : DK) (E : DX) (h : Q (enc .nil) M) : G (k + 2) 0 .c_Thing [.non, .non] M Q E := by
  rw [G_s, st_c_Thing]
  intro x hx
  rw [G_s, st_Thing_dinit]
  unfold T_Thing_dinit N_Thing_dinit
  simp [wSeq_s, and_assoc]
  exact ⟨_, Sub.rfl', _, mup_same, M, sub_mdel (sub_mup Sub.rfl' hx) hx, h⟩
theorem mk_both (k : Nat) (a b : Th) (ha : a.size ≤ 4000) (hb : b.size ≤ 4000) (M : Hm) (Q : DK) (E : DX) (h : (Th.pair a b).size ≤ 4000 → Q (enc (.pair a b)) M) (he : 4000 < (Th.pair a b).size → ∀ p M', DL.Sub M M' → M p = none → M' p = some (.xd [("bound", .int 4000)]) → E ⟨"TooGreat", p⟩ M') : G (k + 2) 0 .c_Thing [enc a, enc b] M Q E := by
  rw [G_s, st_c_Thing]
  intro x hx
  rw [G_s, st_Thing_dinit]
  unfold T_Thing_dinit N_Thing_dinit
  have l1 := txt_len a
  have l2 := txt_len b
  have h' : (Th.pair a b).size ≤ 4000 → Q (.ins "Thing" [("left", enc a), ("right", enc b), ("many", .int (1 + a.size + b.size : Nat)), ("text", .str (tx "(" ++ a.txt ++ b.txt ++ tx ")")), ("marked", .bl (a.mkd || b.mkd))]) M := h
  have eL : LL = 16777216 := rfl
  by_cases hs : (Th.pair a b).size ≤ 4000
  · have h' := h' hs
    simp only [Th.size] at hs
    cases ha : a.mkd <;> simp [wSeq_s, and_assoc, ha] at h' ⊢ <;> simp only [t1, t2] <;> (refine .inl ⟨by omega, by omega, by omega, by omega, by omega, by omega, by omega, ?_⟩) <;>
      exact ⟨_, Sub.rfl', _, mup_same, M, sub_mdel (sub_mup Sub.rfl' hx) hx, h'⟩
  · have he := he (by omega)
    simp only [Th.size] at hs
    simp [wSeq_s, and_assoc]
    refine .inr ⟨by omega, fun p hp => ?_⟩
    obtain ⟨_, hp0⟩ := mup_none hp
    exact he p _ (sub_mup (sub_mup Sub.rfl' hx) hp0) hp0 mup_same
theorem mk_pair (k : Nat) (a b : Th) (M : Hm) (Q : DK) (E : DX) (hs : (Th.pair a b).size ≤ 4000) (h : Q (enc (.pair a b)) M) : G (k + 2) 0 .c_Thing [enc a, enc b] M Q E :=
  mk_both k a b (by simp only [Th.size] at hs; omega) (by simp only [Th.size] at hs; omega) M Q E (fun _ => h) (fun z => by omega)
/-- sizes of things in a row -/
def sizes : List Th → Nat
  | [] => 0
  | t :: ts => t.size + sizes ts
theorem sizes_app : ∀ a b : List Th, sizes (a ++ b) = sizes a + sizes b
  | [], b => by simp [sizes]
  | t :: a, b => by simp [sizes, sizes_app a b]; omega
theorem split2 {α : Type} (ts : List α) (i : Nat) (h : i + 1 < ts.length) : ∃ (u v : α) (a b : List α), ts = a ++ u :: v :: b ∧ a.length = i := by
  refine ⟨ts[i], ts[i + 1], ts.take i, ts.drop (i + 2), ?_, by simp; omega⟩
  have e1 : ts.drop i = ts[i] :: ts.drop (i + 1) := List.drop_eq_getElem_cons (by omega)
  have e2 : ts.drop (i + 1) = ts[i + 1] :: ts.drop (i + 2) := List.drop_eq_getElem_cons h
  rw [← e2, ← e1, List.take_append_drop]
/-- a bag: what is left of the digits, the state, its prime, how often it was asked -/
structure Bag (M : Hm) (p : PySem.Addr) (l : List D) : Prop where
  at_ : M p = some (.lst l)
  ex : ∃ b0 b1 b2 b3 : Int, l = [.int b0, .int b1, .int b2, .int b3] ∧ 0 ≤ b0 ∧ 0 ≤ b1 ∧ b1 < 2147483648 ∧ 0 < b2 ∧ b2 < 2147483648 ∧ 0 ≤ b3
theorem prime_at (i : Nat) : ∃ v : Int, L2.atI [D.int 2147483629, D.int 2147483587, D.int 2147483579, D.int 2147483563, D.int 2147483549, D.int 2147483543, D.int 2147483497, D.int 2147483489] ((i : Int) % 8) = some (.int v) ∧ 0 < v ∧ v < 2147483648 := by
  have h : (i : Int) % 8 = 0 ∨ (i : Int) % 8 = 1 ∨ (i : Int) % 8 = 2 ∨ (i : Int) % 8 = 3 ∨ (i : Int) % 8 = 4 ∨ (i : Int) % 8 = 5 ∨ (i : Int) % 8 = 6 ∨ (i : Int) % 8 = 7 := by omega
  rcases h with h | h | h | h | h | h | h | h <;> rw [h] <;> exact ⟨_, rfl, by decide, by decide⟩
theorem int_get {ns : List Int} {i : Nat} (h : i < ns.length) : (ns.map D.int)[i]? = some (.int ns[i]) := by
  rw [List.getElem?_map, List.getElem?_eq_getElem h]; rfl
theorem bag_ok (k : Nat) (a : PySem.Addr) (ns : List Int) (i : Nat) (hi : i < 1000) (M : Hm) (Q : DK) (E : DX) (hM : M a = some (.frl (ns.map .int)))
    (h : ∀ p l, M p = none → Bag (mup M p (.lst l)) p l → Q (.ref p) (mup M p (.lst l))) : G (k + 1) 0 .law_bag [.ref a, .int i] M Q E := by
  rw [G_s, st_law_bag]
  unfold T_law_bag N_law_bag
  obtain ⟨v, hv, v0, v1⟩ := prime_at i
  have fin : ∀ (q p : PySem.Addr) (c c1 : Int), M q = none → 0 ≤ c → 0 ≤ c1 → c1 < 2147483648 → ∀ u, p ≠ q → M p = none → ∃ M'', DL.Sub M'' (mup (mup M q u) p (.lst [.int c, .int c1, .int v, .int 0])) ∧ Q (.ref p) M'' := fun q p c c1 hq c0 c10 c11 u ne hp =>
    ⟨_, sub_mup2 hq, h p _ hp ⟨mup_same, c, c1, v, 0, rfl, c0, c10, c11, v0, v1, by decide⟩⟩
  by_cases hl : i < ns.length
  · have h1 : L2.atI (ns.map D.int) (i : Int) = some (.int ns[i]) := by rw [atI_nat (by simpa using hl), int_get hl]
    simp [wSeq_s, hM, hl, h1, hv, -Bool.exists_bool]
    generalize hc : (if ns[i] < 0 then -ns[i] else ns[i]) = c
    have c0 : 0 ≤ c := by rw [← hc]; split <;> omega
    generalize hw : (if (1000000000000000000 : Int) ≤ c then (1 : Int) else 0) = w
    have w0 : 0 ≤ w ∧ w ≤ 1 := by rw [← hw]; split <;> omega
    exact ⟨by decide, fun q hq => ⟨⟨by decide, by decide, by decide⟩, .inr (by omega), .inl (by decide), ⟨by decide, by decide, by omega⟩, v0, by decide, fun p hp =>
      fin q p _ _ hq (Int.mul_nonneg c0 w0.1) (Int.emod_nonneg _ (by omega)) (by have := Int.emod_lt_of_pos ((c % 2147483647 + 104729 * (i : Int) + 7) ^ 5) v0; omega) _ (mup_none hp).1 (mup_none hp).2⟩⟩
  · simp [wSeq_s, hM, hl, hv, -Bool.exists_bool]
    exact ⟨by decide, fun q hq => ⟨⟨by decide, by decide, by decide⟩, .inl (by decide), .inl (by decide), ⟨by decide, by decide, by omega⟩, v0, by decide, fun p hp =>
      fin q p _ _ hq (by decide) (Int.emod_nonneg _ (by omega)) (by have := Int.emod_lt_of_pos ((104729 * (i : Int) + 7) ^ 5) v0; omega) _ (mup_none hp).1 (mup_none hp).2⟩⟩
theorem take_ok (k : Nat) (p : PySem.Addr) (l : List D) (m : Int) (h0 : 0 < m) (h1 : m < 1000000000) (M : Hm) (Q : DK) (E : DX) (B : Bag M p l)
    (h : ∀ d l', 0 ≤ d → d < m → Bag (mup M p (.lst l')) p l' → Q (.int d) (mup M p (.lst l'))) : G (k + 1) 0 .law_take [.ref p, .int m] M Q E := by
  rw [G_s, st_law_take]
  unfold T_law_take N_law_take
  obtain ⟨hM, b0, b1, b2, b3, rfl, c0, c1, c2, c3, c4, c5⟩ := B
  have n1 : 0 ≤ (b1 * 48271 + 7919 * (b3 + 1) + 11) % b2 := Int.emod_nonneg _ (by omega)
  have n2 : (b1 * 48271 + 7919 * (b3 + 1) + 11) % b2 < b2 := Int.emod_lt_of_pos _ c3
  by_cases hb : 0 < b0
  · simp [wSeq_s, hM, hb, L2.atI, L2.ixN, -Bool.exists_bool]
    refine ⟨h0, ⟨h0, by omega⟩, now (h _ _ (Int.emod_nonneg _ (by omega)) (Int.emod_lt_of_pos _ h0) ⟨mup_same, _, b1, b2, b3, rfl, Int.ediv_nonneg c0 (by omega), c1, c2, c3, c4, c5⟩)⟩
  · simp [wSeq_s, hM, hb, L2.atI, L2.ixN, -Bool.exists_bool]
    have n3 : 0 ≤ (b1 * 48271 + 7919 * (b3 + 1) + 11) % b2 / 8 := Int.ediv_nonneg n1 (by omega)
    have n4 : (b1 * 48271 + 7919 * (b3 + 1) + 11) % b2 / 8 < 2147483648 := by omega
    refine ⟨.inr (by decide), .inl (by decide), c3, ⟨by decide, by decide⟩, ⟨by decide, by decide, by omega⟩, h0, now (h _ _ (Int.emod_nonneg _ (by omega)) (Int.emod_lt_of_pos _ h0) ⟨mup_same, b0, _, b2, _, rfl, c0, n1, by omega, c3, c4, by omega⟩)⟩
theorem enc_map_rep (n : Nat) : (intsFrom 0 n).map (fun _ => enc .nil) = (List.replicate n Th.nil).map enc := by
  unfold intsFrom
  rw [List.map_map]
  apply List.ext_getElem
  · simp
  · intro i h1 h2
    simp
theorem sizes_rep : ∀ n, sizes (List.replicate n Th.nil) = 0
  | 0 => rfl
  | n + 1 => by simp [List.replicate_succ, sizes, Th.size, sizes_rep n]
theorem thing_ok (k : Nat) (p : PySem.Addr) (l : List D) (n : Nat) (hn : n ≤ 4000) (M : Hm) (Q : DK) (E : DX) (B : Bag M p l)
    (h : ∀ (t : Th) l', t.size = n → t.plain = true → Bag (mup M p (.lst l')) p l' → Q (enc t) (mup M p (.lst l'))) : G (k + 3) 0 .law_thing [.ref p, .int n] M Q E := by
  rw [G_s, st_law_thing]
  unfold T_law_thing N_law_thing
  have eR : R62 = 4611686018427387904 := rfl
  have eL : LL = 16777216 := rfl
  unfold B_law_thing_0
  simp [wSeq_s, wComp_s, -Bool.exists_bool]
  refine ⟨by omega, by omega, fun r hr => ?_⟩
  have hpr : p ≠ r := ne_none B.at_ hr
  refine comp_map (fun _ => enc .nil) (fun _ => True.intro) _ _ (fun x _ acc Q' h' => ?_) (by simp [intsFrom]; omega) ?_
  · simp
    exact mk_nil k _ _ _ h'
  · -- the loop
    refine ⟨fun m σ M' => ∃ ts : List Th, ∃ l' o, σ = [some (.ref p), some (.int n), some (.ref r), o, none] ∧ M' r = some (.lst (ts.map enc)) ∧ ts.length = m + 1 ∧ sizes ts + m = n ∧ (∀ t ∈ ts, t.plain = true) ∧ Bag M' p l' ∧ SubB p M M', ⟨n, ?_⟩, ?_⟩
    · refine ⟨List.replicate (n + 1) .nil, l, none, rfl, ?_, by simp, by rw [sizes_rep]; omega, fun t ht => by rw [List.eq_of_mem_replicate ht]; rfl, ⟨by rw [mup_ne hpr]; exact B.at_, B.ex⟩, SubB.refl.new hr⟩
      rw [mup_same, enc_map_rep]
      rfl
    · rintro m σ M' ⟨ts, l', o, rfl, hM, hl, hs, hp, B', hk⟩
      simp [hM, -Bool.exists_bool]
      refine L2.ite2 (fun hlt => ?_) (fun hlt => ?_)
      · -- two put together
        have hm : 1 ≤ m := by omega
        obtain ⟨m, rfl⟩ : ∃ j, m = j + 1 := ⟨m - 1, by omega⟩
        simp [wSeq_s, hM]
        refine take_ok (k + 1) p l' (ts.length - 1) (by omega) (by omega) _ _ _ B' (fun d l2 d0 d1 B2 => ?_)
        obtain ⟨i, rfl⟩ : ∃ j : Nat, d = j := ⟨d.toNat, by omega⟩
        have hi : i + 1 < ts.length := by omega
        obtain ⟨u, v, A, C, rfl, hA⟩ := split2 ts i hi
        have hM2 : mup M' p (.lst l2) r = some (.lst (List.map enc (A ++ u :: v :: C))) := by rw [mup_ne hpr.symm]; exact hM
        have g1 : L2.atI (List.map enc (A ++ u :: v :: C)) (i : Int) = some (enc u) := by rw [atI_nat (by simp [hA])]; simp [← hA]
        have g2 : L2.atI (List.map enc (A ++ u :: v :: C)) ((i : Int) + 1) = some (enc v) := by
          rw [show ((i : Int) + 1) = ((i + 1 : Nat) : Int) by omega, atI_nat (by simp [hA])]; simp [← hA]
        simp only [List.map_append, List.map_cons] at hM2 g1 g2
        simp [hM2, g1, g2]
        refine mk_pair k u v _ _ _ ?_ ⟨by decide, fun q hq => ?_⟩
        · simp [sizes_app, sizes, Th.size] at hs ⊢; omega
        · obtain ⟨nqp, hq'⟩ := mup_none hq
          have nrq : r ≠ q := ne_none hM hq'
          have e2 : ((i : Int) + 2).toNat = i + 2 := by omega
          have nrp : r ≠ p := hpr.symm
          refine ⟨nrq, _, by rw [mup_ne nrq]; exact hM2, by omega, by simp; omega, by simp at hl ⊢; omega, m, by omega, _, Sub.rfl', A ++ .pair u v :: C, ?_, by simp at hl ⊢; omega, ?_, ?_, ⟨l2, ?_⟩, ?_⟩
          · rw [mup_same, e2, ← hA]
            have e3 : (A.map enc).length = A.length := by simp
            congr 2
            rw [List.map_append, List.map_cons]
            congr 1
            · rw [← e3, List.take_left]
            · rw [← e3, show (A.map enc).length + 2 = (A.map enc ++ [enc u, enc v]).length by simp, show A.map enc ++ enc u :: enc v :: C.map enc = (A.map enc ++ [enc u, enc v]) ++ C.map enc by simp, List.drop_left]
          · simp [sizes_app, sizes, Th.size] at hs ⊢; omega
          · intro t ht
            rcases List.mem_append.mp ht with z | z
            · exact hp t (by simp [z])
            · rcases List.mem_cons.mp z with z | z
              · subst z
                simp [Th.plain, hp u (by simp), hp v (by simp)]
              · exact hp t (by simp [z])
          · exact ⟨by rw [mup_ne hpr, mup_ne nqp.symm]; exact B2.at_, B2.ex⟩
          · have s1 : SubB p M (mup M' p (.lst l2)) := hk.put
            exact (s1.new (hk.none hq' nqp)).new hr
      · obtain ⟨t, rfl⟩ : ∃ t, ts = [t] := by
          match ts, hl, hlt with
          | [t], _, _ => exact ⟨t, rfl⟩
          | [], hl, _ => simp at hl
          | _ :: _ :: _, _, hlt => simp at hlt; omega
        simp at hl
        subst hl
        have g : L2.atI (List.map enc [t]) 0 = some (enc t) := rfl
        rw [g]
        simp [sizes] at hs
        exact ⟨_, rfl, _, hk.less B'.at_, h t l' hs (hp t (by simp)) ⟨mup_same, B'.ex⟩⟩
mutual
inductive De where
  | told (a : Nat) (t : Th)
  | look (s : Bool) (a b : Nat)
  | two (s : Bool) (a b c : Nat)
  | whl (a : Nat) (r : Ro)
  | ife (a : Nat) (r s : Ro)
inductive Ro where
  | nil
  | cons (d : De) (r : Ro)
end
namespace De
/-- its kind, its names, its rows -/
def kind : De → String
  | .told .. => "told" | .look s .. => if s then "second" else "first" | .two s .. => if s then "same" else "pair" | .whl .. => "while" | .ife .. => "if"
def names : De → List Nat
  | .told a _ => [a] | .look _ a b => [a, b] | .two _ a b c => [a, b, c] | .whl a _ => [a] | .ife a _ _ => [a]
def rows : De → List Ro
  | .whl _ r => [r] | .ife _ r s => [r, s] | _ => []
end De
mutual
def De.enc : De → D
  | .told a t => .tup [.str (tx "told"), .int a, Th.enc t]
  | .look s a b => .tup [.str (tx (if s then "second" else "first")), .int a, .int b]
  | .two s a b c => .tup [.str (tx (if s then "same" else "pair")), .int a, .int b, .int c]
  | .whl a r => .tup [.str (tx "while"), .int a, .tup r.encs]
  | .ife a r s => .tup [.str (tx "if"), .int a, .tup r.encs, .tup s.encs]
def Ro.encs : Ro → List D
  | .nil => []
  | .cons d r => d.enc :: r.encs
end
def rowD (r : Ro) : D := .tup r.encs
mutual
def De.sz : De → Nat
  | .whl _ r => 1 + r.sz | .ife _ r s => 1 + r.sz + s.sz | _ => 1
def Ro.sz : Ro → Nat
  | .nil => 0
  | .cons d r => d.sz + r.sz
end
mutual
/-- floors of rows within it -/
def De.fl : De → Nat
  | .whl _ r => 1 + r.fl | .ife _ r s => 1 + max r.fl s.fl | _ => 0
def Ro.fl : Ro → Nat
  | .nil => 0
  | .cons d r => max d.fl r.fl
end
mutual
def De.ok : De → Prop
  | .told a t => a < 10 ∧ t.plain = true ∧ t.size ≤ 4000
  | .look _ a b => a < 10 ∧ b < 10
  | .two _ a b c => a < 10 ∧ b < 10 ∧ c < 10
  | .whl a r => a < 10 ∧ r.ok
  | .ife a r s => a < 10 ∧ r.ok ∧ s.ok
def Ro.ok : Ro → Prop
  | .nil => True
  | .cons d r => d.ok ∧ r.ok
end
theorem enc_kind (d : De) : ∃ l, d.enc = .tup (.str (tx d.kind) :: l) := by cases d <;> exact ⟨_, by rw [De.enc]; rfl⟩
theorem kind_mem (d : De) : d.kind ∈ qs0 := by
  cases d with
  | told a t => exact List.mem_of_getElem? (i := 0) rfl
  | look s a b => cases s <;> first | exact List.mem_of_getElem? (i := 1) rfl | exact List.mem_of_getElem? (i := 2) rfl
  | two s a b c => cases s <;> first | exact List.mem_of_getElem? (i := 3) rfl | exact List.mem_of_getElem? (i := 4) rfl
  | whl a r => exact List.mem_of_getElem? (i := 5) rfl
  | ife a r s => exact List.mem_of_getElem? (i := 6) rfl
theorem rows_of_kind (d : De) : (t_ROWS_OF.lookup d.kind).isSome = !d.rows.isEmpty := by
  cases d with
  | told a t => rfl
  | look s a b => cases s <;> rfl
  | two s a b c => cases s <;> rfl
  | whl a r => rfl
  | ife a r s => rfl
theorem names_of_kind (d : De) : t_NAMES_OF.lookup d.kind = some (d.names.length : Int) := by
  cases d with
  | told a t => rfl
  | look s a b => cases s <;> rfl
  | two s a b c => cases s <;> rfl
  | whl a r => rfl
  | ife a r s => rfl
theorem is_name_ok (k a : Nat) (ha : a < 10) (M : Hm) (Q : DK) (E : DX) (h : Q (.bl true) M) : G (k + 1) 0 .is_name [.int a] M Q E := by
  rw [G_s, st_is_name]
  unfold T_is_name N_is_name
  simp [wSeq_s, tyD, wChain, -Bool.exists_bool, -Prod.exists]
  rw [decide_eq_true (by omega)]
  exact now h
theorem rows_of_ok (k : Nat) (d : De) (M : Hm) (Q : DK) (E : DX) (h : Q (.tup (d.rows.map rowD)) M) : G (k + 1) 0 .rows_of [d.enc] M Q E := by
  rw [G_s, st_rows_of]
  unfold T_rows_of N_rows_of
  obtain ⟨l, hl⟩ := enc_kind d
  have g : L2.atI (D.str (tx d.kind) :: l) 0 = some (.str (tx d.kind)) := by rw [show (0 : Int) = ((0 : Nat) : Int) from rfl, atI_nat (by simp)]; rfl
  have hr := rows_of_kind d
  have hm := kind_mem d
  have hc : (!d.rows.isEmpty) = true → cutG (D.str (tx d.kind) :: l) (some 2) none = d.rows.map rowD := by
    cases d with
    | told a t => intro z; cases z
    | look s a b => intro z; cases z
    | two s a b c => intro z; cases z
    | whl a r => intro _; rw [De.enc] at hl; cases hl; rfl
    | ife a r s => intro _; rw [De.enc] at hl; cases hl; rfl
  simp [wSeq_s, hl, g, -Bool.exists_bool]
  refine ⟨d.kind, hm, rfl, ?_⟩
  rw [hr]
  refine L2.ite2 (fun z => ?_) (fun z => ?_)
  · rw [hc z]; exact now h
  · have e : d.rows = [] := by
      cases q : d.rows with
      | nil => rfl
      | cons x y => rw [q] at z; exact absurd rfl z
    rw [e] at h
    exact now h
theorem names_of_ok (k : Nat) (d : De) (M : Hm) (Q : DK) (E : DX) (h : Q (.tup (d.names.map fun n : Nat => D.int n)) M) : G (k + 1) 0 .names_of [d.enc] M Q E := by
  rw [G_s, st_names_of]
  unfold T_names_of N_names_of
  obtain ⟨l, hl⟩ := enc_kind d
  have g : L2.atI (D.str (tx d.kind) :: l) 0 = some (.str (tx d.kind)) := by rw [show (0 : Int) = ((0 : Nat) : Int) from rfl, atI_nat (by simp)]; rfl
  have hr := names_of_kind d
  have hm := kind_mem d
  have hc : cutG (D.str (tx d.kind) :: l) (some 1) (some (1 + (d.names.length : Int))) = d.names.map fun n : Nat => D.int n := by
    cases d with
    | told a t => rw [De.enc] at hl; cases hl; rfl
    | look s a b => rw [De.enc] at hl; cases hl; rfl
    | two s a b c => rw [De.enc] at hl; cases hl; rfl
    | whl a r => rw [De.enc] at hl; cases hl; rfl
    | ife a r s => rw [De.enc] at hl; cases hl; rfl
  simp [wSeq_s, hl, g, -Bool.exists_bool]
  refine ⟨d.kind, hm, rfl, _, hr, ?_⟩
  rw [hc]
  exact now h
end K22
namespace K22
open DL
theorem encT_pure : ∀ t : Th, D.pure es0 (enc t) = true
  | .nil => by simp [Th.enc, D.pure, D.puref, fieldsOf, es0]
  | .mk => by simp [Th.enc, D.pure, D.puref, fieldsOf, es0]
  | .pair a b => by simp [Th.enc, D.pure, D.puref, fieldsOf, es0, encT_pure a, encT_pure b]; simpa [es0] using ⟨encT_pure a, encT_pure b⟩
theorem encT_dp (t : Th) : (enc t).dp = 4 := by cases t <;> simp [Th.enc, D.dp, D.dpf, selF]
mutual
theorem De.pure : ∀ d : De, D.pure es0 d.enc = true
  | .told a t => by have := encT_pure t; simp [De.enc, D.pure, D.pures, this]
  | .look s a b => by simp [De.enc, D.pure, D.pures]
  | .two s a b c => by simp [De.enc, D.pure, D.pures]
  | .whl a r => by have := Ro.pure r; simp [De.enc, D.pure, D.pures, this]
  | .ife a r s => by have h1 := Ro.pure r; have h2 := Ro.pure s; simp [De.enc, D.pure, D.pures, h1, h2]
theorem Ro.pure : ∀ r : Ro, D.pures es0 r.encs = true
  | .nil => by simp [Ro.encs, D.pures]
  | .cons d r => by have h1 := De.pure d; have h2 := Ro.pure r; simp [Ro.encs, D.pures, h1, h2]
end
mutual
theorem De.dp_le : ∀ d : De, d.enc.dp ≤ 5 + 2 * d.fl
  | .told a t => by have := encT_dp t; simp [De.enc, De.fl, D.dp, D.dps, this]
  | .look s a b => by simp [De.enc, De.fl, D.dp, D.dps]
  | .two s a b c => by simp [De.enc, De.fl, D.dp, D.dps]
  | .whl a r => by have := Ro.dp_le r; simp [De.enc, De.fl, D.dp, D.dps]; omega
  | .ife a r s => by have h1 := Ro.dp_le r; have h2 := Ro.dp_le s; simp [De.enc, De.fl, D.dp, D.dps]; omega
theorem Ro.dp_le : ∀ r : Ro, D.dps r.encs ≤ 5 + 2 * r.fl
  | .nil => by simp [Ro.encs, D.dps]
  | .cons d r => by have h1 := De.dp_le d; have h2 := Ro.dp_le r; simp [Ro.encs, Ro.fl, D.dps]; omega
end
theorem ne_empty (k : Nat) (d : De) (M : Hm) (Q : DK) (hk : 5 + 2 * d.fl ≤ k) (h : Q (.bl false) M) : pEq es0 k false d.enc (.tup []) M Q := by
  refine .inl ⟨De.pure d, by simp [D.pure, D.pures], Nat.le_trans (De.dp_le d) hk, by simp [D.dp, D.dps]; omega, ?_⟩
  obtain ⟨l, hl⟩ := enc_kind d
  rw [hl]
  simpa [D.eq, D.eqs] using h
def De.len : De → Nat
  | .told .. => 3 | .look .. => 3 | .two .. => 4 | .whl .. => 3 | .ife .. => 4
theorem enc_tup (d : De) : ∃ l, d.enc = .tup (.str (tx d.kind) :: l) ∧ l.length + 1 = d.len := by cases d <;> exact ⟨_, by rw [De.enc]; rfl, rfl⟩
theorem names_lt (d : De) (h : d.ok) : ∀ n ∈ d.names, n < 10 := by
  cases d <;> (rw [De.ok] at h; intro n hn; simp [De.names] at hn; omega)
def De.isTold : De → Bool
  | .told .. => true | _ => false
theorem told_beq (d : De) : (tx d.kind == tx "told") = d.isTold := by
  cases d with
  | told a t => show (tx "told" == tx "told") = true; decide
  | look s a b => cases s <;> first | (show (tx "first" == tx "told") = false; decide) | (show (tx "second" == tx "told") = false; decide)
  | two s a b c => cases s <;> first | (show (tx "pair" == tx "told") = false; decide) | (show (tx "same" == tx "told") = false; decide)
  | whl a r => show (tx "while" == tx "told") = false; decide
  | ife a r s => show (tx "if" == tx "told") = false; decide
theorem form_len (d : De) : (1 + (d.names.length : Int) + (t_ROWS_OF.lookup d.kind).getD 0 + (if d.isTold = true then 1 else 0)) = (d.len : Int) := by
  cases d with
  | told a t => rfl
  | look s a b => cases s <;> rfl
  | two s a b c => cases s <;> rfl
  | whl a r => rfl
  | ife a r s => rfl
theorem told_iff (d : De) : tx d.kind = tx "told" ↔ d.isTold = true := by rw [← told_beq]; simp
theorem form_len' (d : De) : (1 + (d.names.length : Int) + (t_ROWS_OF.lookup d.kind).getD 0 + (if tx d.kind = tx "told" then 1 else 0)) = (d.len : Int) := by
  have f := form_len d
  by_cases z : tx d.kind = tx "told"
  · rw [if_pos z]; rw [if_pos ((told_iff d).mp z)] at f; exact f
  · rw [if_neg z]; rw [if_neg (fun q => z ((told_iff d).mpr q))] at f; exact f
theorem names_len (d : De) : d.names.length ≤ 3 := by cases d <;> simp [De.names]
theorem tyD_enc (t : Th) (M : Hm) : tyD (enc t) M = some (true, "Thing") := by cases t <;> rfl
theorem rows_len (d : De) : d.rows.length ≤ 2 := by cases d <;> simp [De.rows]
theorem rows_cut (d : De) (h : d.rows ≠ []) : pSl d.enc (some 2) none = fun M Q => Q (.tup (d.rows.map rowD)) M := by
  cases d with
  | told a t => exact absurd rfl h
  | look s a b => exact absurd rfl h
  | two s a b c => exact absurd rfl h
  | whl a r => rw [De.enc]; rfl
  | ife a r s => rw [De.enc]; rfl
theorem has_form_ok (k : Nat) (d : De) (ho : d.ok) (deep : Int) (hd : d.rows ≠ [] → deep ≤ 8) (hk : 2 * d.fl ≤ k) (M : Hm) (Q : DK) (E : DX) (h : Q (.bl true) M) : G (k + 3) 0 .has_form [d.enc, .int deep] M Q E := by
  rw [G_s, st_has_form]
  unfold T_has_form N_has_form
  have eL : LL = 16777216 := rfl
  obtain ⟨l, hl, hlen⟩ := enc_tup d
  have g : L2.atI (D.str (tx d.kind) :: l) 0 = some (.str (tx d.kind)) := by rw [show (0 : Int) = ((0 : Nat) : Int) from rfl, atI_nat (by simp)]; rfl
  have hm := kind_mem d
  have hn := names_of_kind d
  have e1 : (List.lookup d.kind t_NAMES_OF).isSome = true := by rw [hn]; rfl
  rw [wBody_s, wSeq_s]
  simp [hl, tyD, -Bool.exists_bool, -Prod.exists]
  rw [← hl]
  refine ne_empty _ d _ _ (by omega) ⟨false, rfl, ?_⟩
  simp [hl, g, tyD, -Bool.exists_bool, -Prod.exists]
  refine ⟨d.kind, hm, rfl, ?_⟩
  rw [if_neg (by rw [hn]; exact Bool.false_ne_true)]
  rw [wSeq_s]
  simp [g, -Bool.exists_bool]
  rw [wSeq_s]
  simp [-Bool.exists_bool]
  refine ⟨d.kind, hm, rfl, _, hn, d.kind, hm, rfl, ?_⟩
  rw [form_len', wSeq_s]
  have elen : (l.length : Int) + 1 = d.len := by omega
  simp [elen, wComp_s, -Bool.exists_bool]
  rw [← hl]
  refine names_of_ok (k + 1) d _ _ _ ?_
  simp [-Bool.exists_bool]
  refine fun p hp => comp_map (fun _ => .bl true) (fun _ => True.intro) _ _ (fun x hx acc Q' h' => ?_) (by have := names_len d; simp; omega) ?_
  · obtain ⟨n, hn2, rfl⟩ := List.mem_map.mp hx
    simp [wipeD, -Bool.exists_bool]
    exact is_name_ok (k + 1) n (names_lt d ho n hn2) _ _ _ h'
  · refine ⟨d.names.map fun _ => true, .inl (by rw [mup_same]; simp), ?_⟩
    have et : (d.names.map fun _ => true).all id = true := by simp
    rw [et]
    have S : DL.Sub M (mup M p (.lst ([] ++ List.map (fun _ => D.bl true) (d.names.map fun n : Nat => D.int n)))) := sub_mup Sub.rfl' hp
    generalize mup M p (.lst ([] ++ List.map (fun _ => D.bl true) (d.names.map fun n : Nat => D.int n))) = M1 at S
    refine ⟨true, rfl, ?_⟩
    rw [if_pos rfl, wSeq_s]
    simp [told_beq, -Bool.exists_bool]
    refine L2.ite2 (fun z => ?_) (fun z => ?_)
    · cases d with
      | told a t =>
        have g2 : L2.atI [D.str (tx "told"), D.int a, Th.enc t] 2 = some (Th.enc t) := rfl
        simp [wSeq_s, De.enc, g2, tyD_enc, -Bool.exists_bool, -Prod.exists]
        exact ⟨M, S, h⟩
      | look s a b => cases z
      | two s a b c => cases z
      | whl a r => cases z
      | ife a r s => cases z
    · rw [wSeq_s]
      simp [-Bool.exists_bool]
      refine ⟨d.kind, hm, rfl, ?_⟩
      rw [rows_of_kind d]
      refine L2.ite2 (fun y => ?_) (fun y => ?_)
      · have hne : d.rows ≠ [] := fun q => by rw [q] at y; cases y
        have h8 := hd hne
        have hc := rows_cut d hne
        simp [wSeq_s, wComp_s, hc, h8, -Bool.exists_bool, -Prod.exists]
        refine fun p hp => comp_map (fun _ => .bl true) (fun _ => True.intro) _ _ (fun x hx acc Q' h' => ?_) (by have := rows_len d; simp; omega) ?_
        · obtain ⟨r, _, rfl⟩ := List.mem_map.mp hx
          simp [wipeD, rowD, tyD, -Bool.exists_bool, -Prod.exists]
          exact h'
        · refine ⟨d.rows.map fun _ => true, .inl (by rw [mup_same]; simp), ?_⟩
          have et2 : (d.rows.map fun _ => true).all id = true := by simp
          rw [et2]
          exact ⟨M, sub_mup S (sub_none S hp), h⟩
      · simp [wSeq_s, -Bool.exists_bool]
        exact ⟨M, S, h⟩
theorem check_row_of (n : Nat) (r : Ro) (deep at_ : Nat) (M : Hm) (Q : DK) (E : DX) (hl : ∀ (K : DEn) (o : Option D) (row : D), (∀ o, K.nx [some row, some (.int deep), some (.int (at_ + r.sz : Nat)), o] M) → wLoop (wName 3) (B_check_row_0 (G n) n) K (fun _ => True) r.encs [some row, some (.int deep), some (.int at_), o] M)
    (h : Q (.int (at_ + r.sz : Nat)) M) : G (n + 1) 0 .check_row [rowD r, .int deep, .int at_] M Q E := by
  rw [G_s, st_check_row]
  unfold T_check_row N_check_row
  simp [wSeq_s, wFor_s, rowD, -Bool.exists_bool]
  refine hl _ none _ fun o => ?_
  simp
  exact now (by simpa using h)
mutual
theorem check_deed_ok : ∀ (d : De) (n deep at_ : Nat) (M : Hm) (Q : DK) (E : DX), 2 * d.fl + 4 ≤ n → d.ok → deep + d.fl ≤ 9 → at_ + d.sz ≤ 4000 → Q (.int (at_ + d.sz : Nat)) M → G n 0 .check_deed [d.enc, .int deep, .int at_] M Q E
  | .told a t, n, deep, at_, M, Q, E, hn, ho, hd, hz, h => by
    have ef : (De.told a t).fl = 0 := by simp [De.fl]
    have es : (De.told a t).sz = 1 := by simp [De.sz]
    obtain ⟨k, rfl⟩ : ∃ k, n = k + 4 := ⟨n - 4, by omega⟩
    rw [es] at hz h
    have hf := has_form_ok k (.told a t) ho deep (fun q => absurd rfl q) (by omega)
    rw [G_s, st_check_deed]
    unfold T_check_deed N_check_deed
    rw [wBody_s, wSeq_s]
    simp [-Bool.exists_bool]
    rw [if_neg (by omega)]
    refine hf _ _ _ ⟨true, rfl, ?_⟩
    simp [wSeq_s, wFor_s, -Bool.exists_bool]
    refine rows_of_ok (k + 2) (.told a t) _ _ _ ?_
    simp [De.rows, -Bool.exists_bool]
    rw [wLoop_n]
    refine ⟨True.intro, ?_⟩
    simp [-Bool.exists_bool]
    exact now h
  | .look s a b, n, deep, at_, M, Q, E, hn, ho, hd, hz, h => by
    have ef : (De.look s a b).fl = 0 := by simp [De.fl]
    have es : (De.look s a b).sz = 1 := by simp [De.sz]
    obtain ⟨k, rfl⟩ : ∃ k, n = k + 4 := ⟨n - 4, by omega⟩
    rw [es] at hz h
    have hf := has_form_ok k (.look s a b) ho deep (fun q => absurd rfl q) (by omega)
    rw [G_s, st_check_deed]
    unfold T_check_deed N_check_deed
    rw [wBody_s, wSeq_s]
    simp [-Bool.exists_bool]
    rw [if_neg (by omega)]
    refine hf _ _ _ ⟨true, rfl, ?_⟩
    simp [wSeq_s, wFor_s, -Bool.exists_bool]
    refine rows_of_ok (k + 2) (.look s a b) _ _ _ ?_
    simp [De.rows, -Bool.exists_bool]
    rw [wLoop_n]
    refine ⟨True.intro, ?_⟩
    simp [-Bool.exists_bool]
    exact now h
  | .two s a b c, n, deep, at_, M, Q, E, hn, ho, hd, hz, h => by
    have ef : (De.two s a b c).fl = 0 := by simp [De.fl]
    have es : (De.two s a b c).sz = 1 := by simp [De.sz]
    obtain ⟨k, rfl⟩ : ∃ k, n = k + 4 := ⟨n - 4, by omega⟩
    rw [es] at hz h
    have hf := has_form_ok k (.two s a b c) ho deep (fun q => absurd rfl q) (by omega)
    rw [G_s, st_check_deed]
    unfold T_check_deed N_check_deed
    rw [wBody_s, wSeq_s]
    simp [-Bool.exists_bool]
    rw [if_neg (by omega)]
    refine hf _ _ _ ⟨true, rfl, ?_⟩
    simp [wSeq_s, wFor_s, -Bool.exists_bool]
    refine rows_of_ok (k + 2) (.two s a b c) _ _ _ ?_
    simp [De.rows, -Bool.exists_bool]
    rw [wLoop_n]
    refine ⟨True.intro, ?_⟩
    simp [-Bool.exists_bool]
    exact now h
  | .whl a r, n, deep, at_, M, Q, E, hn, ho, hd, hz, h => by
    obtain ⟨k, rfl⟩ : ∃ k, n = k + 4 := ⟨n - 4, by omega⟩
    rw [De.fl] at hn hd
    rw [De.sz] at hz h
    have hf := has_form_ok k (.whl a r) ho deep (fun _ => by omega) (by rw [De.fl]; omega)
    rw [G_s, st_check_deed]
    unfold T_check_deed N_check_deed
    rw [wBody_s, wSeq_s]
    simp [-Bool.exists_bool]
    rw [if_neg (by omega)]
    refine hf _ _ _ ⟨true, rfl, ?_⟩
    simp [wSeq_s, wFor_s, -Bool.exists_bool]
    refine rows_of_ok (k + 2) (.whl a r) _ _ _ ?_
    simp [De.rows, -Bool.exists_bool]
    rw [wLoop_c]
    refine ⟨True.intro, ?_⟩
    unfold B_check_deed_0
    simp [wSeq_s, -Bool.exists_bool]
    rw [De.ok] at ho
    refine check_row_of (k + 2) r (deep + 1) (at_ + 1) _ _ _ (fun K o row hk => check_loop r (k + 2) (deep + 1) (at_ + 1) _ K o row (by omega) ho.2 (by omega) (by omega) hk) ?_
    refine now ?_
    rw [wLoop_n]
    refine ⟨True.intro, ?_⟩
    rw [Nat.add_assoc]
    exact ⟨_, rfl, now h⟩
  | .ife a r s, n, deep, at_, M, Q, E, hn, ho, hd, hz, h => by
    obtain ⟨k, rfl⟩ : ∃ k, n = k + 4 := ⟨n - 4, by omega⟩
    rw [De.fl] at hn hd
    rw [De.sz] at hz h
    have hf := has_form_ok k (.ife a r s) ho deep (fun _ => by omega) (by rw [De.fl]; omega)
    rw [G_s, st_check_deed]
    unfold T_check_deed N_check_deed
    rw [wBody_s, wSeq_s]
    simp [-Bool.exists_bool]
    rw [if_neg (by omega)]
    refine hf _ _ _ ⟨true, rfl, ?_⟩
    simp [wSeq_s, wFor_s, -Bool.exists_bool]
    refine rows_of_ok (k + 2) (.ife a r s) _ _ _ ?_
    simp [De.rows, -Bool.exists_bool]
    rw [wLoop_c]
    refine ⟨True.intro, ?_⟩
    unfold B_check_deed_0
    simp [wSeq_s, -Bool.exists_bool]
    rw [De.ok] at ho
    refine check_row_of (k + 2) r (deep + 1) (at_ + 1) _ _ _ (fun K o row hk => check_loop r (k + 2) (deep + 1) (at_ + 1) _ K o row (by omega) ho.2.1 (by omega) (by omega) hk) ?_
    refine now ?_
    rw [wLoop_c]
    refine ⟨True.intro, ?_⟩
    simp [wSeq_s, -Bool.exists_bool]
    refine check_row_of (k + 2) s (deep + 1) (at_ + 1 + r.sz) _ _ _ (fun K o row hk => check_loop s (k + 2) (deep + 1) (at_ + 1 + r.sz) _ K o row (by omega) ho.2.2 (by omega) (by omega) hk) ?_
    refine now ?_
    rw [wLoop_n]
    refine ⟨True.intro, ?_⟩
    have e : at_ + 1 + r.sz + s.sz = at_ + (1 + r.sz + s.sz) := by omega
    rw [e]
    exact ⟨_, rfl, now h⟩
theorem check_loop : ∀ (r : Ro) (n deep at_ : Nat) (M : Hm) (K : DEn) (o : Option D) (row : D), 2 * r.fl + 4 ≤ n → r.ok → deep + r.fl ≤ 9 → at_ + r.sz ≤ 4000 → (∀ o, K.nx [some row, some (.int deep), some (.int (at_ + r.sz : Nat)), o] M) →
    wLoop (wName 3) (B_check_row_0 (G n) n) K (fun _ => True) r.encs [some row, some (.int deep), some (.int at_), o] M
  | .nil, n, deep, at_, M, K, o, row, hn, ho, hd, hz, h => by
    rw [Ro.encs]
    exact ⟨True.intro, by simpa [Ro.sz] using h o⟩
  | .cons d r, n, deep, at_, M, K, o, row, hn, ho, hd, hz, h => by
    rw [Ro.fl] at hn hd
    rw [Ro.sz] at hz h
    rw [Ro.ok] at ho
    rw [Ro.encs, wLoop_c]
    refine ⟨True.intro, ?_⟩
    unfold B_check_row_0
    simp [wSeq_s, -Bool.exists_bool]
    refine check_deed_ok d n deep at_ _ _ _ (by omega) ho.1 (by omega) (by omega) ?_
    have ih := fun K o => check_loop r n deep (at_ + d.sz) M K o row (by omega) ho.2 (by omega) (by omega)
    unfold B_check_row_0 at ih
    refine now (ih _ _ fun o => ?_)
    rw [Nat.add_assoc]
    exact h o
end
end K22
namespace K22
open DL
def De.inn (d : De) : List Int := d.rows.map fun r => (r.sz : Int)
def Ro.inns : Ro → List Int
  | .nil => []
  | .cons d r => d.inn.sum :: r.inns
def Ro.len : Ro → Nat
  | .nil => 0
  | .cons _ r => r.len + 1
theorem encs_len : ∀ r : Ro, r.encs.length = r.len
  | .nil => rfl
  | .cons d r => by rw [Ro.encs, List.length_cons, encs_len r, Ro.len]
theorem inn_sum (d : De) : d.inn.sum + 1 = (d.sz : Int) := by
  cases d with
  | told a t => simp [De.inn, De.rows, De.sz]
  | look s a b => simp [De.inn, De.rows, De.sz]
  | two s a b c => simp [De.inn, De.rows, De.sz]
  | whl a r => simp [De.inn, De.rows, De.sz]; omega
  | ife a r s => simp [De.inn, De.rows, De.sz]; omega
theorem inns_sum : ∀ r : Ro, (r.len : Int) + r.inns.sum = r.sz
  | .nil => by simp [Ro.len, Ro.inns, Ro.sz]
  | .cons d r => by
    have h1 := inn_sum d
    have h2 := inns_sum r
    simp [Ro.len, Ro.inns, Ro.sz]; omega
theorem len_sz : ∀ r : Ro, r.len ≤ r.sz
  | .nil => Nat.le_refl _
  | .cons d r => by
    have h1 := len_sz r
    have : 1 ≤ d.sz := by cases d <;> simp [De.sz] <;> omega
    simp only [Ro.len, Ro.sz]; omega
abbrev TeS (n : Nat) : DTE := (wCallP (fun ds M Q _ => pSum ds M Q) (wCons (wComp (wItV (wCall 1 0 [.arg 0] (G n 0 .rows_of) (wCons (wVar 1) wNil) wNil)) (wName 2) wYes (wCall 1 0 [.arg 0] (G n 0 .size_of) (wCons (wVar 2) wNil) wNil) [2]) wNil))
/-- a comprehension whose elements may leave things behind -/
theorem comp_mapG {α : Type} {i : Nat} {Te : DTE} {vs : List Nat} {σ : SD} {N : Hm} {p : PySem.Addr} {Q st : Hm → Prop} (e g : α → D) (hp : N p = none) (hst : ∀ M, DL.Sub N M → st M) : ∀ (xs : List α) (acc : List D) (M : Hm),
    (∀ x ∈ xs, ∀ (M : Hm) (Q' : DK), (∀ M', DL.Sub M M' → Q' (g x) M') → Te ((wipeD σ vs).set i (some (e x))) M Q' (fun _ _ => False)) → acc.length + xs.length ≤ LL → M p = some (.lst acc) → DL.Sub N M →
    (∀ M', M' p = some (.lst (acc ++ xs.map g)) → DL.Sub N M' → Q M') → wCompL (wName i) wYes Te vs p st Q (xs.map e) σ M
  | [], acc, M, _, _, hM, hS, h => ⟨hst M hS, h M (by simpa using hM) hS⟩
  | x :: xs, acc, M, he, hl, hM, hS, h => by
    rw [List.map_cons, wCompL_c]
    simp only [List.length_cons] at hl
    refine ⟨hst M hS, ?_⟩
    simp only [wName_s, wYes_s, if_true]
    refine he x List.mem_cons_self M _ fun M' hM' => ⟨acc, hM' _ _ hM, by omega, ?_⟩
    refine comp_mapG e g hp hst xs (acc ++ [g x]) _ (fun y hy => he y (List.mem_cons_of_mem _ hy)) (by simp; omega) mup_same (sub_mup (hS.trans' hM') hp) fun M2 h1 h2 => h M2 (by simpa using h1) h2
theorem te_ok (n : Nat) (d : De) (o0 o2 : Option D) (M : Hm) (Q : DK) (E : DX) (hs : ∀ r ∈ d.rows, ∀ (M : Hm) (Q : DK) (E : DX), (∀ M', DL.Sub M M' → Q (.int (r.sz : Nat)) M') → G (n + 1) 0 .size_of [rowD r] M Q E)
    (h : ∀ M', DL.Sub M M' → Q (.int d.inn.sum) M') : TeS (n + 1) [o0, some d.enc, o2] M Q E := by
  have eL : LL = 16777216 := rfl
  unfold TeS
  simp [wComp_s, -Bool.exists_bool]
  refine rows_of_ok n d _ _ _ ?_
  simp [-Bool.exists_bool]
  intro p hp
  refine comp_mapG rowD (fun r : Ro => .int (r.sz : Nat)) hp (fun _ _ => True.intro) d.rows [] _ (fun r hr M Q' h' => ?_) (by have := rows_len d; simp; omega) mup_same (sub_mup Sub.rfl' hp) fun M' h1 h2 => ?_
  · simp [wipeD, -Bool.exists_bool]
    exact hs r hr M _ _ h'
  · refine ⟨d.inn, .inl ?_, h M' h2⟩
    rw [h1]
    simp [De.inn]
/-- the deeds of a row -/
def Ro.list : Ro → List De
  | .nil => []
  | .cons d r => d :: r.list
theorem list_encs : ∀ r : Ro, r.encs = r.list.map De.enc
  | .nil => rfl
  | .cons d r => by rw [Ro.encs, Ro.list, List.map_cons, list_encs r]
theorem list_inns : ∀ r : Ro, r.inns = r.list.map fun d => d.inn.sum
  | .nil => rfl
  | .cons d r => by rw [Ro.inns, Ro.list, List.map_cons, list_inns r]
theorem list_len : ∀ r : Ro, r.list.length = r.len
  | .nil => rfl
  | .cons d r => by rw [Ro.list, List.length_cons, list_len r, Ro.len]
theorem size_of_of (n : Nat) (r : Ro) (hz : r.sz ≤ 4000) (hs : ∀ d ∈ r.list, ∀ s ∈ d.rows, ∀ (M : Hm) (Q : DK) (E : DX), (∀ M', DL.Sub M M' → Q (.int (s.sz : Nat)) M') → G (n + 1) 0 .size_of [rowD s] M Q E)
    (M : Hm) (Q : DK) (E : DX) (h : ∀ M', DL.Sub M M' → Q (.int (r.sz : Nat)) M') : G (n + 2) 0 .size_of [rowD r] M Q E := by
  rw [G_s, st_size_of]
  unfold T_size_of N_size_of
  have eL : LL = 16777216 := rfl
  have hl := len_sz r
  simp only [wBody_s, wSeq_s, wRet_s, w2_s, wCallP_s, wCons_s, wNil_s]
  simp [rowD, wComp_s, -Bool.exists_bool]
  intro p hp
  have eT : (wCallP (fun ds M Q x => pSum ds M Q) (wCons (wComp (wItV (wCall 1 0 [Ar.arg 0] (G (n + 1) 0 .rows_of) (wCons (wVar 1) wNil) wNil)) (wName 2) wYes (wCall 1 0 [Ar.arg 0] (G (n + 1) 0 .size_of) (wCons (wVar 2) wNil) wNil) [2]) wNil)) = TeS (n + 1) := rfl
  rw [list_encs]
  refine comp_mapG De.enc (fun d : De => .int d.inn.sum) hp (fun _ _ => True.intro) r.list [] _ (fun d hd M Q' h' => ?_) (by rw [list_len]; simp; omega) mup_same (sub_mup Sub.rfl' hp) fun M' h1 h2 => ?_
  · exact te_ok n d _ _ M _ _ (hs d hd) h'
  · refine ⟨r.inns, .inl (by rw [h1, list_inns]; simp), ?_⟩
    have e := inns_sum r
    simp [list_len]
    rw [e]
    exact ⟨M', Sub.rfl', h M' h2⟩
theorem rows_fl (d : De) : ∀ s ∈ d.rows, s.fl + 1 ≤ d.fl ∧ s.sz + 1 ≤ d.sz := by
  cases d with
  | told a t => intro s hs; cases hs
  | look s a b => intro s hs; cases hs
  | two s a b c => intro s hs; cases hs
  | whl a r => intro s hs; simp [De.rows] at hs; subst hs; simp only [De.fl, De.sz]; omega
  | ife a r q => intro s hs; simp [De.rows] at hs; rcases hs with rfl | rfl <;> (simp only [De.fl, De.sz]; omega)
theorem list_fl : ∀ (r : Ro), ∀ d ∈ r.list, d.fl ≤ r.fl ∧ d.sz ≤ r.sz
  | .nil => fun d hd => by cases hd
  | .cons e r => fun d hd => by
    rw [Ro.list] at hd
    simp only [Ro.fl, Ro.sz]
    rcases List.mem_cons.mp hd with rfl | hd
    · omega
    · have := list_fl r d hd; omega
theorem rows_ok (d : De) (h : d.ok) : ∀ s ∈ d.rows, s.ok := by
  cases d with
  | told a t => intro s hs; cases hs
  | look s a b => intro s hs; cases hs
  | two s a b c => intro s hs; cases hs
  | whl a r => rw [De.ok] at h; intro s hs; simp [De.rows] at hs; subst hs; exact h.2
  | ife a r q => rw [De.ok] at h; intro s hs; simp [De.rows] at hs; rcases hs with rfl | rfl; exact h.2.1; exact h.2.2
theorem list_ok : ∀ (r : Ro), r.ok → ∀ d ∈ r.list, d.ok
  | .nil, _ => fun d hd => by cases hd
  | .cons e r, h => fun d hd => by
    rw [Ro.ok] at h
    rw [Ro.list] at hd
    rcases List.mem_cons.mp hd with rfl | hd
    · exact h.1
    · exact list_ok r h.2 d hd
theorem size_of_ok (f : Nat) : ∀ (r : Ro) (n : Nat), r.fl ≤ f → f + 2 ≤ n → r.sz ≤ 4000 → ∀ (M : Hm) (Q : DK) (E : DX), (∀ M', DL.Sub M M' → Q (.int (r.sz : Nat)) M') → G n 0 .size_of [rowD r] M Q E := by
  induction f with
  | zero =>
    intro r n hf hn hz M Q E h
    obtain ⟨n, rfl⟩ : ∃ k, n = k + 2 := ⟨n - 2, by omega⟩
    refine size_of_of n r hz (fun d hd s hs => ?_) M Q E h
    have h1 := list_fl r d hd
    have h2 := rows_fl d s hs
    omega
  | succ f ih =>
    intro r n hf hn hz M Q E h
    obtain ⟨n, rfl⟩ : ∃ k, n = k + 2 := ⟨n - 2, by omega⟩
    refine size_of_of n r hz (fun d hd s hs => ?_) M Q E h
    have h1 := list_fl r d hd
    have h2 := rows_fl d s hs
    exact ih s (n + 1) (by omega) (by omega) (by omega)
end K22
namespace K22
open DL
/-- where a row begins, or what takes its place -/
def bg (r : Ro) (at_ none_ : Nat) : Nat := match r with
  | .nil => none_
  | _ => at_
/-- where a row's end goes -/
def De.back (d : De) (at_ after : Nat) : Nat := match d with
  | .whl .. => at_
  | _ => after
def De.b0 (d : De) (at_ after : Nat) : Nat := match d with
  | .whl _ r => bg r (at_ + 1) at_ | .ife _ r _ => bg r (at_ + 1) after | _ => after
def De.b1 (d : De) (at_ after : Nat) : Nat := match d with
  | .ife _ r s => bg s (at_ + 1 + r.sz) after | _ => after
def De.entry (d : De) (at_ after : Nat) : D := .tup [d.enc, .int after, .int (d.b0 at_ after), .int (d.b1 at_ after)]
mutual
def De.pl : De → Nat → Nat → List D
  | .whl a r, at_, after => De.entry (.whl a r) at_ after :: r.pl (at_ + 1) at_
  | .ife a r s, at_, after => De.entry (.ife a r s) at_ after :: (r.pl (at_ + 1) after ++ s.pl (at_ + 1 + r.sz) after)
  | .told a t, at_, after => [De.entry (.told a t) at_ after]
  | .look s a b, at_, after => [De.entry (.look s a b) at_ after]
  | .two s a b c, at_, after => [De.entry (.two s a b c) at_ after]
def Ro.pl : Ro → Nat → Nat → List D
  | .nil, _, _ => []
  | .cons d .nil, at_, behind => d.pl at_ behind
  | .cons d (.cons e r), at_, behind => d.pl at_ (at_ + d.sz) ++ Ro.pl (.cons e r) (at_ + d.sz) behind
end
mutual
theorem De.pl_len : ∀ (d : De) (a b : Nat), (d.pl a b).length = d.sz
  | .whl x r, a, b => by rw [De.pl, List.length_cons, Ro.pl_len r, De.sz]; omega
  | .ife x r s, a, b => by rw [De.pl, List.length_cons, List.length_append, Ro.pl_len r, Ro.pl_len s, De.sz]; omega
  | .told x t, a, b => by simp [De.pl, De.sz]
  | .look s x y, a, b => by simp [De.pl, De.sz]
  | .two s x y z, a, b => by simp [De.pl, De.sz]
theorem Ro.pl_len : ∀ (r : Ro) (a b : Nat), (r.pl a b).length = r.sz
  | .nil, a, b => by simp [Ro.pl, Ro.sz]
  | .cons d .nil, a, b => by rw [Ro.pl, De.pl_len d]; simp [Ro.sz]
  | .cons d (.cons e r), a, b => by rw [Ro.pl, List.length_append, De.pl_len d, Ro.pl_len (.cons e r)]; simp only [Ro.sz]
end
theorem ne_nil_row (k : Nat) (r : Ro) (M : Hm) (Q : DK) (hk : 6 + 2 * r.fl ≤ k) (h : Q (.bl (!r.list.isEmpty)) M) : pNe es0 k (rowD r) (.tup []) M Q := by
  have h1 := Ro.dp_le r
  have h2 : (D.tup r.encs).dp ≤ 6 + 2 * r.fl := by simp [D.dp]; omega
  refine .inl ⟨by simpa [rowD, D.pure] using Ro.pure r, by simp [D.pure, D.pures], Nat.le_trans h2 hk, by simp [D.dp, D.dps]; omega, fun z => z, ?_⟩
  cases r with
  | nil => simpa [rowD, Ro.encs, D.eq, D.eqs, Ro.list] using h
  | cons d r => simpa [rowD, Ro.encs, D.eq, D.eqs, Ro.list] using h
def De.isWhl : De → Bool
  | .whl .. => true | _ => false
theorem whl_beq (d : De) : (tx d.kind == tx "while") = d.isWhl := by
  cases d with
  | told a t => show (tx "told" == tx "while") = false; decide
  | look s a b => cases s <;> first | (show (tx "first" == tx "while") = false; decide) | (show (tx "second" == tx "while") = false; decide)
  | two s a b c => cases s <;> first | (show (tx "pair" == tx "while") = false; decide) | (show (tx "same" == tx "while") = false; decide)
  | whl a r => show (tx "while" == tx "while") = true; decide
  | ife a r s => show (tx "if" == tx "while") = false; decide
theorem back_eq (d : De) (a b : Nat) : (if d.isWhl = true then a else b) = d.back a b := by cases d <;> rfl
theorem bg_eq (r : Ro) (a b : Nat) : (if (!r.list.isEmpty) = true then a else b) = bg r a b := by cases r <;> rfl
theorem pl0_turn (n : Nat) (d : De) (r : Ro) (hn : 2 * r.fl + 6 ≤ n) (hz : r.sz ≤ 4000) (f q : PySem.Addr) (s0 s2 s4 s6 s7 : Option D) (at_ after begin_ : Nat) (K : DEn) (M : Hm) (bs : List D) (hM : M q = some (.lst bs)) (hb : bs.length < 100)
    (h : ∀ M', M' q = some (.lst (bs ++ [.int (bg r begin_ (d.back at_ after))])) → SubB q M M' → K.nx [s0, some (.int at_), s2, some (.ref f), s4, some d.enc, s6, s7, some (.int after), some (.ref q), some (.int (begin_ + r.sz : Nat)), some (rowD r)] M') :
    B_placed_0 (G (n + 1)) (n + 1) K [s0, some (.int at_), s2, some (.ref f), s4, some d.enc, s6, s7, some (.int after), some (.ref q), some (.int begin_), some (rowD r)] M := by
  unfold B_placed_0
  have eL : LL = 16777216 := rfl
  obtain ⟨l, hl⟩ := enc_kind d
  have g : L2.atI (D.str (tx d.kind) :: l) 0 = some (.str (tx d.kind)) := by rw [show (0 : Int) = ((0 : Nat) : Int) from rfl, atI_nat (by simp)]; rfl
  have fin : ∀ v : Nat, v = bg r begin_ (d.back at_ after) → (wSeq (wAug 10 (wCall 1 0 [.arg 0] (G (n + 1) 0 .size_of) (wCons (wVar 11) wNil) wNil) pIAdd) wSkip) K [s0, some (.int at_), s2, some (.ref f), s4, some d.enc, s6, s7, some (.int after), some (.ref q), some (.int begin_), some (rowD r)] (mup M q (.lst (bs ++ [.int v]))) := by
    rintro v rfl
    simp [wSeq_s, -Bool.exists_bool]
    refine size_of_ok r.fl r (n + 1) (Nat.le_refl _) (by omega) hz _ _ _ fun M' hS => ?_
    simp [-Bool.exists_bool]
    exact h M' (hS _ _ mup_same) (fun a m ne e => hS _ _ (by rw [mup_ne ne]; exact e))
  rw [wSeq_s]
  simp [hM, -Bool.exists_bool]
  refine ⟨⟨_, .inl hM⟩, ne_nil_row _ r _ _ (by omega) ⟨_, rfl, ?_⟩⟩
  refine L2.ite2 (fun z => ?_) (fun z => ?_)
  · exact ⟨_, hM, by omega, fin _ (by rw [← bg_eq, if_pos z])⟩
  · rw [hl]
    simp [g, whl_beq, -Bool.exists_bool]
    rw [← hl]
    refine L2.ite2 (fun y => ?_) (fun y => ?_)
    · exact ⟨_, hM, by omega, fin _ (by rw [← bg_eq, if_neg z, ← back_eq, if_pos y])⟩
    · exact ⟨_, hM, by omega, fin _ (by rw [← bg_eq, if_neg z, ← back_eq, if_neg y])⟩
theorem pl1_turn (n : Nat) (d : De) (r : Ro) (hn : 2 * r.fl + 6 ≤ n) (hz : r.sz ≤ 4000) (f : PySem.Addr) (s0 s2 s4 s6 s7 s9 : Option D) (at_ after begin_ : Nat) (K : DEn) (M : Hm) (acc : List D) (hM : M f = some (.lst acc)) (ha : acc.length + r.sz ≤ 4000)
    (hin : ∀ (a b : Nat) (M : Hm) (acc : List D) (Q : DK) (E : DX), M f = some (.lst acc) → acc.length + r.sz ≤ 4000 → (∀ M', M' f = some (.lst (acc ++ r.pl a b)) → SubB f M M' → Q .non M') → G (n + 1) 0 .placed [rowD r, .int a, .int b, .ref f] M Q E)
    (h : ∀ M', M' f = some (.lst (acc ++ r.pl begin_ (d.back at_ after))) → SubB f M M' → K.nx [s0, some (.int at_), s2, some (.ref f), s4, some d.enc, s6, s7, some (.int after), s9, some (.int (begin_ + r.sz : Nat)), some (rowD r)] M') :
    B_placed_1 (G (n + 1)) (n + 1) K [s0, some (.int at_), s2, some (.ref f), s4, some d.enc, s6, s7, some (.int after), s9, some (.int begin_), some (rowD r)] M := by
  unfold B_placed_1
  obtain ⟨l, hl⟩ := enc_kind d
  have g : L2.atI (D.str (tx d.kind) :: l) 0 = some (.str (tx d.kind)) := by rw [show (0 : Int) = ((0 : Nat) : Int) from rfl, atI_nat (by simp)]; rfl
  have fin : ∀ M', M' f = some (.lst (acc ++ r.pl begin_ (d.back at_ after))) → SubB f M M' → (wSeq (wAug 10 (wCall 1 0 [.arg 0] (G (n + 1) 0 .size_of) (wCons (wVar 11) wNil) wNil) pIAdd) wSkip) K [s0, some (.int at_), s2, some (.ref f), s4, some d.enc, s6, s7, some (.int after), s9, some (.int begin_), some (rowD r)] M' := by
    intro M1 h1 S1
    simp [wSeq_s, -Bool.exists_bool]
    refine size_of_ok r.fl r (n + 1) (Nat.le_refl _) (by omega) hz _ _ _ fun M' hS => ?_
    simp [-Bool.exists_bool]
    exact h M' (hS _ _ h1) (fun a m ne e => hS _ _ (S1 a m ne e))
  rw [wSeq_s]
  rw [hl]
  simp [g, whl_beq, -Bool.exists_bool]
  rw [← hl]
  refine L2.ite2 (fun y => ?_) (fun y => ?_)
  · exact hin begin_ at_ M acc _ _ hM ha fun M' h1 h2 => fin M' (by rw [← back_eq, if_pos y]; exact h1) h2
  · exact hin begin_ after M acc _ _ hM ha fun M' h1 h2 => fin M' (by rw [← back_eq, if_neg y]; exact h1) h2
end K22
namespace K22
open DL
def begs (d : De) (at_ after : Nat) : List Ro → Nat → List D
  | [], _ => []
  | r :: rs, b => .int (bg r b (d.back at_ after)) :: begs d at_ after rs (b + r.sz)
def pls (d : De) (at_ after : Nat) : List Ro → Nat → List D
  | [], _ => []
  | r :: rs, b => r.pl b (d.back at_ after) ++ pls d at_ after rs (b + r.sz)
theorem begs_len (d : De) (at_ after : Nat) : ∀ (rs : List Ro) (b : Nat), (begs d at_ after rs b).length = rs.length
  | [], _ => rfl
  | r :: rs, b => by rw [begs, List.length_cons, begs_len d at_ after rs, List.length_cons]
theorem pl_eq (d : De) (at_ after : Nat) : d.pl at_ after = d.entry at_ after :: pls d at_ after d.rows (at_ + 1) := by
  cases d with
  | told a t => rw [De.pl]; rfl
  | look s a b => rw [De.pl]; rfl
  | two s a b c => rw [De.pl]; rfl
  | whl a r => rw [De.pl]; simp [De.rows, pls, De.back]
  | ife a r s => rw [De.pl]; simp [De.rows, pls, De.back]
theorem begs_01 (d : De) (at_ after : Nat) : ∃ l, begs d at_ after d.rows (at_ + 1) ++ [.int after, .int after] = .int (d.b0 at_ after) :: .int (d.b1 at_ after) :: l := by
  cases d with
  | told a t => exact ⟨[], rfl⟩
  | look s a b => exact ⟨[], rfl⟩
  | two s a b c => exact ⟨[], rfl⟩
  | whl a r => exact ⟨_, rfl⟩
  | ife a r s => exact ⟨_, rfl⟩
theorem loop0 (n : Nat) (d : De) (f q : PySem.Addr) (s0 s2 s4 s6 s7 : Option D) (at_ after : Nat) (K : DEn) (N : Hm) (hq : N q = none) : ∀ (rs : List Ro) (begin_ : Nat) (bs : List D) (o11 : Option D) (M : Hm), (∀ r ∈ rs, 2 * r.fl + 6 ≤ n ∧ r.sz ≤ 4000) → bs.length + rs.length < 100 → M q = some (.lst bs) → DL.Sub N M →
    (∀ b o11 M', M' q = some (.lst (bs ++ begs d at_ after rs begin_)) → DL.Sub N M' → K.nx [s0, some (.int at_), s2, some (.ref f), s4, some d.enc, s6, s7, some (.int after), some (.ref q), some (.int b), o11] M') →
    wLoop (wName 11) (B_placed_0 (G (n + 1)) (n + 1)) K (fun _ => True) (rs.map rowD) [s0, some (.int at_), s2, some (.ref f), s4, some d.enc, s6, s7, some (.int after), some (.ref q), some (.int begin_), o11] M
  | [], b, bs, o11, M, hr, hb, hM, hS, h => ⟨True.intro, h b o11 M (by simpa [begs] using hM) hS⟩
  | r :: rs, b, bs, o11, M, hr, hb, hM, hS, h => by
    rw [List.map_cons, wLoop_c]
    refine ⟨True.intro, ?_⟩
    simp only [wName_s]
    have hr0 := hr r List.mem_cons_self
    simp only [List.length_cons] at hb
    refine pl0_turn n d r hr0.1 hr0.2 f q s0 s2 s4 s6 s7 at_ after b _ M bs hM (by omega) fun M' h1 h2 => now ?_
    have S' : DL.Sub N M' := fun a m e => h2 a m (ne_none e hq) (hS a m e)
    exact loop0 n d f q s0 s2 s4 s6 s7 at_ after K N hq rs (b + r.sz) _ _ M' (fun x hx => hr x (List.mem_cons_of_mem _ hx)) (by simp; omega) h1 S' fun b o M2 g1 g2 => h b o M2 (by rw [g1, begs]; simp) g2
theorem loop1 (n : Nat) (d : De) (f : PySem.Addr) (s0 s2 s4 s6 s7 s9 : Option D) (at_ after : Nat) (K : DEn) (N : Hm) : ∀ (rs : List Ro) (begin_ : Nat) (acc : List D) (o11 : Option D) (M : Hm), (∀ r ∈ rs, 2 * r.fl + 6 ≤ n) → acc.length + (rs.map Ro.sz).sum ≤ 4000 → M f = some (.lst acc) → SubB f N M →
    (∀ r ∈ rs, ∀ (a b : Nat) (M : Hm) (acc : List D) (Q : DK) (E : DX), M f = some (.lst acc) → acc.length + r.sz ≤ 4000 → (∀ M', M' f = some (.lst (acc ++ r.pl a b)) → SubB f M M' → Q .non M') → G (n + 1) 0 .placed [rowD r, .int a, .int b, .ref f] M Q E) →
    (∀ b o11 M', M' f = some (.lst (acc ++ pls d at_ after rs begin_)) → SubB f N M' → K.nx [s0, some (.int at_), s2, some (.ref f), s4, some d.enc, s6, s7, some (.int after), s9, some (.int b), o11] M') →
    wLoop (wName 11) (B_placed_1 (G (n + 1)) (n + 1)) K (fun _ => True) (rs.map rowD) [s0, some (.int at_), s2, some (.ref f), s4, some d.enc, s6, s7, some (.int after), s9, some (.int begin_), o11] M
  | [], b, acc, o11, M, hr, hb, hM, hS, hin, h => ⟨True.intro, h b o11 M (by simpa [pls] using hM) hS⟩
  | r :: rs, b, acc, o11, M, hr, hb, hM, hS, hin, h => by
    rw [List.map_cons, wLoop_c]
    refine ⟨True.intro, ?_⟩
    simp only [wName_s]
    simp only [List.map_cons, List.sum_cons] at hb
    refine pl1_turn n d r (hr r List.mem_cons_self) (by omega) f s0 s2 s4 s6 s7 s9 at_ after b _ M acc hM (by omega) (hin r List.mem_cons_self) fun M' h1 h2 => now ?_
    refine loop1 n d f s0 s2 s4 s6 s7 s9 at_ after K N rs (b + r.sz) _ _ M' (fun x hx => hr x (List.mem_cons_of_mem _ hx)) (by rw [List.length_append, Ro.pl_len]; omega) h1 (fun a m ne e => h2 a m ne (hS a m ne e)) (fun x hx => hin x (List.mem_cons_of_mem _ hx)) fun b o M2 g1 g2 => h b o M2 (by rw [g1, pls]; simp) g2
/-- the turn behind the choice of the point after -/
theorem placed_rest (n : Nat) (d : De) (hn : 2 * d.fl + 4 ≤ n) (hz : d.sz ≤ 4000) (f : PySem.Addr) (s0 s2 s4 o9 o10 o11 : Option D) (at_ far after : Nat) (K : DEn) (M : Hm) (acc : List D) (hM : M f = some (.lst acc)) (ha : acc.length + d.sz ≤ 4000)
    (hin : ∀ r ∈ d.rows, ∀ (a b : Nat) (M : Hm) (acc : List D) (Q : DK) (E : DX), M f = some (.lst acc) → acc.length + r.sz ≤ 4000 → (∀ M', M' f = some (.lst (acc ++ r.pl a b)) → SubB f M M' → Q .non M') → G (n + 1) 0 .placed [rowD r, .int a, .int b, .ref f] M Q E)
    (h : ∀ o6 o9 o10 o11 M', M' f = some (.lst (acc ++ d.pl at_ after)) → SubB f M M' → K.nx [s0, some (.int far), s2, some (.ref f), s4, some d.enc, o6, some (.int far), some (.int after), o9, o10, o11] M') :
    (wSeq (wAsg (wLst wNil) (wName 9)) (wSeq (wAsg (w2 pAdd (wVar 1) (wC (.int 1))) (wName 10)) (wSeq (wFor (wItV (wVar 6)) (wName 11) (B_placed_0 (G (n + 1)) (n + 1))) (wSeq (wAug 9 (wLst (wCons (wVar 8) (wCons (wVar 8) wNil))) pIAdd) (wSeq (wDrop (wMt "list" pAppend (wVar 3) (wCons (wTup (wCons (wVar 5) (wCons (wVar 8) (wCons (w2 pIdx (wVar 9) (wC (.int 0))) (wCons (w2 pIdx (wVar 9) (wC (.int 1))) wNil))))) wNil))) (wSeq (wAsg (w2 pAdd (wVar 1) (wC (.int 1))) (wName 10)) (wSeq (wFor (wItV (wVar 6)) (wName 11) (B_placed_1 (G (n + 1)) (n + 1))) (wSeq (wAsg (wVar 7) (wName 1)) wSkip)))))))) K
      [s0, some (.int at_), s2, some (.ref f), s4, some d.enc, some (.tup (d.rows.map rowD)), some (.int far), some (.int after), o9, o10, o11] M := by
  have eL : LL = 16777216 := rfl
  have hrl := rows_len d
  have hrz : ∀ r ∈ d.rows, 2 * r.fl + 6 ≤ n ∧ r.sz ≤ 4000 := fun r hr => by have := rows_fl d r hr; omega
  rw [wSeq_s]
  simp [-Bool.exists_bool]
  intro q hq
  have nfq : f ≠ q := ne_none hM hq
  rw [wSeq_s]
  simp [-Bool.exists_bool]
  rw [wSeq_s]
  simp [wFor_s, -Bool.exists_bool]
  have hS0 : DL.Sub M (mup M q (.lst [])) := sub_mup Sub.rfl' hq
  refine loop0 n d f q s0 s2 s4 (some (.tup (d.rows.map rowD))) (some (.int far)) at_ after _ M hq d.rows (at_ + 1) [] o11 _ hrz (by simp; omega) mup_same hS0 fun b o11 M1 h1 S1 => ?_
  have F1 : M1 f = some (.lst acc) := S1 _ _ hM
  obtain ⟨l, hb⟩ := begs_01 d at_ after
  dsimp only
  rw [wSeq_s]
  simp [-Bool.exists_bool]
  refine ⟨by decide, fun u hu => ?_⟩
  have nqu : q ≠ u := ne_none h1 hu
  have nfu : f ≠ u := ne_none F1 hu
  refine ⟨_, by rw [mup_ne nqu]; exact h1, by simp [begs_len]; omega, ?_⟩
  rw [List.nil_append, hb]
  rw [wSeq_s]
  have g0 : L2.atI (D.int (d.b0 at_ after) :: D.int (d.b1 at_ after) :: l) 0 = some (.int (d.b0 at_ after)) := by rw [show (0 : Int) = ((0 : Nat) : Int) from rfl, atI_nat (by simp)]; rfl
  have g1 : L2.atI (D.int (d.b0 at_ after) :: D.int (d.b1 at_ after) :: l) 1 = some (.int (d.b1 at_ after)) := by rw [show (1 : Int) = ((1 : Nat) : Int) from rfl, atI_nat (by simp)]; rfl
  have S2 : DL.Sub M (mup (mup M1 u (.lst [.int after, .int after])) q (.lst (D.int (d.b0 at_ after) :: D.int (d.b1 at_ after) :: l))) := sub_mup (sub_mup S1 (sub_none S1 hu)) hq
  have Q2 : mup (mup M1 u (.lst [.int after, .int after])) q (.lst (D.int (d.b0 at_ after) :: D.int (d.b1 at_ after) :: l)) q = some (.lst (D.int (d.b0 at_ after) :: D.int (d.b1 at_ after) :: l)) := mup_same
  generalize mup (mup M1 u (.lst [.int after, .int after])) q (.lst (D.int (d.b0 at_ after) :: D.int (d.b1 at_ after) :: l)) = M2 at S2 Q2
  have F2 : M2 f = some (.lst acc) := S2 _ _ hM
  simp [F2, Q2, g0, g1, -Bool.exists_bool]
  have hac : acc.length < LL := by omega
  refine ⟨⟨_, .inl F2⟩, by omega, hac, ?_⟩
  rw [wSeq_s]
  simp [-Bool.exists_bool]
  rw [wSeq_s]
  simp [wFor_s, -Bool.exists_bool]
  have hsum : (d.rows.map Ro.sz).sum + 1 = d.sz := by
    cases d with
    | told a t => simp [De.rows, De.sz]
    | look s a b => simp [De.rows, De.sz]
    | two s a b c => simp [De.rows, De.sz]
    | whl a r => simp [De.rows, De.sz]; omega
    | ife a r s => simp [De.rows, De.sz]; omega
  have S3 : SubB f M (mup M2 f (.lst (acc ++ [d.entry at_ after]))) := fun a m ne e => by rw [mup_ne ne]; exact S2 _ _ e
  have e0 : D.tup [d.enc, D.int after, D.int (d.b0 at_ after), D.int (d.b1 at_ after)] = d.entry at_ after := rfl
  rw [e0]
  refine loop1 n d f s0 s2 s4 (some (.tup (d.rows.map rowD))) (some (.int far)) (some (.ref q)) at_ after _ M d.rows (at_ + 1) (acc ++ [d.entry at_ after]) o11 _ (fun r hr => (hrz r hr).1) (by simp; omega) mup_same S3 hin fun b o11 M' h1 h2 => ?_
  simp [wSeq_s, -Bool.exists_bool]
  refine h _ _ _ _ M' ?_ h2
  rw [h1, pl_eq]
  simp
end K22
namespace K22
open DL
theorem placed_turn (n : Nat) (d : De) (hn : 2 * d.fl + 4 ≤ n) (hz : d.sz ≤ 4000) (xs : List D) (f : PySem.Addr) (at_ behind i : Nat) (o6 o7 o8 o9 o10 o11 : Option D) (K : DEn) (M : Hm) (acc : List D) (hM : M f = some (.lst acc)) (ha : acc.length + d.sz ≤ 4000)
    (hin : ∀ r ∈ d.rows, ∀ (a b : Nat) (M : Hm) (acc : List D) (Q : DK) (E : DX), M f = some (.lst acc) → acc.length + r.sz ≤ 4000 → (∀ M', M' f = some (.lst (acc ++ r.pl a b)) → SubB f M M' → Q .non M') → G (n + 1) 0 .placed [rowD r, .int a, .int b, .ref f] M Q E)
    (h : ∀ o6 o7 o8 o9 o10 o11 M', M' f = some (.lst (acc ++ d.pl at_ (if i + 1 < xs.length then at_ + d.sz else behind))) → SubB f M M' → K.nx [some (.tup xs), some (.int (at_ + d.sz : Nat)), some (.int behind), some (.ref f), some (.int i), some d.enc, o6, o7, o8, o9, o10, o11] M') :
    B_placed_2 (G (n + 1)) (n + 1) K [some (.tup xs), some (.int at_), some (.int behind), some (.ref f), some (.int i), some d.enc, o6, o7, o8, o9, o10, o11] M := by
  unfold B_placed_2
  have eL : LL = 16777216 := rfl
  rw [wSeq_s]
  simp [-Bool.exists_bool]
  refine rows_of_ok n d _ _ _ ?_
  rw [wSeq_s]
  simp [wComp_s, -Bool.exists_bool]
  intro p hp
  refine comp_mapG rowD (fun r : Ro => .int (r.sz : Nat)) hp (fun _ _ => True.intro) d.rows [] _ (fun r hr M Q' h' => ?_) (by have := rows_len d; simp; omega) mup_same (sub_mup Sub.rfl' hp) fun M1 h1 S1 => ?_
  · have hf := rows_fl d r hr
    simp [wipeD, -Bool.exists_bool]
    exact size_of_ok r.fl r (n + 1) (Nat.le_refl _) (by omega) (by omega) M _ _ h'
  · refine ⟨d.inn, .inl (by rw [h1]; simp [De.inn]), ?_⟩
    have es := inn_sum d
    have e : (at_ : Int) + 1 + d.inn.sum = ((at_ + d.sz : Nat) : Int) := by omega
    rw [e]
    have F1 : M1 f = some (.lst acc) := S1 _ _ hM
    have fin : ∀ after : Nat, after = (if i + 1 < xs.length then at_ + d.sz else behind) → ∀ o6 o9 o10 o11 M', M' f = some (.lst (acc ++ d.pl at_ after)) → SubB f M1 M' → K.nx [some (.tup xs), some (.int (at_ + d.sz : Nat)), some (.int behind), some (.ref f), some (.int i), some d.enc, o6, some (.int (at_ + d.sz : Nat)), some (.int after), o9, o10, o11] M' := by
      intro after he o6 o9 o10 o11 M' h1 h2
      exact h _ _ _ _ _ _ M' (by rw [← he]; exact h1) (fun a m ne e => h2 a m ne (S1 a m e))
    rw [wSeq_s]
    simp [-Bool.exists_bool]
    refine L2.ite2 (fun y => ?_) (fun y => ?_)
    · exact placed_rest n d hn hz f _ _ _ _ _ _ at_ (at_ + d.sz) (at_ + d.sz) K M1 acc F1 ha hin (fin (at_ + d.sz) (by rw [if_pos (by omega)]))
    · exact placed_rest n d hn hz f _ _ _ _ _ _ at_ (at_ + d.sz) behind K M1 acc F1 ha hin (fin behind (by rw [if_neg (by omega)]))
def numL : Nat → List D → List D
  | _, [] => []
  | i, x :: xs => .tup [.int i, x] :: numL (i + 1) xs
theorem numL_len : ∀ (i : Nat) (xs : List D), (numL i xs).length = xs.length
  | _, [] => rfl
  | i, x :: xs => by rw [numL, List.length_cons, numL_len (i + 1) xs, List.length_cons]
theorem numL_get : ∀ (i : Nat) (xs : List D) (j : Nat) (h : j < xs.length), (numL i xs)[j]? = some (.tup [.int (i + j : Nat), xs[j]])
  | i, x :: xs, 0, _ => by simp [numL]
  | i, x :: xs, j + 1, h => by
    have := numL_get (i + 1) xs j (by simpa using h)
    simp [numL, this]; omega
theorem numD_L (xs : List D) : numD xs = numL 0 xs := by
  apply List.ext_getElem?
  intro j
  by_cases h : j < xs.length
  · rw [numL_get 0 xs j h]
    unfold numD
    rw [List.getElem?_map, List.getElem?_eq_getElem (by simpa using h)]
    simp [h]
  · rw [List.getElem?_eq_none (by rw [numD_len]; omega), List.getElem?_eq_none (by rw [numL_len]; omega)]
theorem pl_cons (d : De) (r : Ro) (a b : Nat) : Ro.pl (.cons d r) a b = d.pl a (if 0 < r.len then a + d.sz else b) ++ r.pl (a + d.sz) b := by
  cases r with
  | nil => simp [Ro.pl, Ro.len]
  | cons e r => rw [Ro.pl]; simp [Ro.len]
theorem loop2 (n : Nat) (f : PySem.Addr) (xs : List D) (behind : Nat) (K : DEn) (N : Hm) : ∀ (r : Ro) (i at_ : Nat) (acc : List D) (o4 o5 o6 o7 o8 o9 o10 o11 : Option D) (M : Hm), (∀ d ∈ r.list, 2 * d.fl + 4 ≤ n ∧ d.sz ≤ 4000) → i + r.len = xs.length → acc.length + r.sz ≤ 4000 → M f = some (.lst acc) → SubB f N M →
    (∀ d ∈ r.list, ∀ s ∈ d.rows, ∀ (a b : Nat) (M : Hm) (acc : List D) (Q : DK) (E : DX), M f = some (.lst acc) → acc.length + s.sz ≤ 4000 → (∀ M', M' f = some (.lst (acc ++ s.pl a b)) → SubB f M M' → Q .non M') → G (n + 1) 0 .placed [rowD s, .int a, .int b, .ref f] M Q E) →
    (∀ o1 o4 o5 o6 o7 o8 o9 o10 o11 M', M' f = some (.lst (acc ++ r.pl at_ behind)) → SubB f N M' → K.nx [some (.tup xs), o1, some (.int behind), some (.ref f), o4, o5, o6, o7, o8, o9, o10, o11] M') →
    wLoop (wNames [4, 5]) (B_placed_2 (G (n + 1)) (n + 1)) K (fun _ => True) (numL i r.encs) [some (.tup xs), some (.int at_), some (.int behind), some (.ref f), o4, o5, o6, o7, o8, o9, o10, o11] M
  | .nil, i, at_, acc, o4, o5, o6, o7, o8, o9, o10, o11, M, hr, hi, ha, hM, hS, hin, h => by
    rw [Ro.encs, numL]
    exact ⟨True.intro, h _ _ _ _ _ _ _ _ _ M (by rw [hM, Ro.pl, List.append_nil]) hS⟩
  | .cons d r, i, at_, acc, o4, o5, o6, o7, o8, o9, o10, o11, M, hr, hi, ha, hM, hS, hin, h => by
    rw [Ro.encs, numL, wLoop_c]
    rw [Ro.sz] at ha
    rw [Ro.len] at hi
    have hd := hr d (by rw [Ro.list]; exact List.mem_cons_self)
    refine ⟨True.intro, _, rfl, rfl, ?_⟩
    refine placed_turn n d hd.1 hd.2 xs f at_ behind i o6 o7 o8 o9 o10 o11 _ M acc hM (by omega) (hin d (by rw [Ro.list]; exact List.mem_cons_self)) fun o6 o7 o8 o9 o10 o11 M' h1 h2 => now ?_
    refine loop2 n f xs behind K N r (i + 1) (at_ + d.sz) _ _ _ _ _ _ _ _ _ M' (fun e he => hr e (by rw [Ro.list]; exact List.mem_cons_of_mem _ he)) (by omega) (by rw [List.length_append, De.pl_len]; omega) h1 (fun a m ne e => h2 a m ne (hS a m ne e)) (fun e he => hin e (by rw [Ro.list]; exact List.mem_cons_of_mem _ he)) fun o1 o4 o5 o6 o7 o8 o9 o10 o11 M2 g1 g2 => h o1 o4 o5 o6 o7 o8 o9 o10 o11 M2 ?_ g2
    rw [g1, pl_cons]
    have e : (i + 1 < xs.length) = (0 < r.len) := by rw [← hi]; apply propext; omega
    simp only [e, List.append_assoc]
end K22
namespace K22
open DL
theorem placed_of (n : Nat) (r : Ro) (hr : ∀ d ∈ r.list, 2 * d.fl + 4 ≤ n ∧ d.sz ≤ 4000) (hin : ∀ d ∈ r.list, ∀ s ∈ d.rows, ∀ (f : PySem.Addr) (a b : Nat) (M : Hm) (acc : List D) (Q : DK) (E : DX), M f = some (.lst acc) → acc.length + s.sz ≤ 4000 → (∀ M', M' f = some (.lst (acc ++ s.pl a b)) → SubB f M M' → Q .non M') → G (n + 1) 0 .placed [rowD s, .int a, .int b, .ref f] M Q E)
    (f : PySem.Addr) (at_ behind : Nat) (M : Hm) (acc : List D) (Q : DK) (E : DX) (hM : M f = some (.lst acc)) (ha : acc.length + r.sz ≤ 4000) (h : ∀ M', M' f = some (.lst (acc ++ r.pl at_ behind)) → SubB f M M' → Q .non M') : G (n + 2) 0 .placed [rowD r, .int at_, .int behind, .ref f] M Q E := by
  rw [G_s, st_placed]
  unfold T_placed N_placed
  rw [wBody_s, wSeq_s]
  simp [wFor_s, rowD, numD_L, -Bool.exists_bool]
  refine loop2 n f r.encs behind _ M r 0 at_ acc _ _ _ _ _ _ _ _ M hr (by rw [encs_len]; omega) ha hM SubB.refl (fun d hd s hs a b M acc Q E => hin d hd s hs f a b M acc Q E) fun o1 o4 o5 o6 o7 o8 o9 o10 o11 M' h1 h2 => ?_
  exact now (h M' h1 h2)
theorem placed_ok (fl : Nat) : ∀ (r : Ro) (n : Nat), r.fl ≤ fl → 2 * fl + 6 ≤ n → r.sz ≤ 4000 → ∀ (f : PySem.Addr) (at_ behind : Nat) (M : Hm) (acc : List D) (Q : DK) (E : DX), M f = some (.lst acc) → acc.length + r.sz ≤ 4000 → (∀ M', M' f = some (.lst (acc ++ r.pl at_ behind)) → SubB f M M' → Q .non M') → G n 0 .placed [rowD r, .int at_, .int behind, .ref f] M Q E := by
  induction fl with
  | zero =>
    intro r n hf hn hz f a b M acc Q E hM ha h
    obtain ⟨n, rfl⟩ : ∃ k, n = k + 2 := ⟨n - 2, by omega⟩
    refine placed_of n r (fun d hd => by have := list_fl r d hd; omega) (fun d hd s hs => ?_) f a b M acc Q E hM ha h
    have h1 := list_fl r d hd
    have h2 := rows_fl d s hs
    omega
  | succ fl ih =>
    intro r n hf hn hz f a b M acc Q E hM ha h
    obtain ⟨n, rfl⟩ : ∃ k, n = k + 2 := ⟨n - 2, by omega⟩
    refine placed_of n r (fun d hd => by have := list_fl r d hd; omega) (fun d hd s hs f => ?_) f a b M acc Q E hM ha h
    have h1 := list_fl r d hd
    have h2 := rows_fl d s hs
    exact ih s (n + 1) (by omega) (by omega) (by omega) f
/-- a program's value -/
def Ro.prog (r : Ro) : D := .ins "Program" [("deeds", rowD r), ("order", .tup (r.pl 0 r.sz))]
theorem mk_prog (k : Nat) (r : Ro) (ho : r.ok) (hf : r.fl ≤ 8) (hk : 2 * r.fl + 6 ≤ k) (hz : r.sz ≤ 4000) (M : Hm) (Q : DK) (E : DX) (h : Q r.prog M) : G (k + 2) 0 .c_Program [rowD r] M Q E := by
  rw [G_s, st_c_Program]
  intro x hx
  rw [G_s, st_Program_dinit]
  unfold T_Program_dinit N_Program_dinit
  have eL : LL = 16777216 := rfl
  obtain ⟨k, rfl⟩ : ∃ j, k = j + 1 := ⟨k - 1, by omega⟩
  rw [wBody_s, wSeq_s]
  simp [rowD, tyD, -Bool.exists_bool, -Prod.exists]
  rw [wSeq_s]
  simp [-Bool.exists_bool]
  refine check_row_of k r 1 0 _ _ _ (fun K o row hk2 => check_loop r k 1 0 _ K o row (by omega) ho (by omega) (by omega) hk2) ?_
  rw [wSeq_s]
  simp [-Bool.exists_bool]
  intro f hfr
  obtain ⟨nfx, hf0⟩ := mup_none hfr
  rw [wSeq_s]
  simp [-Bool.exists_bool]
  refine placed_ok r.fl r (k + 1) (Nat.le_refl _) (by omega) hz f 0 r.sz _ [] _ _ mup_same (by simpa using hz) fun M' h1 h2 => ?_
  have X1 : M' x = some (.ins "Program" []) := h2 x _ nfx.symm (by rw [mup_ne nfx.symm, mup_same])
  have S1 : DL.Sub M (mdel M' x) := fun a m e => by
    have nax := ne_none e hx
    have naf := ne_none e hf0
    unfold mdel
    rw [if_neg nax]
    exact h2 a m naf (by rw [mup_ne naf, mup_ne nax]; exact e)
  rw [List.nil_append] at h1
  simp [wSeq_s, X1, h1, nfx, -Bool.exists_bool]
  refine ⟨_, _, ⟨rfl, rfl⟩, by decide, _, _, ⟨rfl, rfl⟩, by simp, _, Sub.rfl', _, mup_same, M, ?_, h⟩
  intro a m e
  have nax := ne_none e hx
  have q := S1 a m e
  unfold mdel at q ⊢
  rw [if_neg nax] at q ⊢
  rw [mup_ne nax]
  exact q
theorem plen_ok (k : Nat) (r : Ro) (M : Hm) (Q : DK) (E : DX) (h : Q (.int r.sz) M) : G (k + 1) 0 .Program_dlen [r.prog] M Q E := by
  rw [G_s, st_Program_dlen]
  unfold T_Program_dlen N_Program_dlen
  simp [wSeq_s, Ro.prog, Ro.pl_len, -Bool.exists_bool]
  exact now h
theorem prog_pure (r : Ro) : D.pure es0 (rowD r) = true := by simpa [rowD, D.pure] using Ro.pure r
theorem prog_dp (r : Ro) : (rowD r).dp ≤ 6 + 2 * r.fl := by
  have := Ro.dp_le r
  simp [rowD, D.dp]; omega
end K22
namespace K22
open DL
def SubC (p q : PySem.Addr) (M N : Hm) : Prop := ∀ a m, a ≠ p → a ≠ q → M a = some m → N a = some m
theorem SubC.refl {p q : PySem.Addr} {M : Hm} : SubC p q M M := fun _ _ _ _ h => h
theorem SubC.trans {p q : PySem.Addr} {A B C : Hm} (h : SubC p q A B) (g : SubC p q B C) : SubC p q A C := fun a m n1 n2 e => g a m n1 n2 (h a m n1 n2 e)
theorem SubB.toC {p q : PySem.Addr} {A B : Hm} (h : SubB p A B) : SubC p q A B := fun a m n1 _ e => h a m n1 e
theorem SubB.toC2 {p q : PySem.Addr} {A B : Hm} (h : SubB q A B) : SubC p q A B := fun a m _ n2 e => h a m n2 e
theorem Sub.toC {p q : PySem.Addr} {A B : Hm} (h : DL.Sub A B) : SubC p q A B := fun a m _ _ e => h a m e
theorem Sub.toB {p : PySem.Addr} {A B : Hm} (h : DL.Sub A B) : SubB p A B := fun a m _ e => h a m e
theorem SubB.trans' {p : PySem.Addr} {A B C : Hm} (h : SubB p A B) (g : SubB p B C) : SubB p A C := fun a m n e => g a m n (h a m n e)
theorem SubC.put1 {p q : PySem.Addr} {M N : Hm} {o : MO} (h : SubC p q M N) : SubC p q M (mup N p o) := fun a m n1 n2 e => by rw [mup_ne n1]; exact h a m n1 n2 e
theorem SubC.put2 {p q : PySem.Addr} {M N : Hm} {o : MO} (h : SubC p q M N) : SubC p q M (mup N q o) := fun a m n1 n2 e => by rw [mup_ne n2]; exact h a m n1 n2 e
theorem Bag.keepB {p q : PySem.Addr} {M N : Hm} {l : List D} (B : Bag M p l) (h : SubB q M N) (hn : p ≠ q) : Bag N p l := ⟨h p _ hn B.at_, B.ex⟩
theorem Bag.keep {p : PySem.Addr} {M N : Hm} {l : List D} (B : Bag M p l) (h : DL.Sub M N) : Bag N p l := ⟨h p _ B.at_, B.ex⟩
theorem bagNew {p r : PySem.Addr} {M : Hm} {l : List D} {o : MO} (B : Bag M p l) (hr : M r = none) : Bag (mup M r o) p l := B.keep (sub_mup Sub.rfl' hr)
theorem name_ok (k : Nat) (p : PySem.Addr) (l : List D) (M : Hm) (Q : DK) (E : DX) (B : Bag M p l)
    (h : ∀ (n : Nat) l', n < 10 → Bag (mup M p (.lst l')) p l' → Q (.int n) (mup M p (.lst l'))) : G (k + 2) 0 .law_name [.ref p] M Q E := by
  rw [G_s, st_law_name]
  unfold T_law_name N_law_name
  simp [wSeq_s, -Bool.exists_bool]
  refine take_ok k p l 12 (by decide) (by decide) _ _ _ B fun d l1 d0 d1 B1 => ?_
  simp [-Bool.exists_bool]
  refine L2.ite2 (fun z => ?_) (fun z => ?_)
  · refine take_ok k p l1 10 (by decide) (by decide) _ _ _ B1 fun e l2 e0 e1 B2 => ?_
    obtain ⟨n, rfl⟩ : ∃ n : Nat, e = n := ⟨e.toNat, by omega⟩
    rw [mup_mup] at B2 ⊢
    exact now (h n l2 (by omega) B2)
  · refine ⟨by decide, fun r hr => ?_⟩
    refine take_ok k p l1 8 (by decide) (by decide) _ _ _ (bagNew B1 hr) fun e l2 e0 e1 B2 => ?_
    obtain ⟨nrp, hr0⟩ := mup_none hr
    have S : DL.Sub (mup M p (.lst l2)) (mup (mup (mup M p (.lst l1)) r (.lst [.int 0, .int 0, .int 0, .int 1, .int 1, .int 2, .int 2, .int 3])) p (.lst l2)) := fun a m z => by
      by_cases q : a = p
      · subst q; rw [mup_same] at z ⊢; exact z
      · have q2 : a ≠ r := fun w => by subst w; rw [mup_ne q, hr0] at z; cases z
        rw [mup_ne q] at z ⊢
        rw [mup_ne q2, mup_ne q]
        exact z
    have key : ∀ n : Nat, n < 10 → ∃ M'', DL.Sub M'' (mup (mup (mup M p (.lst l1)) r (.lst [.int 0, .int 0, .int 0, .int 1, .int 1, .int 2, .int 2, .int 3])) p (.lst l2)) ∧ Q (.int n) M'' := fun n hn => ⟨_, S, h n l2 hn ⟨mup_same, B2.ex⟩⟩
    have he : e = 0 ∨ e = 1 ∨ e = 2 ∨ e = 3 ∨ e = 4 ∨ e = 5 ∨ e = 6 ∨ e = 7 := by omega
    rcases he with rfl | rfl | rfl | rfl | rfl | rfl | rfl | rfl <;> simp [nrp, L2.atI, L2.ixN, -Bool.exists_bool]
    · exact key 0 (by decide)
    · exact key 0 (by decide)
    · exact key 0 (by decide)
    · exact key 1 (by decide)
    · exact key 1 (by decide)
    · exact key 2 (by decide)
    · exact key 2 (by decide)
    · exact key 3 (by decide)
def Ro.of : List De → Ro
  | [] => .nil
  | d :: ds => .cons d (Ro.of ds)
theorem of_list : ∀ r : Ro, Ro.of r.list = r
  | .nil => rfl
  | .cons d r => by rw [Ro.list, Ro.of, of_list r]
theorem list_of : ∀ ds : List De, (Ro.of ds).list = ds
  | [] => rfl
  | d :: ds => by rw [Ro.of, Ro.list, list_of ds]
theorem of_encs : ∀ ds : List De, (Ro.of ds).encs = ds.map De.enc
  | [] => rfl
  | d :: ds => by rw [Ro.of, Ro.encs, of_encs ds, List.map_cons]
theorem of_sz : ∀ ds es : List De, (Ro.of (ds ++ es)).sz = (Ro.of ds).sz + (Ro.of es).sz
  | [], es => by simp [Ro.of, Ro.sz]
  | d :: ds, es => by rw [List.cons_append, Ro.of, Ro.sz, of_sz ds es, Ro.of, Ro.sz]; omega
theorem of_fl : ∀ ds es : List De, (Ro.of (ds ++ es)).fl = max (Ro.of ds).fl (Ro.of es).fl
  | [], es => by simp [Ro.of, Ro.fl]
  | d :: ds, es => by rw [List.cons_append, Ro.of, Ro.fl, of_fl ds es, Ro.of, Ro.fl]; omega
theorem of_ok : ∀ ds es : List De, (Ro.of ds).ok → (Ro.of es).ok → (Ro.of (ds ++ es)).ok
  | [], es, _, h => h
  | d :: ds, es, h, g => by
    rw [Ro.of, Ro.ok] at h
    rw [List.cons_append, Ro.of, Ro.ok]
    exact ⟨h.1, of_ok ds es h.2 g⟩
/-- a row behind a row -/
def Ro.app (r s : Ro) : Ro := Ro.of (r.list ++ s.list)
theorem app_encs (r s : Ro) : (r.app s).encs = r.encs ++ s.encs := by rw [Ro.app, of_encs, List.map_append, ← list_encs, ← list_encs]
theorem app_sz (r s : Ro) : (r.app s).sz = r.sz + s.sz := by rw [Ro.app, of_sz, of_list, of_list]
theorem app_fl (r s : Ro) : (r.app s).fl = max r.fl s.fl := by rw [Ro.app, of_fl, of_list, of_list]
theorem app_ok (r s : Ro) (h : r.ok) (g : s.ok) : (r.app s).ok := of_ok _ _ (by rwa [of_list]) (by rwa [of_list])
theorem app_len (r s : Ro) : (r.app s).len = r.len + s.len := by rw [← list_len, Ro.app, list_of, List.length_append, list_len, list_len]
/-- one deed -/
def Ro.one (d : De) : Ro := .cons d .nil
mutual
def De.okl : De → Prop
  | .told a t => a < 10 ∧ t.plain = true ∧ t.size ≤ 3
  | .look _ a b => a < 10 ∧ b < 10
  | .two _ a b c => a < 10 ∧ b < 10 ∧ c < 10
  | .whl a r => a < 10 ∧ r.okl
  | .ife a r s => a < 10 ∧ r.okl ∧ s.okl
def Ro.okl : Ro → Prop
  | .nil => True
  | .cons d r => d.okl ∧ r.okl
end
mutual
theorem De.okl_ok : ∀ d : De, d.okl → d.ok
  | .told a t, h => by
    rw [De.okl] at h
    rw [De.ok]
    exact ⟨h.1, h.2.1, by omega⟩
  | .look _ a b, h => by rw [De.okl] at h; rw [De.ok]; exact h
  | .two _ a b c, h => by rw [De.okl] at h; rw [De.ok]; exact h
  | .whl a r, h => by rw [De.okl] at h; rw [De.ok]; exact ⟨h.1, Ro.okl_ok r h.2⟩
  | .ife a r s, h => by rw [De.okl] at h; rw [De.ok]; exact ⟨h.1, Ro.okl_ok r h.2.1, Ro.okl_ok s h.2.2⟩
theorem Ro.okl_ok : ∀ r : Ro, r.okl → r.ok
  | .nil, _ => by rw [Ro.ok]; exact True.intro
  | .cons d r, h => by rw [Ro.okl] at h; rw [Ro.ok]; exact ⟨De.okl_ok d h.1, Ro.okl_ok r h.2⟩
end
theorem of_okl : ∀ ds es : List De, (Ro.of ds).okl → (Ro.of es).okl → (Ro.of (ds ++ es)).okl
  | [], es, _, h => h
  | d :: ds, es, h, g => by
    rw [Ro.of, Ro.okl] at h
    rw [List.cons_append, Ro.of, Ro.okl]
    exact ⟨h.1, of_okl ds es h.2 g⟩
theorem app_okl (r s : Ro) (h : r.okl) (g : s.okl) : (r.app s).okl := of_okl _ _ (by rwa [of_list]) (by rwa [of_list])
end K22
namespace K22
open DL
theorem enc_eq (t u : Th) : D.eq (enc t) (enc u) = (t.txt == u.txt) := by cases t <;> cases u <;> simp [Th.enc, D.eq, D.eqf, selF, Th.txt]
theorem enc_ins (t : Th) : (enc t).isIns = true := by cases t <;> rfl
theorem eqT (k : Nat) (t u : Th) (M : Hm) (Q : DK) (hk : 4 ≤ k) (h : Q (.bl (t.txt == u.txt)) M) : pEq es0 k false (enc t) (enc u) M Q :=
  .inl ⟨encT_pure t, encT_pure u, by rw [encT_dp]; exact hk, by rw [encT_dp]; exact hk, by rw [enc_eq]; simpa using h⟩
theorem neT (k : Nat) (t u : Th) (M : Hm) (Q : DK) (hk : 4 ≤ k) (h : Q (.bl (!(t.txt == u.txt))) M) : pNe es0 k (enc t) (enc u) M Q :=
  .inl ⟨encT_pure t, encT_pure u, by rw [encT_dp]; exact hk, by rw [encT_dp]; exact hk, fun _ => enc_ins t, by rw [enc_eq]; exact h⟩
theorem len_ok (k : Nat) (t : Th) (hs : t.size ≤ 4000) (M : Hm) (Q : DK) (E : DX) (h : Q (.int t.size) M) : G (k + 1) 0 .Thing_dlen [enc t] M Q E := by
  rw [G_s, st_Thing_dlen]
  unfold T_Thing_dlen N_Thing_dlen
  have eR : R62 = 4611686018427387904 := rfl
  simp [wSeq_s]
  exact ⟨by omega, now h⟩
theorem keyF {c : String} {gs : List (String × D)} (hp : D.pure es0 (.ins c gs) = true) : gs.map (·.1) = fieldsOf c ∧ D.puref es0 gs = true := by
  simp only [D.pure, Bool.and_eq_true, decide_eq_true_eq] at hp
  exact hp.2
theorem keyThing {gs : List (String × D)} (hp : D.pure es0 (.ins "Thing" gs) = true) : ∃ a b c d e, gs = [("left", a), ("right", b), ("many", c), ("text", d), ("marked", e)] ∧ D.pure es0 d = true := by
  obtain ⟨hm, hp⟩ := keyF hp
  match gs, hm, hp with
  | [(f1, a), (f2, b), (f3, c), (f4, d), (f5, e)], hm, hp =>
    simp [fieldsOf] at hm
    obtain ⟨rfl, rfl, rfl, rfl, rfl⟩ := hm
    simp only [D.puref, Bool.and_eq_true] at hp
    exact ⟨a, b, c, d, e, rfl, hp.2.2.2.1⟩
  | [], hm, _ => simp [fieldsOf] at hm
  | [_], hm, _ => simp [fieldsOf] at hm
  | [_, _], hm, _ => simp [fieldsOf] at hm
  | [_, _, _], hm, _ => simp [fieldsOf] at hm
  | [_, _, _, _], hm, _ => simp [fieldsOf] at hm
  | _ :: _ :: _ :: _ :: _ :: _ :: _, hm, _ => simp [fieldsOf] at hm
theorem eqlaw_Thing : ∀ (j : Nat) (ds : List D) (M : Hm) (Q : DK) (E : DX), spEq es0 "Thing" (j + 3) ds M Q E → G j 0 .Thing_deq ds M Q E := by
  rintro j ds M Q E ⟨fs, e, rfl, p1, p2, d1, d2, h⟩
  rw [dp_ins] at d1
  obtain ⟨j, rfl⟩ : ∃ i, j = i + 1 := ⟨j - 1, by omega⟩
  rw [G_s, st_Thing_deq]
  unfold T_Thing_deq N_Thing_deq
  obtain ⟨a1, a2, a3, a4, a5, rfl, pa⟩ := keyThing p1
  simp [D.dpf, selF] at d1
  cases e with
  | ins c gs =>
    by_cases hc : c = "Thing"
    · subst hc
      obtain ⟨b1, b2, b3, b4, b5, rfl, pb⟩ := keyThing p2
      simp [D.dp, D.dpf, selF] at d2
      simp [D.eq, D.eqf, selF] at h
      simp [wSeq_s, tyD, -Bool.exists_bool, -Prod.exists]
      exact .inl ⟨pa, pb, by omega, by omega, by simpa using now h⟩
    · have e0 : ("Thing" == c) = false := beq_eq_false_iff_ne.mpr (Ne.symm hc)
      simp [D.eq, e0] at h
      simp [wSeq_s, tyD, hc, -Bool.exists_bool, -Prod.exists]
      exact now h
  | ref b => simp [D.pure] at p2
  | ty n => simp [D.pure] at p2
  | non => simp [wSeq_s, tyD, -Bool.exists_bool, -Prod.exists, D.eq] at h ⊢; exact now h
  | bl b => simp [wSeq_s, tyD, -Bool.exists_bool, -Prod.exists, D.eq] at h ⊢; exact now h
  | int b => simp [wSeq_s, tyD, -Bool.exists_bool, -Prod.exists, D.eq] at h ⊢; exact now h
  | str b => simp [wSeq_s, tyD, -Bool.exists_bool, -Prod.exists, D.eq] at h ⊢; exact now h
  | tup b => simp [wSeq_s, tyD, -Bool.exists_bool, -Prod.exists, D.eq] at h ⊢; exact now h
end K22
namespace K22
open DL
def DeedOk (n deep : Nat) : Prop := ∀ (p q : PySem.Addr) (l : List D) (m : Nat) (M : Hm) (Q : DK) (E : DX), p ≠ q → Bag M p l → M q = some (.lst [.int m]) →
  (∀ (d : De) (l' : List D) (m' : Nat) (M' : Hm), d.okl → d.fl + deep ≤ 5 → d.sz + 2 * m' ≤ 2 * m + 2 → Bag M' p l' → M' q = some (.lst [.int m']) → SubC p q M M' → Q d.enc M') → G n 0 .law_deed [.ref p, .ref q, .int deep] M Q E
def DeedsOk (n deep : Nat) : Prop := ∀ (p q : PySem.Addr) (l : List D) (m : Nat) (M : Hm) (Q : DK) (E : DX), p ≠ q → Bag M p l → M q = some (.lst [.int m]) →
  (∀ (r : Ro) (l' : List D) (m' : Nat) (M' : Hm), r.okl → r.fl + deep ≤ 5 → r.sz + 2 * m' ≤ 2 * m → r.len ≤ 5 → Bag M' p l' → M' q = some (.lst [.int m']) → SubC p q M M' → Q (rowD r) M') → G n 0 .law_deeds [.ref p, .ref q, .int deep] M Q E
theorem deeds_turn (n deep : Nat) (ih : DeedOk n deep) (p q f : PySem.Addr) (hpq : p ≠ q) (hf : f ≠ p) (hg : f ≠ q) (K : DEn) (ds : List De) (l : List D) (m : Nat) (M : Hm) (o : Option D) (hl : ds.length ≤ 5) (B : Bag M p l) (hq : M q = some (.lst [.int m])) (hF : M f = some (.lst (ds.map De.enc)))
    (h0 : K.nx [some (.ref p), some (.ref q), some (.int deep), some (.ref f), o] M)
    (h1 : ∀ (d : De) (l' : List D) (m' : Nat) (M' : Hm), d.okl → d.fl + deep ≤ 5 → d.sz + 2 * m' ≤ 2 * m → Bag M' p l' → M' q = some (.lst [.int m']) → M' f = some (.lst ((ds ++ [d]).map De.enc)) → (∀ a o, a ≠ p → a ≠ q → a ≠ f → M a = some o → M' a = some o) → K.nx [some (.ref p), some (.ref q), some (.int deep), some (.ref f), o] M') :
    B_law_deeds_0 (G n) n K [some (.ref p), some (.ref q), some (.int deep), some (.ref f), o] M := by
  have eL : LL = 16777216 := rfl
  rw [B_law_deeds_0]
  simp [wSeq_s, hq, L2.atI, L2.ixN, -Bool.exists_bool]
  refine L2.ite2 (fun z => ?_) (fun z => h0)
  have hF2 : mup M q (.lst [.int ((m : Int) - 1)]) f = some (.lst (ds.map De.enc)) := by rw [mup_ne hg]; exact hF
  refine ⟨⟨_, .inl hF2⟩, ?_⟩
  obtain ⟨m, rfl⟩ : ∃ j, m = j + 1 := ⟨m - 1, by omega⟩
  have em : ((m + 1 : Nat) : Int) - 1 = (m : Int) := by omega
  rw [em] at hF2 ⊢
  refine ih p q l m _ _ _ hpq ⟨by rw [mup_ne hpq]; exact B.at_, B.ex⟩ mup_same fun d l' m' M' d1 d2 d3 B' hq' hS' => ?_
  have hF3 : M' f = some (.lst (ds.map De.enc)) := hS' f _ hf hg hF2
  refine ⟨_, hF3, by simp; omega, ?_⟩
  have := h1 d l' m' (mup M' f (.lst ((ds ++ [d]).map De.enc))) d1 d2 (by omega) ⟨by rw [mup_ne hf.symm]; exact B'.at_, B'.ex⟩ (by rw [mup_ne hg.symm]; exact hq') mup_same (fun a o n1 n2 n3 e => by rw [mup_ne n3]; exact hS' a o n1 n2 (by rw [mup_ne n2]; exact e))
  rw [List.map_append] at this
  exact this
theorem deeds_loop (n deep : Nat) (ih : DeedOk n deep) (p q f : PySem.Addr) (hpq : p ≠ q) (hf : f ≠ p) (hg : f ≠ q) (K : DEn) (m0 : Nat) (M0 : Hm)
    (hK : ∀ (ds : List De) (l' : List D) (m' : Nat) (M' : Hm) o, (Ro.of ds).okl → (Ro.of ds).fl + deep ≤ 5 → (Ro.of ds).sz + 2 * m' ≤ 2 * m0 → ds.length ≤ 5 → Bag M' p l' → M' q = some (.lst [.int m']) → M' f = some (.lst (ds.map De.enc)) → SubC p q M0 M' → K.nx [some (.ref p), some (.ref q), some (.int deep), some (.ref f), o] M') (hM0 : M0 f = none) :
    ∀ (xs : List D) (ds : List De) (l : List D) (m : Nat) (M : Hm) o, (Ro.of ds).okl → (Ro.of ds).fl + deep ≤ 5 → (Ro.of ds).sz + 2 * m ≤ 2 * m0 → ds.length + xs.length ≤ 5 → Bag M p l → M q = some (.lst [.int m]) → M f = some (.lst (ds.map De.enc)) → SubC p q M0 M →
      wLoop (wName 4) (B_law_deeds_0 (G n) n) K (fun _ => True) xs [some (.ref p), some (.ref q), some (.int deep), some (.ref f), o] M
  | [], ds, l, m, M, o, h1, h2, h3, h4, B, hq, hF, hS => ⟨True.intro, hK ds l m M o h1 h2 h3 (by simpa using h4) B hq hF hS⟩
  | x :: xs, ds, l, m, M, o, h1, h2, h3, h4, B, hq, hF, hS => by
    have ih2 := deeds_loop n deep ih p q f hpq hf hg K m0 M0 hK hM0 xs
    simp only [List.length_cons] at h4
    rw [wLoop_c]
    refine ⟨True.intro, ?_⟩
    show B_law_deeds_0 (G n) n _ [some (.ref p), some (.ref q), some (.int deep), some (.ref f), some x] M
    refine deeds_turn n deep ih p q f hpq hf hg _ ds l m M (some x) (by omega) B hq hF ?_ fun d l' m' M' d1 d2 d3 B' hq' hF' hS' => ?_
    · exact now (ih2 ds l m M (some x) h1 h2 h3 (by omega) B hq hF hS)
    · exact now (ih2 (ds ++ [d]) l' m' M' (some x) (of_okl _ _ h1 (by rw [Ro.of, Ro.of, Ro.okl]; exact ⟨d1, by rw [Ro.okl]; exact True.intro⟩)) (by rw [of_fl, Ro.of, Ro.of, Ro.fl, Ro.fl]; omega) (by rw [of_sz, Ro.of, Ro.of, Ro.sz, Ro.sz]; omega) (by simp; omega) B' hq' hF' fun a o n1 n2 e => hS' a o n1 n2 (ne_none e hM0) (hS a o n1 n2 e))
theorem deeds_of (n deep : Nat) (h5 : deep ≤ 5) (ih : DeedOk (n + 1) deep) : DeedsOk (n + 2) deep := by
  intro p q l m M Q E hpq B hq h
  rw [G_s, st_law_deeds]
  unfold T_law_deeds N_law_deeds
  have eR : R62 = 4611686018427387904 := rfl
  simp [wSeq_s, wFor_s, -Bool.exists_bool]
  intro f hf
  have nfp : f ≠ p := fun e => by subst e; rw [B.at_] at hf; cases hf
  have nfq : f ≠ q := fun e => by subst e; rw [hq] at hf; cases hf
  refine take_ok n p l 6 (by decide) (by decide) _ _ _ (bagNew B hf) fun d l1 d0 d1 B1 => ?_
  simp [-Bool.exists_bool]
  refine ⟨by omega, by omega, ?_⟩
  obtain ⟨c, rfl⟩ : ∃ c : Nat, d = c := ⟨d.toNat, by omega⟩
  refine deeds_loop (n + 1) deep ih p q f hpq nfp nfq _ m M (fun ds l' m' M' o c1 c2 c3 c4 B' hq' hF hS => ?_) hf _ [] l1 m _ none (by rw [Ro.of, Ro.okl]; exact True.intro) (by rw [Ro.of, Ro.fl]; omega) (by rw [Ro.of, Ro.sz]; omega) (by simp [intsFrom]; omega) B1 (by rw [mup_ne hpq.symm, mup_ne nfq.symm]; exact hq) (by rw [mup_ne nfp, mup_same]; rfl) (fun a o n1 n2 e => by rw [mup_ne n1, mup_ne (ne_none e hf)]; exact e)
  simp [hF, -Bool.exists_bool]
  have := h (Ro.of ds) l' m' M' c1 c2 c3 (by rw [← list_len, list_of]; exact c4) B' hq' hS
  rw [rowD, of_encs] at this
  exact now this
end K22
namespace K22
open DL
abbrev kinds6 : List D := [D.str (tx "first"), D.str (tx "second"), D.str (tx "second"), D.str (tx "pair"), D.str (tx "pair"), D.str (tx "same")]
theorem in_two (k : Nat) (x : Tx) (M : Hm) (Q : DK) (h : Q (.bl (x == tx "pair" || x == tx "same")) M) : pIn es0 k false (.str x) (.tup [.str (tx "pair"), .str (tx "same")]) M Q := by
  refine .inl ⟨by simp [D.pure], by simp [D.dp], .inl ⟨_, rfl, by simp [D.pures, D.pure], by simp [D.dps, D.dp], ?_⟩⟩
  have e : (false ^^ [D.str (tx "pair"), D.str (tx "same")].any fun z => D.eq z (.str x)) = (x == tx "pair" || x == tx "same") := by
    simp [D.eq, Bool.beq_comm (a := x)]
  rw [e]; exact h
theorem flat_ok (k : Nat) (w : Int) (a b c : Nat) (ha : a < 10) (hb : b < 10) (hc : c < 10) (M : Hm) (Q : DK) (h : ∀ d : De, d.okl → d.fl = 0 → d.sz = 1 → Q d.enc M) :
    6 ≤ LL ∧ ∀ (p : PySem.Addr), M p = none → ∃ x, L2.atI [D.str (tx "first"), D.str (tx "second"), D.str (tx "second"), D.str (tx "pair"), D.str (tx "pair"), D.str (tx "same")] (w % 6) = some x ∧ 4 ≤ LL ∧ 2 ≤ LL ∧
      pIn es0 k false x (D.tup [D.str (tx "pair"), D.str (tx "same")]) (mup M p (MO.lst [D.str (tx "first"), D.str (tx "second"), D.str (tx "second"), D.str (tx "pair"), D.str (tx "pair"), D.str (tx "same")]))
        fun d M1 => pInt [d] M1 fun y M2 => pAdd (D.int 3) y M2 fun d M1 => ∃ i, d = D.int i ∧ ∃ M'', DL.Sub M'' M1 ∧ Q (D.tup (cutG [x, .int a, .int b, .int c] none (some i))) M'' := by
  refine ⟨by decide, fun r hr => ?_⟩
  have S := sub_mup (M := M) (N := M) (o := MO.lst kinds6) Sub.rfl' hr
  have hw : w % 6 = 0 ∨ w % 6 = 1 ∨ w % 6 = 2 ∨ w % 6 = 3 ∨ w % 6 = 4 ∨ w % 6 = 5 := by omega
  have l (s : Bool) : ∃ M'', DL.Sub M'' (mup M r (MO.lst kinds6)) ∧ Q (D.tup [.str (tx (if s then "second" else "first")), .int a, .int b]) M'' := by
    have := h (.look s a b) (by rw [De.okl]; exact ⟨ha, hb⟩) (by simp [De.fl]) (by simp [De.sz])
    rw [De.enc] at this
    exact ⟨M, S, this⟩
  have t (s : Bool) : ∃ M'', DL.Sub M'' (mup M r (MO.lst kinds6)) ∧ Q (D.tup [.str (tx (if s then "same" else "pair")), .int a, .int b, .int c]) M'' := by
    have := h (.two s a b c) (by rw [De.okl]; exact ⟨ha, hb, hc⟩) (by simp [De.fl]) (by simp [De.sz])
    rw [De.enc] at this
    exact ⟨M, S, this⟩
  rcases hw with z | z | z | z | z | z <;> rw [z] <;> refine ⟨_, rfl, by decide, by decide, in_two _ _ _ _ ?_⟩ <;> refine ⟨_, rfl, ?_⟩
  · exact l false
  · exact l true
  · exact l true
  · exact t false
  · exact t false
  · exact t true
theorem deed_of (n deep : Nat) (ih : deep ≤ 4 → DeedsOk (n + 3) (deep + 1)) (h5 : deep ≤ 5) : DeedOk (n + 4) deep := by
  intro p q l m M Q E hpq B hq h
  rw [G_s, st_law_deed]
  unfold T_law_deed N_law_deed
  have eL : LL = 16777216 := rfl
  simp [wSeq_s, -Bool.exists_bool]
  refine take_ok (n + 2) p l 12 (by decide) (by decide) _ _ _ B fun w l1 w0 w1 B1 => ?_
  simp [-Bool.exists_bool]
  refine name_ok (n + 1) p l1 _ _ _ B1 fun a l2 ha B2 => ?_
  simp [-Bool.exists_bool]
  refine name_ok (n + 1) p l2 _ _ _ (by simpa using B2) fun b l3 hb B3 => ?_
  simp [-Bool.exists_bool]
  refine name_ok (n + 1) p l3 _ _ _ (by simpa using B3) fun c l4 hc B4 => ?_
  simp [-Bool.exists_bool]
  simp at B4
  have hq4 : mup M p (.lst l4) q = some (.lst [.int m]) := by rw [mup_ne hpq.symm]; exact hq
  have S4 : SubC p q M (mup M p (.lst l4)) := SubC.refl.put1
  generalize mup M p (.lst l4) = M4 at B4 hq4 S4
  clear B1 B2 B3 B
  refine ⟨_, _, _, ⟨rfl, rfl, rfl⟩, ?_⟩
  have flat := flat_ok (n + 3 + 2) w a b c ha hb hc M4 Q fun d d1 d2 d3 => h d l4 m M4 d1 (by omega) (by omega) B4 hq4 S4
  refine L2.ite2 (fun z => ?_) (fun z => ?_)
  · refine take_ok (n + 2) p l4 4 (by decide) (by decide) _ _ _ B4 fun x l5 x0 x1 B5 => ?_
    obtain ⟨x, rfl⟩ : ∃ j : Nat, x = j := ⟨x.toNat, by omega⟩
    refine thing_ok n p l5 x (by omega) _ _ _ B5 fun t l6 ht pt B6 => ?_
    rw [mup_mup] at B6 ⊢
    have := h (.told a t) l6 m _ (by rw [De.okl]; exact ⟨ha, pt, by omega⟩) (by simp [De.fl]; omega) (by simp [De.sz]; omega) B6 (by rw [mup_ne hpq.symm]; exact hq4) S4.put1
    rw [De.enc] at this
    exact ⟨by decide, now this⟩
  refine L2.ite2 (fun _ => flat) (fun z8 => L2.ite2 (fun _ => flat) (fun z4 => ?_))
  have h4 : deep ≤ 4 := by omega
  have ec : ((deep : Int) + 1) = ((deep + 1 : Nat) : Int) := by omega
  rw [ec]
  refine ih h4 p q l4 m _ _ _ hpq B4 hq4 fun r l5 m5 M5 r1 r2 r3 _ B5 hq5 S5 => ?_
  refine L2.ite2 (fun z10 => ?_) (fun z10 => ?_)
  · refine take_ok (n + 2) p l5 5 (by decide) (by decide) _ _ _ B5 fun x l6 x0 x1 B6 => ?_
    have hq6 : mup M5 p (.lst l6) q = some (.lst [.int m5]) := by rw [mup_ne hpq.symm]; exact hq5
    have S6 : SubC p q M (mup M5 p (.lst l6)) := (S4.trans S5).put1
    have fin : ∀ s : Ro, s.okl → s.fl = r.fl → s.sz ≤ r.sz + 1 → ∃ M'', DL.Sub M'' (mup M5 p (.lst l6)) ∧ Q (.tup [.str (tx "while"), .int a, rowD s]) M'' := fun s s1 s2 s3 => by
      have := h (.whl a s) l6 m5 _ (by rw [De.okl]; exact ⟨ha, s1⟩) (by rw [De.fl]; omega) (by rw [De.sz]; omega) B6 hq6 S6
      rw [De.enc] at this
      exact now this
    simp [-Bool.exists_bool]
    refine L2.ite2 (fun zx => ?_) (fun zx => ⟨by decide, fin r r1 rfl (by omega)⟩)
    have hln : r.encs.length = r.len := encs_len r
    have h5' : r.len ≤ 5 := by assumption
    have := fin (r.app (.one (.look true a a))) (app_okl _ _ r1 (by rw [Ro.one, Ro.okl, De.okl, Ro.okl]; exact ⟨⟨ha, ha⟩, True.intro⟩)) (by simp [app_fl, Ro.one, Ro.fl, De.fl]) (by simp [app_sz, Ro.one, Ro.sz, De.sz])
    rw [rowD, app_encs, Ro.one, Ro.encs, De.enc, Ro.encs] at this
    simp [rowD, hln, -Bool.exists_bool]
    exact ⟨by decide, by decide, by omega, by decide, this⟩
  · refine ih h4 p q l5 m5 _ _ _ hpq B5 hq5 fun s l6 m6 M6 s1 s2 s3 _ B6 hq6 S6 => ?_
    have := h (.ife a r s) l6 m6 _ (by rw [De.okl]; exact ⟨ha, r1, s1⟩) (by rw [De.fl]; omega) (by rw [De.sz]; omega) B6 hq6 ((S4.trans S5).trans S6)
    rw [De.enc] at this
    exact ⟨by decide, now this⟩
end K22
namespace K22
open DL
theorem drawn_all (n : Nat) : ∀ j deep : Nat, deep + j = 5 → DeedOk (n + 2 * j + 4) deep ∧ DeedsOk (n + 2 * j + 5) deep
  | 0, deep, h => by
    have h1 : DeedOk (n + 4) deep := deed_of n deep (fun z => by omega) (by omega)
    exact ⟨h1, deeds_of (n + 3) deep (by omega) h1⟩
  | j + 1, deep, h => by
    have ih := (drawn_all n j (deep + 1) (by omega)).2
    have h1 : DeedOk (n + 2 * j + 2 + 4) deep := deed_of (n + 2 * j + 2) deep (fun _ => ih) (by omega)
    exact ⟨h1, deeds_of (n + 2 * j + 5) deep (by omega) h1⟩
theorem top_ok (n : Nat) (p : PySem.Addr) (l : List D) (m : Nat) (M : Hm) (Q : DK) (E : DX) (B : Bag M p l)
    (h : ∀ (r : Ro) (l' : List D) (M' : Hm), r.okl → r.fl ≤ 4 → r.sz ≤ 2 * m → r.len ≤ 10 → Bag M' p l' → SubB p M M' → Q (rowD r) M') : G (n + 14) 0 .law_top [.ref p, .int m] M Q E := by
  rw [G_s, st_law_top]
  unfold T_law_top N_law_top
  have D1 : DeedsOk (n + 13) 1 := (drawn_all n 4 1 rfl).2
  have eL : LL = 16777216 := rfl
  simp [wSeq_s, -Bool.exists_bool]
  refine ⟨by decide, fun q hq => ?_⟩
  have npq : p ≠ q := ne_none B.at_ hq
  refine D1 p q l m _ _ _ npq (bagNew B hq) mup_same fun r l1 m1 M1 r1 r2 r3 r4 B1 hq1 S1 => ?_
  refine D1 p q l1 m1 _ _ _ npq B1 hq1 fun s l2 m2 M2 s1 s2 s3 s4 B2 hq2 S2 => ?_
  have hr : r.encs.length = r.len := encs_len r
  have hs : s.encs.length = s.len := encs_len s
  have := h (r.app s) l2 M2 (app_okl _ _ r1 s1) (by rw [app_fl]; omega) (by rw [app_sz]; omega) (by rw [app_len]; omega) B2 (fun a o n1 e => (S1.trans S2) a o n1 (ne_none e hq) (by rw [mup_ne (ne_none e hq)]; exact e))
  rw [rowD, app_encs] at this
  simp [rowD, hr, hs]
  exact ⟨by omega, now this⟩
end K22
namespace K22
open DL
mutual
def De.pq : De → Nat → Nat → List (De × Nat × Nat)
  | .whl a r, at_, after => (.whl a r, at_, after) :: r.pq (at_ + 1) at_
  | .ife a r s, at_, after => (.ife a r s, at_, after) :: (r.pq (at_ + 1) after ++ s.pq (at_ + 1 + r.sz) after)
  | .told a t, at_, after => [(.told a t, at_, after)]
  | .look s a b, at_, after => [(.look s a b, at_, after)]
  | .two s a b c, at_, after => [(.two s a b c, at_, after)]
def Ro.pq : Ro → Nat → Nat → List (De × Nat × Nat)
  | .nil, _, _ => []
  | .cons d .nil, at_, behind => d.pq at_ behind
  | .cons d (.cons e r), at_, behind => d.pq at_ (at_ + d.sz) ++ Ro.pq (.cons e r) (at_ + d.sz) behind
end
abbrev enP (x : De × Nat × Nat) : D := x.1.entry x.2.1 x.2.2
mutual
theorem De.pl_pq : ∀ (d : De) (a b : Nat), d.pl a b = (d.pq a b).map enP
  | .whl x r, a, b => by rw [De.pl, De.pq, List.map_cons, Ro.pl_pq r]
  | .ife x r s, a, b => by rw [De.pl, De.pq, List.map_cons, List.map_append, Ro.pl_pq r, Ro.pl_pq s]
  | .told x t, a, b => by rw [De.pl, De.pq]; rfl
  | .look s x y, a, b => by rw [De.pl, De.pq]; rfl
  | .two s x y z, a, b => by rw [De.pl, De.pq]; rfl
theorem Ro.pl_pq : ∀ (r : Ro) (a b : Nat), r.pl a b = (r.pq a b).map enP
  | .nil, a, b => by rw [Ro.pl, Ro.pq]; rfl
  | .cons d .nil, a, b => by rw [Ro.pl, Ro.pq, De.pl_pq d]
  | .cons d (.cons e r), a, b => by rw [Ro.pl, Ro.pq, List.map_append, De.pl_pq d, Ro.pl_pq (.cons e r)]
end
theorem pq_len (r : Ro) (a b : Nat) : (r.pq a b).length = r.sz := by
  have := Ro.pl_len r a b
  rw [Ro.pl_pq, List.length_map] at this
  exact this
mutual
theorem De.pq_ok : ∀ (d : De) (a b : Nat), d.ok → ∀ x ∈ d.pq a b, x.1.ok
  | .whl x r, a, b, h => by
    rw [De.pq]; intro y hy
    rcases List.mem_cons.mp hy with rfl | hy
    · exact h
    · rw [De.ok] at h; exact Ro.pq_ok r _ _ h.2 y hy
  | .ife x r s, a, b, h => by
    rw [De.pq]; intro y hy
    rcases List.mem_cons.mp hy with rfl | hy
    · exact h
    · rw [De.ok] at h
      rcases List.mem_append.mp hy with hy | hy
      · exact Ro.pq_ok r _ _ h.2.1 y hy
      · exact Ro.pq_ok s _ _ h.2.2 y hy
  | .told x t, a, b, h => by rw [De.pq]; intro y hy; simp at hy; subst hy; exact h
  | .look s x y, a, b, h => by rw [De.pq]; intro y hy; simp at hy; subst hy; exact h
  | .two s x y z, a, b, h => by rw [De.pq]; intro y hy; simp at hy; subst hy; exact h
theorem Ro.pq_ok : ∀ (r : Ro) (a b : Nat), r.ok → ∀ x ∈ r.pq a b, x.1.ok
  | .nil, a, b, h => by rw [Ro.pq]; intro y hy; cases hy
  | .cons d .nil, a, b, h => by rw [Ro.ok] at h; rw [Ro.pq]; exact De.pq_ok d _ _ h.1
  | .cons d (.cons e r), a, b, h => by
    rw [Ro.ok] at h
    rw [Ro.pq]; intro y hy
    rcases List.mem_append.mp hy with hy | hy
    · exact De.pq_ok d _ _ h.1 y hy
    · exact Ro.pq_ok (.cons e r) _ _ h.2 y hy
end
/-- the beginnings of a deed's rows -/
def De.bgs (d : De) (at_ after : Nat) : List Nat := match d with
  | .whl .. => [d.b0 at_ after] | .ife .. => [d.b0 at_ after, d.b1 at_ after] | _ => []
/-- an entry of the law's own order -/
def OrdE (P : PySem.Addr → Prop) (M : Hm) (x : De × Nat × Nat) (e : D) : Prop := ∃ b, P b ∧ e = .tup [x.1.enc, .int x.2.2, .ref b] ∧ M b = some (.lst ((x.1.bgs x.2.1 x.2.2).map fun n : Nat => D.int n))
def Ords (P : PySem.Addr → Prop) (M : Hm) : List (De × Nat × Nat) → List D → Prop
  | [], [] => True
  | x :: xs, e :: es => OrdE P M x e ∧ Ords P M xs es
  | _, _ => False
theorem Ords.mono {P P' : PySem.Addr → Prop} {M N : Hm} (hP : ∀ a m, P a → M a = some m → P' a ∧ N a = some m) : ∀ {xs : List (De × Nat × Nat)} {es : List D}, Ords P M xs es → Ords P' N xs es
  | [], [], _ => True.intro
  | x :: xs, e :: es, ⟨⟨b, h0, h1, h2⟩, g⟩ => ⟨⟨b, (hP _ _ h0 h2).1, h1, (hP _ _ h0 h2).2⟩, Ords.mono hP g⟩
theorem Ords.sub {P : PySem.Addr → Prop} {M N : Hm} (h : DL.Sub M N) {xs : List (De × Nat × Nat)} {es : List D} (g : Ords P M xs es) : Ords P N xs es := g.mono fun a m p e => ⟨p, h a m e⟩
theorem Ords.app {P : PySem.Addr → Prop} {M : Hm} : ∀ {xs ys : List (De × Nat × Nat)} {es fs : List D}, Ords P M xs es → Ords P M ys fs → Ords P M (xs ++ ys) (es ++ fs)
  | [], ys, [], fs, _, g => g
  | x :: xs, ys, e :: es, fs, ⟨h, g⟩, k => ⟨h, Ords.app g k⟩
theorem Ords.len {P : PySem.Addr → Prop} {M : Hm} : ∀ {xs : List (De × Nat × Nat)} {es : List D}, Ords P M xs es → es.length = xs.length
  | [], [], _ => rfl
  | x :: xs, e :: es, ⟨_, g⟩ => by rw [List.length_cons, List.length_cons, Ords.len g]
theorem Ords.get {P : PySem.Addr → Prop} {M : Hm} : ∀ {xs : List (De × Nat × Nat)} {es : List D} {i : Nat} {x : De × Nat × Nat}, Ords P M xs es → xs[i]? = some x → ∃ e, es[i]? = some e ∧ OrdE P M x e
  | x :: xs, e :: es, 0, y, ⟨h, g⟩, q => by simp at q; subst q; exact ⟨e, rfl, h⟩
  | x :: xs, e :: es, i + 1, y, ⟨h, g⟩, q => by
    obtain ⟨f, h1, h2⟩ := Ords.get (i := i) (x := y) g (by simpa using q)
    exact ⟨f, by simpa using h1, h2⟩
theorem txt_pair (a b : Th) : (Th.pair a b).txt = 40 :: (a.txt ++ (b.txt ++ [41])) := by simp [Th.txt, tx]
theorem txt_cut : ∀ (t u : Th) (x y : Tx), t.txt ++ x = u.txt ++ y → t = u ∧ x = y
  | .nil, .nil, x, y, h => by simpa [Th.txt] using h
  | .mk, .mk, x, y, h => by simpa [Th.txt] using h
  | .pair a b, .pair c d, x, y, h => by
    rw [txt_pair, txt_pair] at h
    simp only [List.cons_append, List.append_assoc, List.cons.injEq, true_and] at h
    obtain ⟨e1, h⟩ := txt_cut a c _ _ h
    obtain ⟨e2, h⟩ := txt_cut b d _ _ h
    subst e1 e2
    exact ⟨rfl, by simpa using h⟩
  | .nil, .mk, x, y, h => by simp [Th.txt, tx] at h
  | .mk, .nil, x, y, h => by simp [Th.txt, tx] at h
  | .nil, .pair c d, x, y, h => by simp [Th.txt, tx] at h
  | .mk, .pair c d, x, y, h => by simp [Th.txt, tx] at h
  | .pair a b, .nil, x, y, h => by simp [Th.txt, tx] at h
  | .pair a b, .mk, x, y, h => by simp [Th.txt, tx] at h
theorem txt_inj {t u : Th} (h : t.txt = u.txt) : t = u := (txt_cut t u [] [] (by rw [h])).1
theorem txt_iff {t u : Th} : t.txt = u.txt ↔ t = u := ⟨txt_inj, fun h => h ▸ rfl⟩
theorem txt_beq_self (t : Th) : (t.txt == t.txt) = true := by simp
def dep : Tx → Int
  | [] => 0
  | c :: x => (if c = 40 then 1 else if c = 41 then -1 else 0) + dep x
theorem dep_app : ∀ x y : Tx, dep (x ++ y) = dep x + dep y
  | [], y => by simp [dep]
  | c :: x, y => by simp only [List.cons_append, dep, dep_app x y]; omega
theorem dep_txt : ∀ t : Th, dep t.txt = 0
  | .nil => by simp [Th.txt, tx, dep]
  | .mk => by simp [Th.txt, tx, dep]
  | .pair a b => by
    rw [txt_pair]
    simp only [dep, dep_app, dep_txt a, dep_txt b]
    decide
theorem txt_pos (t : Th) : 0 < t.txt.length := by cases t <;> simp [Th.txt, tx]
theorem dep_in : ∀ (t : Th) (j : Nat), 0 < j → j < t.txt.length → 0 < dep (t.txt.take j)
  | .nil, j, h0, h1 => by simp [Th.txt, tx] at h1; omega
  | .mk, j, h0, h1 => by simp [Th.txt, tx] at h1; omega
  | .pair a b, j, h0, h1 => by
    have ge : ∀ (u : Th), (∀ j, 0 < j → j < u.txt.length → 0 < dep (u.txt.take j)) → ∀ j, 0 ≤ dep (u.txt.take j) := fun u hu j => by
      by_cases e0 : j = 0
      · subst e0; simp [dep]
      by_cases e1 : j < u.txt.length
      · have := hu j (by omega) e1; omega
      · rw [List.take_of_length_le (by omega), dep_txt]; exact Int.le_refl 0
    have ha := ge a (dep_in a)
    have hb := ge b (dep_in b)
    obtain ⟨i, rfl⟩ : ∃ i, j = i + 1 := ⟨j - 1, by omega⟩
    rw [txt_pair, List.take_succ_cons]
    rw [txt_pair] at h1
    simp at h1
    have : 0 ≤ dep ((a.txt ++ (b.txt ++ [41])).take i) := by
      rw [List.take_append, dep_app, List.take_append, dep_app]
      have h2 : i - a.txt.length - b.txt.length = 0 := by omega
      rw [h2]
      have := ha i
      have := hb (i - a.txt.length)
      simp [dep]
      omega
    simp [dep]
    omega
theorem dep_take (t : Th) (j : Nat) (hj : j ≤ t.txt.length) : (0 < dep (t.txt.take j) ∨ j = 0) ↔ j < t.txt.length := by
  have := txt_pos t
  constructor
  · rintro (h | h)
    · by_cases e : j < t.txt.length
      · exact e
      · rw [List.take_of_length_le (by omega), dep_txt] at h; omega
    · omega
  · intro h
    by_cases e : j = 0
    · exact .inr e
    · exact .inl (dep_in t j (by omega) h)
theorem dep_next (x : Tx) (j : Nat) (hj : j < x.length) : dep (x.take (j + 1)) = dep (x.take j) + (if x[j] = 40 then 1 else if x[j] = 41 then -1 else 0) := by
  rw [List.take_succ_eq_append_getElem hj, dep_app]
  simp [dep]
theorem txt_sign : ∀ (t : Th), t.plain = true → ∀ c ∈ t.txt, c = 46 ∨ c = 40 ∨ c = 41
  | .nil, _, c, h => by simp [Th.txt, tx] at h; exact .inl h
  | .mk, h, _, _ => by simp [Th.plain] at h
  | .pair a b, h, c, hc => by
    simp [Th.plain] at h
    rw [txt_pair] at hc
    simp at hc
    rcases hc with h1 | h1 | h1 | h1
    · exact .inr (.inl h1)
    · exact txt_sign a h.1 c h1
    · exact txt_sign b h.2 c h1
    · exact .inr (.inr h1)
theorem idx_sign (c : Nat) (h : c = 46 ∨ c = 40 ∨ c = 41) : ∃ i : Nat, idxT (tx ".()") [c] = some i ∧ L2.atI [D.int 0, D.int 1, D.int (-1)] (i : Int) = some (.int (if c = 40 then 1 else if c = 41 then -1 else 0)) := by
  rcases h with rfl | rfl | rfl
  · exact ⟨0, by decide +kernel, rfl⟩
  · exact ⟨1, by decide +kernel, rfl⟩
  · exact ⟨2, by decide +kernel, rfl⟩
theorem count_open : ∀ t : Th, t.txt.count 40 = t.size
  | .nil => by decide
  | .mk => by decide
  | .pair a b => by
    rw [txt_pair]
    simp [List.count_cons, List.count_append, count_open a, count_open b, Th.size]; omega
theorem cut_head (a r : Tx) : cutG (40 :: (a ++ r)) (some 1) (some (1 + (a.length : Int))) = a := by
  unfold cutG HT.sIx
  simp
  rw [if_neg (by omega)]
  have : min (1 + (a.length : Int)).toNat (a.length + r.length + 1) = a.length + 1 := by omega
  rw [this]
  simp
theorem cut_tail (a b : Tx) : cutG (40 :: (a ++ (b ++ [41]))) (some (1 + (a.length : Int))) (some (-1)) = b := by
  unfold cutG HT.sIx
  simp
  rw [if_neg (by omega)]
  have e1 : min (1 + (a.length : Int)).toNat (a.length + (b.length + 1) + 1) = a.length + 1 := by omega
  have e2 : (-1 + ((a.length : Int) + ((b.length : Int) + 1) + 1)).toNat - (a.length + 1) = b.length := by omega
  rw [e1, e2]
  simp
/-- head, tail -/
def thd : Th → Th
  | .pair a _ => a | _ => .nil
def ttl : Th → Th
  | .pair _ b => b | _ => .nil
theorem hd_ok (k : Nat) (t : Th) (M : Hm) (Q : DK) (E : DX) (h : Q (enc (thd t)) M) : G (k + 3) 0 .Thing_head [enc t] M Q E := by
  rw [G_s, st_Thing_head]
  unfold T_Thing_head N_Thing_head
  cases t with
  | pair a b => simp [wSeq_s, Th.enc, -Bool.exists_bool]; exact now h
  | nil => simp [wSeq_s, Th.enc, -Bool.exists_bool]; exact mk_nil k _ _ _ (now h)
  | mk => simp [wSeq_s, Th.enc, -Bool.exists_bool]; exact mk_nil k _ _ _ (now h)
theorem tl_ok (k : Nat) (t : Th) (M : Hm) (Q : DK) (E : DX) (h : Q (enc (ttl t)) M) : G (k + 3) 0 .Thing_tail [enc t] M Q E := by
  rw [G_s, st_Thing_tail]
  unfold T_Thing_tail N_Thing_tail
  cases t with
  | pair a b => simp [wSeq_s, Th.enc, -Bool.exists_bool]; exact now h
  | nil => simp [wSeq_s, Th.enc, -Bool.exists_bool]; exact mk_nil k _ _ _ (now h)
  | mk => simp [wSeq_s, Th.enc, -Bool.exists_bool]; exact mk_nil k _ _ _ (now h)
def yesT : Th := .pair .nil .nil
def nth (ns : List Th) (i : Nat) : Th := ns.getD i .nil
def isP : Th → Bool
  | .pair .. => true | _ => false
def De.a : De → Nat
  | .told a _ => a | .look _ a _ => a | .two _ a _ _ => a | .whl a _ => a | .ife a _ _ => a
def De.val (d : De) (ns : List Th) : Th := match d with
  | .told _ t => t
  | .look s _ b => if s then ttl (nth ns b) else thd (nth ns b)
  | .two s _ b c => if s then (if (nth ns b).txt == (nth ns c).txt then yesT else .nil) else .pair (nth ns b) (nth ns c)
  | _ => .nil
def De.looks : De → Bool
  | .whl .. => true | .ife .. => true | _ => false
/-- a pair that is too great -/
def De.big (d : De) (ns : List Th) : Bool := match d with
  | .two false _ _ _ => decide (4000 < (d.val ns).size) | _ => false
def De.to (d : De) (at_ after : Nat) (ns : List Th) : Nat := match d with
  | .whl a _ => if isP (nth ns a) then d.b0 at_ after else after
  | .ife a _ _ => if isP (nth ns a) then d.b0 at_ after else d.b1 at_ after
  | _ => after
def De.sets (d : De) (ns : List Th) : List Th := if d.looks then ns else ns.set d.a (d.val ns)
theorem sets_len (d : De) (ns : List Th) : (d.sets ns).length = ns.length := by unfold De.sets; split <;> simp
theorem nth_at {ns : List Th} {i : Nat} (h : i < ns.length) : L2.atI (ns.map enc) (i : Int) = some (enc (nth ns i)) := by
  rw [atI_nat (by simpa using h)]
  simp [nth, List.getD, List.getElem?_eq_getElem h]
theorem nth_mem {ns : List Th} {i : Nat} (h : i < ns.length) : nth ns i ∈ ns := by
  simp [nth, List.getD, List.getElem?_eq_getElem h]
def txD (t : Th) : D := .str t.txt
theorem nth_atT {ns : List Th} {i : Nat} (h : i < ns.length) : L2.atI (ns.map txD) (i : Int) = some (.str (nth ns i).txt) := by
  rw [atI_nat (by simpa using h)]
  simp [nth, List.getD, List.getElem?_eq_getElem h, txD]
theorem val_plain (d : De) (ns : List Th) (hd : d.ok) (hn : ∀ t ∈ ns, t.plain = true) (hl : ns.length = 10) : (d.val ns).plain = true := by
  have key : ∀ i, i < 10 → (nth ns i).plain = true := fun i hi => hn _ (nth_mem (by omega))
  have kt : ∀ t : Th, t.plain = true → (thd t).plain = true ∧ (ttl t).plain = true := fun t ht => by
    cases t with
    | nil => exact ⟨rfl, rfl⟩
    | mk => exact ⟨rfl, rfl⟩
    | pair a b => simp [Th.plain] at ht; exact ht
  cases d with
  | told a t => rw [De.ok] at hd; exact hd.2.1
  | look s a b =>
    rw [De.ok] at hd
    have := kt _ (key b hd.2)
    cases s
    · exact this.1
    · exact this.2
  | two s a b c =>
    rw [De.ok] at hd
    cases s
    · simp [De.val, Th.plain, key b hd.2.1, key c hd.2.2]
    · simp only [De.val, if_true]; split <;> rfl
  | whl a r => rfl
  | ife a r s => rfl
theorem sets_plain (d : De) (ns : List Th) (hd : d.ok) (hn : ∀ t ∈ ns, t.plain = true) (hl : ns.length = 10) : ∀ t ∈ d.sets ns, t.plain = true := by
  unfold De.sets
  split
  · exact hn
  · intro t ht
    rcases List.mem_or_eq_of_mem_set ht with h | h
    · exact hn t h
    · subst h; exact val_plain d ns hd hn hl
end K22
namespace K22
open DL
theorem isOf_th (t : Th) (m : String) (M : Hm) (h : m ∉ ["left", "right", "many", "text", "marked"]) : isOf "Thing" m (enc t) M := by
  simp at h
  cases t <;> exact ⟨rfl, by simp [Ne.symm, h]⟩
@[simp] theorem pEq_bb {es : List String} {k : Nat} {i j : Bool} {M : Hm} {Q : DK} : pEq es k false (.bl i) (.bl j) M Q = Q (.bl (i == j)) M := by simp [pEq, D.pure, D.dp, D.eq]
@[simp] theorem pNe_bb {es : List String} {k : Nat} {i j : Bool} {M : Hm} {Q : DK} : pNe es k (.bl i) (.bl j) M Q = Q (.bl (!(i == j))) M := by simp [pNe, D.pure, D.dp, D.eq, D.isIns]
theorem tlen_any (k : Nat) {Ss : List (String × DSp)} (hS : Ss.lookup "Thing" = some (G (k + 2) 1 .Thing_dlen)) (t : Th) (hs : t.size ≤ 4000) (M : Hm) (Q : DK) (E : DX) (h : Q (.int t.size) M) : pLen Ss [enc t] M Q E := by
  have e : ∃ fs, enc t = .ins "Thing" fs := by cases t <;> exact ⟨_, rfl⟩
  have hl := len_ok k t hs M (fun y M1 => ∃ i : Int, y = .int i ∧ 0 ≤ i ∧ i < 9223372036854775808 ∧ Q y M1) E ⟨_, rfl, by omega, by omega, h⟩
  obtain ⟨fs, e⟩ := e
  rw [e] at hl ⊢
  exact ⟨_, hS, hl⟩
theorem yes_ok (k : Nat) (M : Hm) (Q : DK) (E : DX) (h : Q (enc yesT) M) : G (k + 3) 0 .yes [] M Q E := by
  rw [G_s, st_yes]
  unfold T_yes N_yes
  simp [wSeq_s, -Bool.exists_bool]
  exact mk_nil k _ _ _ (mk_nil k _ _ _ (mk_pair k .nil .nil _ _ _ (by decide) (now h)))
theorem value_of_ok (k : Nat) (d : De) (hd : d.ok) (hl : d.looks = false) (n : PySem.Addr) (ns : List Th) (h10 : ns.length = 10) (hb : d.big ns = false) (M : Hm) (Q : DK) (E : DX) (hM : M n = some (.lst (ns.map enc))) (h : Q (enc (d.val ns)) M) : G (k + 4) 0 .value_of [d.enc, .ref n] M Q E := by
  rw [G_s, st_value_of]
  unfold T_value_of N_value_of
  have key : ∀ i : Nat, i < 10 → L2.atI (ns.map enc) (i : Int) = some (enc (nth ns i)) := fun i hi => nth_at (by omega)
  cases d with
  | whl a r => cases hl
  | ife a r s => cases hl
  | told a t =>
    simp [wSeq_s, De.enc, L2.atI, L2.ixN, -Bool.exists_bool]
    exact now h
  | look s a b =>
    rw [De.ok] at hd
    have e1 : tx "first" ≠ tx "told" := by decide
    have e2 : tx "second" ≠ tx "told" := by decide
    have e3 : tx "second" ≠ tx "first" := by decide
    cases s
    · have a0 : L2.atI [D.str (tx "first"), .int a, .int b] 0 = some (.str (tx "first")) := rfl
      have a2 : L2.atI [D.str (tx "first"), .int a, .int b] 2 = some (.int b) := rfl
      simp [wSeq_s, De.enc, a0, a2, e1, hM, key b hd.2, -Bool.exists_bool]
      exact ⟨isOf_th _ _ _ (by decide), hd_ok k _ _ _ _ (now h)⟩
    · have a0 : L2.atI [D.str (tx "second"), .int a, .int b] 0 = some (.str (tx "second")) := rfl
      have a2 : L2.atI [D.str (tx "second"), .int a, .int b] 2 = some (.int b) := rfl
      simp [wSeq_s, De.enc, a0, a2, e2, e3, hM, key b hd.2, -Bool.exists_bool]
      exact ⟨isOf_th _ _ _ (by decide), tl_ok k _ _ _ _ (now h)⟩
  | two s a b c =>
    rw [De.ok] at hd
    cases s
    · have a0 : L2.atI [D.str (tx "pair"), .int a, .int b, .int c] 0 = some (.str (tx "pair")) := rfl
      have a2 : L2.atI [D.str (tx "pair"), .int a, .int b, .int c] 2 = some (.int b) := rfl
      have a3 : L2.atI [D.str (tx "pair"), .int a, .int b, .int c] 3 = some (.int c) := rfl
      have e1 : tx "pair" ≠ tx "told" := by decide
      have e2 : tx "pair" ≠ tx "first" := by decide
      have e3 : tx "pair" ≠ tx "second" := by decide
      simp [wSeq_s, De.enc, a0, a2, a3, e1, e2, e3, hM, key b hd.2.1, key c hd.2.2, -Bool.exists_bool]
      exact mk_pair (k + 1) _ _ _ _ _ (by simp only [De.big, decide_eq_false_iff_not] at hb; simp [De.val] at hb; omega) (now h)
    · have a0 : L2.atI [D.str (tx "same"), .int a, .int b, .int c] 0 = some (.str (tx "same")) := rfl
      have a2 : L2.atI [D.str (tx "same"), .int a, .int b, .int c] 2 = some (.int b) := rfl
      have a3 : L2.atI [D.str (tx "same"), .int a, .int b, .int c] 3 = some (.int c) := rfl
      have e1 : tx "same" ≠ tx "told" := by decide
      have e2 : tx "same" ≠ tx "first" := by decide
      have e3 : tx "same" ≠ tx "second" := by decide
      have e4 : tx "same" ≠ tx "pair" := by decide
      simp [wSeq_s, De.enc, a0, a2, a3, e1, e2, e3, e4, hM, key b hd.2.1, key c hd.2.2, -Bool.exists_bool]
      refine eqT _ _ _ _ _ (by omega) ⟨_, rfl, ?_⟩
      have h' : Q (enc (if (nth ns b).txt == (nth ns c).txt then yesT else .nil)) M := h
      refine L2.ite2 (fun z => ?_) (fun z => ?_)
      · rw [if_pos z] at h'
        exact yes_ok k _ _ _ (now h')
      · rw [if_neg z] at h'
        exact mk_nil (k + 1) _ _ _ (now h')
end K22
namespace K22
open DL
theorem left_ok (t : Th) (M : Hm) (Q : DK) (h : ∀ y : D, y.isNon = (!isP t) → Q y M) : pAttr (enc t) "left" M Q := by
  cases t with
  | nil => exact ⟨_, rfl, h _ rfl⟩
  | mk => exact ⟨_, rfl, h _ rfl⟩
  | pair a b => exact ⟨_, rfl, h _ (by rw [show isP (a.pair b) = true from rfl]; exact enc_isNon)⟩
theorem mup_id {M : Hm} {a : PySem.Addr} {o : MO} (h : M a = some o) : mup M a o = M := by
  funext b
  by_cases q : b = a
  · subst q; rw [mup_same, h]
  · rw [mup_ne q]
theorem go_on_ok (k : Nat) (r : Ro) (pt : Nat) (x : De × Nat × Nat) (hx : (r.pq 0 r.sz)[pt]? = some x) (hd : x.1.ok) (n : PySem.Addr) (ns : List Th) (h10 : ns.length = 10) (hb : x.1.big ns = false) (M : Hm) (Q : DK) (E : DX) (hM : M n = some (.lst (ns.map enc)))
    (h : Q (.int (x.1.to x.2.1 x.2.2 ns)) (mup M n (.lst ((x.1.sets ns).map enc)))) : G (k + 5) 0 .go_on [r.prog, .int pt, .ref n] M Q E := by
  rw [G_s, st_go_on]
  unfold T_go_on N_go_on
  obtain ⟨d, at_, after⟩ := x
  simp only at hd hb h
  have key : ∀ i : Nat, i < 10 → L2.atI (ns.map enc) (i : Int) = some (enc (nth ns i)) := fun i hi => nth_at (by omega)
  have hp : L2.atI (r.pl 0 r.sz) (pt : Int) = some (.tup [d.enc, .int after, .int (d.b0 at_ after), .int (d.b1 at_ after)]) := by
    have hl := List.getElem?_eq_some_iff.mp hx
    rw [Ro.pl_pq, atI_nat (by simpa using hl.1), List.getElem?_map, hx]
    rfl
  have look : ∀ a : Nat, d.looks = true → (ns.map enc) = ((d.sets ns).map enc) := fun a z => by unfold De.sets; rw [if_pos z]
  obtain ⟨l, hk⟩ := enc_kind d
  have g0 : L2.atI (D.str (tx d.kind) :: l) 0 = some (.str (tx d.kind)) := by rw [show (0 : Int) = ((0 : Nat) : Int) from rfl, atI_nat (by simp)]; rfl
  have gi : ∀ a : Nat, d.a = a → L2.atI (D.str (tx d.kind) :: l) 1 = some (.int a) := fun a ha => by
    cases d <;> (rw [De.enc] at hk; cases hk; cases ha; rfl)
  have ha : d.a < 10 := by cases d <;> (rw [De.ok] at hd; simp [De.a]; omega)
  have gi := gi d.a rfl
  simp [wSeq_s, Ro.prog, hp, hk, g0, gi, hM, key d.a ha, setAll, -Bool.exists_bool]
  have kw : (tx d.kind = tx "while" ↔ ∃ a r, d = .whl a r) ∧ (tx d.kind = tx "if" ↔ ∃ a r s, d = .ife a r s) := by
    have no : ∀ s : String, tx s ≠ tx "while" → tx s ≠ tx "if" → d.kind = s → (∀ a r, d ≠ .whl a r) → (∀ a r s, d ≠ .ife a r s) → (tx d.kind = tx "while" ↔ ∃ a r, d = .whl a r) ∧ (tx d.kind = tx "if" ↔ ∃ a r s, d = .ife a r s) := fun s h1 h2 e g1 g2 => by
      rw [e]
      exact ⟨⟨fun z => absurd z h1, fun ⟨a, r, z⟩ => absurd z (g1 a r)⟩, ⟨fun z => absurd z h2, fun ⟨a, r, s, z⟩ => absurd z (g2 a r s)⟩⟩
    cases d with
    | told a t => exact no "told" (by decide) (by decide) rfl (fun _ _ z => by cases z) (fun _ _ _ z => by cases z)
    | look s a b => cases s <;> first | exact no "first" (by decide) (by decide) rfl (fun _ _ z => by cases z) (fun _ _ _ z => by cases z) | exact no "second" (by decide) (by decide) rfl (fun _ _ z => by cases z) (fun _ _ _ z => by cases z)
    | two s a b c => cases s <;> first | exact no "pair" (by decide) (by decide) rfl (fun _ _ z => by cases z) (fun _ _ _ z => by cases z) | exact no "same" (by decide) (by decide) rfl (fun _ _ z => by cases z) (fun _ _ _ z => by cases z)
    | whl a r => exact ⟨⟨fun _ => ⟨a, r, rfl⟩, fun _ => rfl⟩, ⟨fun z => absurd z (by show ¬ tx "while" = tx "if"; decide), fun ⟨_, _, _, z⟩ => by cases z⟩⟩
    | ife a r s => exact ⟨⟨fun z => absurd z (by show ¬ tx "if" = tx "while"; decide), fun ⟨_, _, z⟩ => by cases z⟩, ⟨fun _ => ⟨a, r, s, rfl⟩, fun _ => rfl⟩⟩
  have self : d.looks = true → mup M n (.lst ((d.sets ns).map enc)) = M := fun z => by rw [← look 0 z]; exact mup_id hM
  refine L2.ite2 (fun z => ?_) (fun z => L2.ite2 (fun z2 => ?_) (fun z2 => ?_))
  · obtain ⟨a, r', rfl⟩ := kw.1.mp z
    rw [self rfl] at h
    refine left_ok _ _ _ fun y hy => ⟨_, hy, ?_⟩
    have h' : Q (.int (if isP (nth ns (De.whl a r').a) then (De.whl a r').b0 at_ after else after : Nat)) M := h
    refine L2.ite2 (fun z => ?_) (fun z => ?_)
    · rw [if_pos z] at h'; exact now h'
    · rw [if_neg z] at h'; exact now h'
  · obtain ⟨a, r', s', rfl⟩ := kw.2.mp z2
    rw [self rfl] at h
    refine left_ok _ _ _ fun y hy => ⟨_, hy, ?_⟩
    have h' : Q (.int (if isP (nth ns (De.ife a r' s').a) then (De.ife a r' s').b0 at_ after else (De.ife a r' s').b1 at_ after : Nat)) M := h
    refine L2.ite2 (fun z => ?_) (fun z => ?_)
    · rw [if_pos z] at h'; exact now h'
    · rw [if_neg z] at h'; exact now h'
  · have hlk : d.looks = false := by
      cases d with
      | whl a r => exact absurd rfl z
      | ife a r s => exact absurd rfl z2
      | _ => rfl
    have hto : d.to at_ after ns = after := by cases d <;> first | rfl | cases hlk
    have hset : (d.sets ns).map enc = (ns.map enc).set d.a (enc (d.val ns)) := by unfold De.sets; rw [hlk]; simp
    rw [hto, hset] at h
    rw [← hk]
    refine value_of_ok k d hd hlk n ns h10 hb M _ _ hM ⟨_, hM, d.a, ?_, now h⟩
    unfold L2.ixN
    simp
    omega
def standD (p : Nat) (ns : List Th) : D := .ins "Stand" [("point", .int p), ("names", .tup (ns.map enc))]
theorem mk_stand (k : Nat) (p : Nat) (ns : List Th) (M : Hm) (Q : DK) (E : DX) (h : Q (standD p ns) M) : G (k + 2) 0 .c_Stand [.int p, .tup (ns.map enc)] M Q E := by
  rw [G_s, st_c_Stand]
  intro x hx
  rw [G_s, st_Stand_dinit]
  unfold T_Stand_dinit N_Stand_dinit
  simp [wSeq_s, -Bool.exists_bool]
  exact ⟨_, _, ⟨rfl, rfl⟩, by decide, _, _, ⟨rfl, rfl⟩, by simp, _, Sub.rfl', _, mup_same, M, sub_mdel (sub_mup Sub.rfl' hx) hx, h⟩
theorem plen_at (k : Nat) (r : Ro) (hz : r.sz ≤ 4000) (M : Hm) (Q : DK) (E : DX) (h : Q (.int r.sz) M) : pLen [("Thing", G (k + 2) 1 .Thing_dlen), ("Program", G (k + 2) 1 .Program_dlen)] [r.prog] M Q E :=
  ⟨_, rfl, plen_ok k r M _ E ⟨_, rfl, by omega, by omega, h⟩⟩
theorem step_ok (k : Nat) (r : Ro) (hz : r.sz ≤ 4000) (pt : Nat) (x : De × Nat × Nat) (hx : (r.pq 0 r.sz)[pt]? = some x) (hd : x.1.ok) (ns : List Th) (h10 : ns.length = 10) (hb : x.1.big ns = false) (M : Hm) (Q : DK) (E : DX)
    (h : Q (standD (x.1.to x.2.1 x.2.2 ns) (x.1.sets ns)) M) : G (k + 6) 0 .step [r.prog, standD pt ns] M Q E := by
  rw [G_s, st_step]
  unfold T_step N_step
  have hl : pt < r.sz := by have := (List.getElem?_eq_some_iff.mp hx).1; rw [pq_len] at this; exact this
  simp [wSeq_s, standD, -Bool.exists_bool]
  refine plen_at (k + 3) r hz _ _ _ ⟨_, rfl, ?_⟩
  first | rw [if_neg (by simp; omega)] | refine ⟨by simp; omega, ?_⟩
  intro p hp
  refine go_on_ok k r pt x hx hd p ns h10 hb _ _ _ mup_same ?_
  rw [mup_mup]
  refine ⟨_, .inl mup_same, mk_stand (k + 3) _ _ _ _ _ ⟨M, sub_mup Sub.rfl' hp, h⟩⟩
end K22
namespace K22
open DL
theorem big_two {d : De} {ns : List Th} (h : d.big ns = true) : ∃ a b c, d = .two false a b c ∧ 4000 < (Th.pair (nth ns b) (nth ns c)).size := by
  cases d with
  | two s a b c =>
    cases s
    · exact ⟨a, b, c, rfl, by simpa [De.big, De.val] using h⟩
    · cases h
  | _ => cases h
theorem value_great (k : Nat) (d : De) (hd : d.ok) (n : PySem.Addr) (ns : List Th) (h10 : ns.length = 10) (hz : ∀ t ∈ ns, t.size ≤ 4000) (hb : d.big ns = true) (M : Hm) (Q : DK) (E : DX) (hM : M n = some (.lst (ns.map enc)))
    (h : ∀ p M', DL.Sub M M' → M p = none → M' p = some (.xd [("bound", .int 4000)]) → E ⟨"TooGreat", p⟩ M') : G (k + 4) 0 .value_of [d.enc, .ref n] M Q E := by
  obtain ⟨a, b, c, rfl, hs⟩ := big_two hb
  rw [De.ok] at hd
  rw [G_s, st_value_of]
  unfold T_value_of N_value_of
  have key : ∀ i : Nat, i < 10 → L2.atI (ns.map enc) (i : Int) = some (enc (nth ns i)) := fun i hi => nth_at (by omega)
  have a0 : L2.atI [D.str (tx "pair"), .int a, .int b, .int c] 0 = some (.str (tx "pair")) := rfl
  have a2 : L2.atI [D.str (tx "pair"), .int a, .int b, .int c] 2 = some (.int b) := rfl
  have a3 : L2.atI [D.str (tx "pair"), .int a, .int b, .int c] 3 = some (.int c) := rfl
  have e1 : tx "pair" ≠ tx "told" := by decide
  have e2 : tx "pair" ≠ tx "first" := by decide
  have e3 : tx "pair" ≠ tx "second" := by decide
  simp [wSeq_s, De.enc, a0, a2, a3, e1, e2, e3, hM, key b hd.2.1, key c hd.2.2, -Bool.exists_bool]
  exact mk_both (k + 1) _ _ (hz _ (nth_mem (by omega))) (hz _ (nth_mem (by omega))) _ _ _ (fun z => by omega) (fun _ => h)
theorem go_great (k : Nat) (r : Ro) (pt : Nat) (x : De × Nat × Nat) (hx : (r.pq 0 r.sz)[pt]? = some x) (hd : x.1.ok) (n : PySem.Addr) (ns : List Th) (h10 : ns.length = 10) (hz : ∀ t ∈ ns, t.size ≤ 4000) (hb : x.1.big ns = true) (M : Hm) (Q : DK) (E : DX) (hM : M n = some (.lst (ns.map enc)))
    (h : ∀ p M', DL.Sub M M' → M p = none → M' p = some (.xd [("bound", .int 4000)]) → E ⟨"TooGreat", p⟩ M') : G (k + 5) 0 .go_on [r.prog, .int pt, .ref n] M Q E := by
  rw [G_s, st_go_on]
  unfold T_go_on N_go_on
  obtain ⟨d, at_, after⟩ := x
  simp only at hd hb
  have hp : L2.atI (r.pl 0 r.sz) (pt : Int) = some (.tup [d.enc, .int after, .int (d.b0 at_ after), .int (d.b1 at_ after)]) := by
    have hl := List.getElem?_eq_some_iff.mp hx
    rw [Ro.pl_pq, atI_nat (by simpa using hl.1), List.getElem?_map, hx]
    rfl
  obtain ⟨a, b, c, rfl, hs⟩ := big_two hb
  have a0 : L2.atI [D.str (tx "pair"), .int a, .int b, .int c] 0 = some (.str (tx "pair")) := rfl
  have e1 : tx "pair" ≠ tx "while" := by decide
  have e2 : tx "pair" ≠ tx "if" := by decide
  simp [wSeq_s, Ro.prog, hp, setAll, -Bool.exists_bool]
  rw [De.enc]
  simp [a0, e1, e2, -Bool.exists_bool]
  have := value_great k (.two false a b c) hd n ns h10 hz hb M
  rw [De.enc] at this
  exact this _ _ hM h
theorem step_great (k : Nat) (r : Ro) (hz : r.sz ≤ 4000) (pt : Nat) (x : De × Nat × Nat) (hx : (r.pq 0 r.sz)[pt]? = some x) (hd : x.1.ok) (ns : List Th) (h10 : ns.length = 10) (hzs : ∀ t ∈ ns, t.size ≤ 4000) (hb : x.1.big ns = true) (M : Hm) (Q : DK) (E : DX)
    (h : ∀ p M', DL.Sub M M' → M p = none → M' p = some (.xd [("bound", .int 4000)]) → E ⟨"TooGreat", p⟩ M') : G (k + 6) 0 .step [r.prog, standD pt ns] M Q E := by
  rw [G_s, st_step]
  unfold T_step N_step
  have hl : pt < r.sz := by have := (List.getElem?_eq_some_iff.mp hx).1; rw [pq_len] at this; exact this
  simp [wSeq_s, standD, -Bool.exists_bool]
  refine plen_at (k + 3) r hz _ _ _ ⟨_, rfl, ?_⟩
  first | rw [if_neg (by simp; omega)] | refine ⟨by simp; omega, ?_⟩
  intro p hp
  refine go_great k r pt x hx hd p ns h10 hzs hb _ _ _ mup_same fun q M' s hq h1 => ?_
  exact h q M' ((sub_mup Sub.rfl' hp).trans' s) (mup_none hq).2 h1
@[simp] theorem at_point {p : Nat} {ns : List Th} {M : Hm} {Q : DK} : pAttr (standD p ns) "point" M Q = Q (.int p) M := by simp [standD]
@[simp] theorem at_names {p : Nat} {ns : List Th} {M : Hm} {Q : DK} : pAttr (standD p ns) "names" M Q = Q (.tup (ns.map enc)) M := by simp [standD]
@[simp] theorem tyD_stand {p : Nat} {ns : List Th} {M : Hm} : tyD (standD p ns) M = some (true, "Stand") := rfl
@[simp] theorem tyD_int {i : Int} {M : Hm} : tyD (.int i) M = some (false, "int") := rfl
@[simp] theorem tyD_tup {xs : List D} {M : Hm} : tyD (.tup xs) M = some (false, "tuple") := rfl
end K22
namespace K22
open DL
abbrev St := Nat × List Th
def nx (r : Ro) (s : St) : St := match (r.pq 0 r.sz)[s.1]? with
  | some x => (x.1.to x.2.1 x.2.2 s.2, x.1.sets s.2) | none => s
def gr (r : Ro) (s : St) : Bool := match (r.pq 0 r.sz)[s.1]? with
  | some x => x.1.big s.2 | none => false
def st (r : Ro) (s : St) : Nat → St
  | 0 => s
  | n + 1 => nx r (st r s n)
structure Fit (ns : List Th) : Prop where
  len : ns.length = 10
  sz : ∀ t ∈ ns, t.size ≤ 4000
theorem thd_sz (t : Th) : (thd t).size ≤ t.size ∧ (ttl t).size ≤ t.size := by
  cases t with
  | nil => exact ⟨Nat.le_refl _, Nat.le_refl _⟩
  | mk => exact ⟨Nat.le_refl _, Nat.le_refl _⟩
  | pair a b => simp only [thd, ttl, Th.size]; omega
theorem val_fit (d : De) (hd : d.ok) (ns : List Th) (f : Fit ns) (hb : d.big ns = false) : (d.val ns).size ≤ 4000 := by
  have key : ∀ i, i < 10 → (nth ns i).size ≤ 4000 := fun i hi => f.sz _ (nth_mem (by have := f.len; omega))
  cases d with
  | told a t => rw [De.ok] at hd; exact hd.2.2
  | look s a b =>
    rw [De.ok] at hd
    have h1 := key b hd.2
    have h2 := thd_sz (nth ns b)
    cases s
    · show (thd (nth ns b)).size ≤ _; omega
    · show (ttl (nth ns b)).size ≤ _; omega
  | two s a b c =>
    cases s
    · simp only [De.big, decide_eq_false_iff_not] at hb
      omega
    · show (if (nth ns b).txt == (nth ns c).txt then yesT else Th.nil).size ≤ _
      split <;> decide
  | whl a r => exact Nat.zero_le _
  | ife a r s => exact Nat.zero_le _
theorem sets_fit (d : De) (hd : d.ok) (ns : List Th) (f : Fit ns) (hb : d.big ns = false) : Fit (d.sets ns) := by
  refine ⟨by rw [sets_len]; exact f.len, ?_⟩
  unfold De.sets
  split
  · exact f.sz
  · intro t ht
    rcases List.mem_or_eq_of_mem_set ht with h | h
    · exact f.sz t h
    · subst h; exact val_fit d hd ns f hb
theorem at_pt {r : Ro} (hr : r.ok) {s : St} (h : s.1 < r.sz) : ∃ x, (r.pq 0 r.sz)[s.1]? = some x ∧ x.1.ok ∧ nx r s = (x.1.to x.2.1 x.2.2 s.2, x.1.sets s.2) ∧ gr r s = x.1.big s.2 := by
  have lt : s.1 < (r.pq 0 r.sz).length := by rw [pq_len]; exact h
  have hx : (r.pq 0 r.sz)[s.1]? = some (r.pq 0 r.sz)[s.1] := List.getElem?_eq_getElem lt
  refine ⟨_, hx, Ro.pq_ok r 0 r.sz hr _ (List.getElem_mem lt), ?_, ?_⟩
  · unfold nx; rw [hx]
  · unfold gr; rw [hx]
theorem nx_fit {r : Ro} (hr : r.ok) {s : St} (h : s.1 < r.sz) (hb : gr r s = false) (f : Fit s.2) : Fit (nx r s).2 := by
  obtain ⟨x, hx, hd, e1, e2⟩ := at_pt hr h
  rw [e2] at hb
  rw [e1]
  exact sets_fit x.1 hd s.2 f hb
theorem rng_eq (n : Nat) : intsFrom 0 n = (List.range' 0 n).map fun i : Nat => D.int i := by
  unfold intsFrom
  rw [List.range_eq_range']
  refine List.map_congr_left fun i _ => ?_
  simp
def nine : List Th := List.replicate 9 Th.nil
theorem begin_ok (k : Nat) (P : D) (t : Th) (M : Hm) (Q : DK) (E : DX) (h : Q (standD 0 (t :: nine)) M) : G (k + 3) 0 .begin [P, enc t] M Q E := by
  rw [G_s, st_begin]
  unfold T_begin N_begin
  have eR : R62 = 4611686018427387904 := rfl
  have eL : LL = 16777216 := rfl
  simp [wSeq_s, wComp_s, -Bool.exists_bool]
  refine ⟨by decide, by decide, fun p hp => ?_⟩
  refine comp_map (fun _ => enc .nil) (fun _ => True.intro) _ _ (fun x _ acc Q' h' => ?_) (by simp [intsFrom]; omega) ?_
  · simp
    exact mk_nil k _ _ _ h'
  · have e : ([] ++ List.map (fun _ => enc Th.nil) (intsFrom 0 9)) = nine.map enc := rfl
    rw [e]
    refine ⟨_, .inl mup_same, by decide, ?_⟩
    exact mk_stand k 0 (t :: nine) _ _ _ ⟨M, sub_mup Sub.rfl' hp, h⟩
/-- a run's value -/
def runD (w : String) (n : Nat) (t : D) : D := .ins "Run" [("word", .str (tx w)), ("steps", .int n), ("thing", t)]
theorem mk_runW (g : Gs) (k : Nat) (w : String) (n : Nat) (t : D) (M : Hm) (Q : DK) (E : DX) (h : Q (runD w n t) M) : pMakeF "Run" (wBody N_Run_dinit (T_Run_dinit g k)) [.str (tx w), .int n, t] M Q E := by
  intro x hx
  unfold T_Run_dinit N_Run_dinit
  simp [wSeq_s, -Bool.exists_bool]
  exact ⟨_, _, ⟨rfl, rfl⟩, by decide, _, _, ⟨rfl, rfl⟩, by simp, _, _, ⟨rfl, rfl⟩, by simp, _, Sub.rfl', _, mup_same, M, sub_mdel (sub_mup Sub.rfl' hx) hx, h⟩
theorem mk_run (k : Nat) (w : String) (n : Nat) (t : D) (M : Hm) (Q : DK) (E : DX) (h : Q (runD w n t) M) : G (k + 2) 0 .c_Run [.str (tx w), .int n, t] M Q E := by
  rw [G_s, st_c_Run]
  intro x hx
  rw [G_s, st_Run_dinit]
  exact mk_runW _ _ w n t M Q E h x hx
end K22
namespace K22
open DL
/-- a turn of run's loop -/
theorem run_turn (k : Nat) (r : Ro) (hr : r.ok) (hz : r.sz ≤ 4000) (t : D) (b : Nat) (n : PySem.Addr) (i : Nat) (s : St) (f : Fit s.2) (K : DEn) (M : Hm) (hM : M n = some (.lst (s.2.map enc)))
    (h1 : r.sz ≤ s.1 → K.rt (runD "ended" i (enc (nth s.2 0))) M)
    (h2 : s.1 < r.sz → i < b → gr r s = true → ∀ M', DL.Sub M M' → K.rt (runD "great" i .non) M')
    (h3 : s.1 < r.sz → i < b → gr r s = false → K.nx [some r.prog, some t, some (.int b), some (.ref n), some (.int (nx r s).1), some (.int i)] (mup M n (.lst ((nx r s).2.map enc))))
    (h4 : s.1 < r.sz → ¬ i < b → K.nx [some r.prog, some t, some (.int b), some (.ref n), some (.int s.1), some (.int i)] M) :
    B_run_0 (G (k + 6)) (k + 6) K [some r.prog, some t, some (.int b), some (.ref n), some (.int s.1), some (.int i)] M := by
  unfold B_run_0
  have g0 : L2.atI (s.2.map enc) 0 = some (enc (nth s.2 0)) := nth_at (ns := s.2) (i := 0) (by have := f.len; omega)
  rw [wSeq_s]
  simp [-Bool.exists_bool]
  refine plen_at (k + 4) r hz _ _ _ ⟨_, rfl, ?_⟩
  refine L2.ite2 (fun z => ?_) (fun z => ?_)
  · rw [wSeq_s]
    simp [hM, g0, -Bool.exists_bool]
    exact mk_run (k + 4) "ended" i _ _ _ _ (h1 (by simpa using z))
  · have lt : s.1 < r.sz := by simp at z; omega
    rw [wSeq_s]
    simp [-Bool.exists_bool]
    refine L2.ite2 (fun zb => ?_) (fun zb => h4 lt (by omega))
    have hb : i < b := by omega
    obtain ⟨x, hx, hd, e1, e2⟩ := at_pt hr lt
    rw [wSeq_s]
    simp [wTry0, wSeq_s, -Bool.exists_bool]
    cases q : gr r s with
    | true =>
      refine go_great (k + 1) r s.1 x hx hd n s.2 f.len f.sz (by rw [← e2]; exact q) M _ _ hM fun p M' sM hp hx2 => ?_
      refine ⟨show "TooGreat" ∈ xs0 from by decide, ?_⟩
      rw [if_pos rfl]
      exact mk_runW _ _ "great" i .non _ _ _ (h2 lt hb q M' sM)
    | false =>
      refine go_on_ok (k + 1) r s.1 x hx hd n s.2 f.len (by rw [← e2]; exact q) M _ _ hM ?_
      have := h3 lt hb q
      rw [e1] at this
      exact this
/-- so many steps are done -/
def Path (r : Ro) (s : St) (N : Nat) : Prop := ∀ i, i < N → (st r s i).1 < r.sz ∧ gr r (st r s i) = false
theorem path_fit {r : Ro} (hr : r.ok) {s : St} (f : Fit s.2) {N : Nat} (p : Path r s N) : ∀ i, i ≤ N → Fit (st r s i).2
  | 0, _ => f
  | i + 1, h => by
    have ih := path_fit hr f p i (by omega)
    have := p i (by omega)
    exact nx_fit hr this.1 this.2 ih
def Ends (r : Ro) (s : St) (b N : Nat) (res : D) : Prop := (r.sz ≤ (st r s N).1 ∧ res = runD "ended" N (enc (nth (st r s N).2 0))) ∨ ((st r s N).1 < r.sz ∧ N < b ∧ gr r (st r s N) = true ∧ res = runD "great" N .non) ∨ ((st r s N).1 < r.sz ∧ N = b ∧ res = runD "open" b .non)
theorem run_loop (k : Nat) (r : Ro) (hr : r.ok) (hz : r.sz ≤ 4000) (s : St) (f : Fit s.2) (t res : D) (b N : Nat) (hN : N ≤ b) (p : Path r s N) (he : Ends r s b N res) (n : PySem.Addr) (K : DEn) (M0 : Hm) (hn : M0 n = none) (hK : ∀ M', DL.Sub M0 M' → K.rt res M') (hK2 : (∀ M', DL.Sub M0 M' → res = runD "open" b .non → ∀ pt i, K.nx [some r.prog, some t, some (.int b), some (.ref n), some pt, some i] M')) :
    ∀ (m i : Nat) (o : Option D) (M : Hm), i + m = N → M n = some (.lst ((st r s i).2.map enc)) → DL.Sub M0 M →
      wLoop (wName 5) (B_run_0 (G (k + 6)) (k + 6)) K (fun _ => True) ((List.range' i (b + 1 - i)).map fun i : Nat => D.int i) [some r.prog, some t, some (.int b), some (.ref n), some (.int (st r s i).1), o] M := by
  intro m
  induction m with
  | zero =>
    intro i o M hi hM hS
    obtain rfl : i = N := by omega
    have fN := path_fit hr f p i (Nat.le_refl _)
    rw [show b + 1 - i = (b - i) + 1 by omega, List.range'_succ, List.map_cons, wLoop_c]
    refine ⟨True.intro, ?_⟩
    show B_run_0 (G (k + 6)) (k + 6) _ [some r.prog, some t, some (.int b), some (.ref n), some (.int (st r s i).1), some (.int i)] M
    refine run_turn k r hr hz t b n i (st r s i) fN _ M hM (fun z => ?_) (fun z zb zg M' sM => ?_) (fun z zb zg => ?_) (fun z zb => ?_)
    · rcases he with ⟨_, e⟩ | ⟨h1, _⟩ | ⟨h1, _⟩
      · rw [← e]; exact hK M hS
      · omega
      · omega
    · rcases he with ⟨h1, _⟩ | ⟨_, _, _, e⟩ | ⟨_, h2, _⟩
      · omega
      · rw [← e]; exact hK M' (hS.trans' sM)
      · omega
    · rcases he with ⟨h1, _⟩ | ⟨_, _, h3, _⟩ | ⟨_, h2, _⟩
      · omega
      · rw [zg] at h3; cases h3
      · omega
    · rcases he with ⟨h1, _⟩ | ⟨_, h2, _⟩ | ⟨_, h2, e⟩
      · omega
      · omega
      · subst h2
        rw [show i - i = 0 by omega]
        exact now ⟨True.intro, hK2 M hS e _ _⟩
  | succ m ih =>
    intro i o M hi hM hS
    have pi := p i (by omega)
    have fi := path_fit hr f p i (by omega)
    rw [show b + 1 - i = (b - i) + 1 by omega, List.range'_succ, List.map_cons, wLoop_c]
    refine ⟨True.intro, ?_⟩
    show B_run_0 (G (k + 6)) (k + 6) _ [some r.prog, some t, some (.int b), some (.ref n), some (.int (st r s i).1), some (.int i)] M
    refine run_turn k r hr hz t b n i (st r s i) fi _ M hM (fun z => by omega) (fun z zb zg => by rw [pi.2] at zg; cases zg) (fun z zb zg => ?_) (fun z zb => by omega)
    have := ih (i + 1) (some (.int i)) (mup M n (.lst ((st r s (i + 1)).2.map enc))) (by omega) mup_same (fun a m e => by rw [mup_ne (ne_none e hn)]; exact hS a m e)
    rw [show b + 1 - (i + 1) = b - i by omega] at this
    exact now this
theorem run_ok (k : Nat) (r : Ro) (hr : r.ok) (hz : r.sz ≤ 4000) (t : Th) (ht : t.size ≤ 4000) (b N : Nat) (hb : b ≤ 1000000) (hN : N ≤ b) (p : Path r (0, t :: nine) N) (res : D) (he : Ends r (0, t :: nine) b N res) (M : Hm) (Q : DK) (E : DX) (h : Q res M) : G (k + 7) 0 .run [r.prog, enc t, .int b] M Q E := by
  rw [G_s, st_run]
  unfold T_run N_run
  have eR : R62 = 4611686018427387904 := rfl
  have f : Fit (t :: nine) := ⟨rfl, fun u hu => by
    rcases List.mem_cons.mp hu with rfl | hu
    · exact ht
    · rw [List.eq_of_mem_replicate hu]; exact Nat.zero_le _⟩
  rw [wBody_s, wSeq_s]
  simp [-Bool.exists_bool]
  refine begin_ok (k + 3) _ t _ _ _ ?_
  simp [-Bool.exists_bool]
  intro n hn
  rw [wSeq_s]
  simp [-Bool.exists_bool]
  rw [wSeq_s]
  simp [wFor_s, -Bool.exists_bool]
  refine ⟨by omega, by omega, ?_⟩
  rw [rng_eq]
  refine run_loop k r hr hz (0, t :: nine) f (enc t) res b N hN p he n _ M hn ?hK (fun M' s e pt i => ?_) N 0 none _ (by omega) mup_same (sub_mup Sub.rfl' hn)
  case hK => exact fun M' s => ⟨M, s, h⟩
  dsimp only
  rw [wSeq_s]
  simp [-Bool.exists_bool]
  exact mk_run (k + 4) "open" b .non _ _ _ ⟨M, s, by rw [← e]; exact h⟩
end K22
namespace K22
open DL
def Pu (T : DTE) (σ : SD) (d : D) : Prop := ∀ (M : Hm) (Q : DK) (E : DX), Q d M → T σ M Q E
def PuA (T : DTA) (σ : SD) (ds : List D) : Prop := ∀ (M : Hm) (Q : List D → Hm → Prop) (E : DX), Q ds M → T σ M Q E
theorem pu_c {σ : SD} {d : D} : Pu (wC d) σ d := fun _ _ _ h => h
theorem pu_v {σ : SD} {i : Nat} {d : D} (h : σ[i]? = some (some d)) : Pu (wVar i) σ d := fun _ _ _ q => ⟨d, h, q⟩
theorem pua_nil {σ : SD} : PuA wNil σ [] := fun _ _ _ h => h
theorem pua_cons {σ : SD} {T : DTE} {Tr : DTA} {d : D} {ds : List D} (h : Pu T σ d) (g : PuA Tr σ ds) : PuA (wCons T Tr) σ (d :: ds) := fun M Q E q => by
  rw [wCons_s]
  exact h M _ _ (g M _ _ q)
theorem pu_tup {σ : SD} {Tr : DTA} {ds : List D} (h : PuA Tr σ ds) (hl : ds.length ≤ LL) : Pu (wTup Tr) σ (.tup ds) := fun M Q E q => by
  rw [wTup_s]
  exact h M _ _ ⟨hl, q⟩
theorem pu_lst {σ : SD} {Tr : DTA} {ds : List D} {M : Hm} {Q : DK} {E : DX} (h : PuA Tr σ ds) (hl : ds.length ≤ LL) (hQ : ∀ p, M p = none → Q (.ref p) (mup M p (.lst ds))) : wLst Tr σ M Q E := by
  rw [wLst_s]
  exact h M _ _ ⟨hl, hQ⟩
theorem pu_ret {σ : SD} {T : DTE} {d : D} {K : DEn} {M : Hm} (h : Pu T σ d) (q : K.rt d M) : wRet T K σ M := by
  rw [wRet_s]
  exact h M _ _ q
theorem seq_asg {T : DTE} {i : Nat} {S : DTS} {K : DEn} {σ : SD} {M : Hm} : wSeq (wAsg T (wName i)) S K σ M = T σ M (fun d M1 => S K (σ.set i (some d)) M1) (fun x M1 => K.ex x σ M1) := rfl
theorem call1_s {Sp : DSp} {A : DTE} {σ : SD} {M : Hm} {Q : DK} {E : DX} : wCall 1 0 [.arg 0] Sp (wCons A wNil) wNil σ M Q E = A σ M (fun x M1 => Sp [x] M1 Q E) E := by simp
theorem call2_s {Sp : DSp} {A B : DTE} {σ : SD} {M : Hm} {Q : DK} {E : DX} : wCall 2 0 [.arg 0, .arg 1] Sp (wCons A (wCons B wNil)) wNil σ M Q E = A σ M (fun x M1 => B σ M1 (fun y M2 => Sp [x, y] M2 Q E) E) E := by simp
theorem call3_s {Sp : DSp} {A B C : DTE} {σ : SD} {M : Hm} {Q : DK} {E : DX} : wCall 3 0 [.arg 0, .arg 1, .arg 2] Sp (wCons A (wCons B (wCons C wNil))) wNil σ M Q E = A σ M (fun x M1 => B σ M1 (fun y M2 => C σ M2 (fun z M3 => Sp [x, y, z] M3 Q E) E) E) E := by simp
theorem var_ok {i : Nat} {σ : SD} {M : Hm} {Q : DK} {E : DX} (d : D) (hd : σ[i]? = some (some d)) (h : Q d M) : wVar i σ M Q E := ⟨d, hd, h⟩
theorem w2_i {P : D → D → Hm → DK → Prop} {A B : DTE} {σ : SD} {M : Hm} {Q : DK} {E : DX} (h : A σ M (fun x M1 => B σ M1 (fun y M2 => P x y M2 Q) E) E) : w2 P A B σ M Q E := h
theorem c_i {d : D} {σ : SD} {M : Hm} {Q : DK} {E : DX} (h : Q d M) : wC d σ M Q E := h
theorem lst_i {Tr : DTA} {σ : SD} {M : Hm} {Q : DK} {E : DX} (h : Tr σ M (fun ds M1 => ds.length ≤ LL ∧ ∀ p, M1 p = none → Q (.ref p) (mup M1 p (.lst ds))) E) : wLst Tr σ M Q E := h
theorem cons_i {A : DTE} {Tr : DTA} {σ : SD} {M : Hm} {Q : List D → Hm → Prop} {E : DX} (h : A σ M (fun d M1 => Tr σ M1 (fun ds M2 => Q (d :: ds) M2) E) E) : wCons A Tr σ M Q E := h
theorem nil_i {σ : SD} {M : Hm} {Q : List D → Hm → Prop} {E : DX} (h : Q [] M) : wNil σ M Q E := h
theorem asg_i {T : DTE} {i : Nat} {S : DTS} {K : DEn} {σ : SD} {M : Hm} (h : T σ M (fun d M1 => S K (σ.set i (some d)) M1) (fun x M1 => K.ex x σ M1)) : wSeq (wAsg T (wName i)) S K σ M := h
theorem call1_i {Sp : DSp} {A : DTE} {σ : SD} {M : Hm} {Q : DK} {E : DX} (h : A σ M (fun x M1 => Sp [x] M1 Q E) E) : wCall 1 0 [.arg 0] Sp (wCons A wNil) wNil σ M Q E := by rw [call1_s]; exact h
theorem call2_i {Sp : DSp} {A B : DTE} {σ : SD} {M : Hm} {Q : DK} {E : DX} (h : A σ M (fun x M1 => B σ M1 (fun y M2 => Sp [x, y] M2 Q E) E) E) : wCall 2 0 [.arg 0, .arg 1] Sp (wCons A (wCons B wNil)) wNil σ M Q E := by rw [call2_s]; exact h
theorem call3_i {Sp : DSp} {A B C : DTE} {σ : SD} {M : Hm} {Q : DK} {E : DX} (h : A σ M (fun x M1 => B σ M1 (fun y M2 => C σ M2 (fun z M3 => Sp [x, y, z] M3 Q E) E) E) E) : wCall 3 0 [.arg 0, .arg 1, .arg 2] Sp (wCons A (wCons B (wCons C wNil))) wNil σ M Q E := by rw [call3_s]; exact h
theorem addi_i {i j : Int} {M : Hm} {Q : DK} (h : Q (.int (i + j)) M) : pAdd (.int i) (.int j) M Q := h
theorem callP_i {P : List D → Hm → DK → DX → Prop} {Tr : DTA} {σ : SD} {M : Hm} {Q : DK} {E : DX} (h : Tr σ M (fun ds M1 => P ds M1 Q E) E) : wCallP P Tr σ M Q E := h
theorem pu_addt {A B : DTE} {σ : SD} {xs ys : List D} (h : Pu A σ (.tup xs)) (g : Pu B σ (.tup ys)) (hl : xs.length + ys.length ≤ LL) : Pu (w2 pAdd A B) σ (.tup (xs ++ ys)) := fun M Q E q => by
  rw [w2_s]
  refine h M _ _ (g M _ _ ?_)
  rw [pAdd_t]
  exact ⟨hl, q⟩
theorem for_i {T : DTI} {Gt : DTG} {B S : DTS} {K : DEn} {σ : SD} {M : Hm} (h : T σ M (fun xs st M1 => wLoop Gt B { nx := fun σ' M' => S K σ' M', rt := K.rt, ex := K.ex, bk := K.bk, ct := K.ct } st xs σ M1) (fun x M1 => K.ex x σ M1)) : wSeq (wFor T Gt B) S K σ M := h
theorem itv_i {T : DTE} {σ : SD} {M : Hm} {Q : List D → (Hm → Prop) → Hm → Prop} {E : DX} (h : T σ M (fun d M1 => dIter d M1 Q) E) : wItV T σ M Q E := h
theorem app_nil (q : Ro) : Ro.app .nil q = q := by rw [Ro.app, Ro.list, List.nil_append, of_list]
theorem app_cons (d : De) (r q : Ro) : Ro.app (.cons d r) q = .cons d (r.app q) := by rw [Ro.app, Ro.list, List.cons_append, Ro.of, Ro.app]
theorem pq_cons' (d : De) (r : Ro) (a b : Nat) : Ro.pq (.cons d r) a b = d.pq a (bg r (a + d.sz) b) ++ r.pq (a + d.sz) b := by
  cases r with
  | nil => simp [Ro.pq, bg]
  | cons e r => rw [Ro.pq]; simp [bg]
theorem bg_app (r q : Ro) (x b : Nat) : bg (r.app q) x b = bg r x (bg q (x + r.sz) b) := by
  cases r with
  | nil => rw [app_nil, Ro.sz]; rfl
  | cons d r => rw [app_cons]; rfl
theorem bg_end (q : Ro) (c : Nat) : bg q c (c + q.sz) = c := by cases q <;> simp [bg, Ro.sz]
theorem pq_app (q : Ro) : ∀ (r : Ro) (a b : Nat), (r.app q).pq a b = r.pq a (bg q (a + r.sz) b) ++ q.pq (a + r.sz) b
  | .nil, a, b => by rw [app_nil, Ro.sz, Ro.pq, List.nil_append]; rfl
  | .cons d r, a, b => by
    rw [app_cons, pq_cons', pq_app q r, pq_cons', bg_app, Ro.sz, ← Nat.add_assoc, List.append_assoc]
def sh3 (c : Nat) (x : De × Nat × Nat) : De × Nat × Nat := (x.1, x.2.1 + c, x.2.2 + c)
theorem bg_add (r : Ro) (x y c : Nat) : bg r (x + c) (y + c) = bg r x y + c := by cases r <;> rfl
mutual
theorem De.pq_sh (c : Nat) : ∀ (d : De) (a b : Nat), d.pq (a + c) (b + c) = (d.pq a b).map (sh3 c)
  | .whl x r, a, b => by
    rw [De.pq, De.pq, List.map_cons, show a + c + 1 = a + 1 + c by omega, Ro.pq_sh c r]; rfl
  | .ife x r s, a, b => by
    rw [De.pq, De.pq, List.map_cons, List.map_append, show a + c + 1 = a + 1 + c by omega, Ro.pq_sh c r, show a + 1 + c + r.sz = a + 1 + r.sz + c by omega, Ro.pq_sh c s]; rfl
  | .told x t, a, b => by rw [De.pq, De.pq]; rfl
  | .look s x y, a, b => by rw [De.pq, De.pq]; rfl
  | .two s x y z, a, b => by rw [De.pq, De.pq]; rfl
theorem Ro.pq_sh (c : Nat) : ∀ (r : Ro) (a b : Nat), r.pq (a + c) (b + c) = (r.pq a b).map (sh3 c)
  | .nil, a, b => by rw [Ro.pq, Ro.pq]; rfl
  | .cons d r, a, b => by
    rw [pq_cons', pq_cons', List.map_append, show a + c + d.sz = a + d.sz + c by omega, bg_add, De.pq_sh c d, Ro.pq_sh c r]
end
theorem to_sh (d : De) (a b c : Nat) (ns : List Th) : d.to (a + c) (b + c) ns = d.to a b ns + c := by
  cases d with
  | whl x r =>
    simp only [De.to, De.b0]
    split
    · rw [show a + c + 1 = a + 1 + c by omega, bg_add]
    · rfl
  | ife x r s =>
    simp only [De.to, De.b0, De.b1]
    split
    · rw [show a + c + 1 = a + 1 + c by omega, bg_add]
    · rw [show a + c + 1 + r.sz = a + 1 + r.sz + c by omega, bg_add]
  | _ => rfl
theorem pq_all (r q : Ro) : (r.app q).pq 0 (r.app q).sz = r.pq 0 r.sz ++ (q.pq 0 q.sz).map (sh3 r.sz) := by
  rw [pq_app, app_sz, Nat.zero_add, bg_end, ← Ro.pq_sh, Nat.zero_add, Nat.add_comm q.sz]
theorem at_left (r q : Ro) {i : Nat} (h : i < r.sz) : ((r.app q).pq 0 (r.app q).sz)[i]? = (r.pq 0 r.sz)[i]? := by
  rw [pq_all, List.getElem?_append_left (by rw [pq_len]; exact h)]
theorem at_right (r q : Ro) (i : Nat) : ((r.app q).pq 0 (r.app q).sz)[r.sz + i]? = ((q.pq 0 q.sz)[i]?).map (sh3 r.sz) := by
  rw [pq_all, List.getElem?_append_right (by rw [pq_len]; omega), pq_len, Nat.add_sub_cancel_left, List.getElem?_map]
theorem nx_left (r q : Ro) {s : St} (h : s.1 < r.sz) : nx (r.app q) s = nx r s ∧ gr (r.app q) s = gr r s := by
  unfold nx gr
  rw [at_left r q h]
  exact ⟨rfl, rfl⟩
theorem nx_right (r q : Ro) (p : Nat) (ns : List Th) : nx (r.app q) (r.sz + p, ns) = (r.sz + (nx q (p, ns)).1, (nx q (p, ns)).2) ∧ gr (r.app q) (r.sz + p, ns) = gr q (p, ns) := by
  unfold nx gr
  rw [at_right r q p]
  cases hx : (q.pq 0 q.sz)[p]? with
  | none => exact ⟨rfl, rfl⟩
  | some x =>
    simp only [Option.map_some, sh3]
    refine ⟨?_, True.intro⟩
    rw [to_sh, Nat.add_comm]
theorem st_left {r q : Ro} {s : St} {N : Nat} (p : Path r s N) : ∀ i, i ≤ N → st (r.app q) s i = st r s i
  | 0, _ => rfl
  | i + 1, h => by
    have ih := st_left (q := q) p i (by omega)
    show nx (r.app q) (st (r.app q) s i) = nx r (st r s i)
    rw [ih]
    exact (nx_left r q (p i (by omega)).1).1
theorem path_left {r q : Ro} {s : St} {N : Nat} (p : Path r s N) : Path (r.app q) s N := fun i hi => by
  rw [st_left p i (by omega)]
  have := p i hi
  exact ⟨by rw [app_sz]; omega, by rw [(nx_left r q this.1).2]; exact this.2⟩
theorem st_right (r q : Ro) (p : Nat) (ns : List Th) : ∀ i, st (r.app q) (r.sz + p, ns) i = (r.sz + (st q (p, ns) i).1, (st q (p, ns) i).2)
  | 0 => rfl
  | i + 1 => by
    show nx (r.app q) (st (r.app q) (r.sz + p, ns) i) = _
    rw [st_right r q p ns i]
    exact (nx_right r q _ _).1
theorem path_right {r q : Ro} {p : Nat} {ns : List Th} {m : Nat} (h : Path q (p, ns) m) : Path (r.app q) (r.sz + p, ns) m := fun i hi => by
  rw [st_right r q p ns i]
  have := h i hi
  refine ⟨by rw [app_sz]; show r.sz + _ < _; omega, ?_⟩
  rw [(nx_right r q _ _).2]
  exact this.2
def lineGo : List De → List Th → List Th
  | [], ns => ns
  | d :: ds, ns => lineGo ds (d.sets ns)
def lineFit : List De → List Th → Bool
  | [], _ => true
  | d :: ds, ns => !d.big ns && lineFit ds (d.sets ns)
theorem flat_pq {d : De} (h : d.looks = false) (a b : Nat) : d.pq a b = [(d, a, b)] ∧ d.sz = 1 := by
  cases d <;> first | (simp [De.looks] at h; done) | exact ⟨by rw [De.pq], by simp [De.sz]⟩
theorem line_one {d : De} (h : d.looks = false) (ns : List Th) : nx (.one d) (0, ns) = (1, d.sets ns) ∧ gr (.one d) (0, ns) = d.big ns := by
  have e : (Ro.one d).pq 0 (Ro.one d).sz = [(d, 0, 1)] := by
    rw [Ro.one, Ro.pq, Ro.sz, Ro.sz, (flat_pq h 0 0).2, (flat_pq h _ _).1]
  have ht : d.to 0 1 ns = 1 := by cases d <;> first | (simp [De.looks] at h; done) | rfl
  unfold nx gr
  rw [e]
  exact ⟨by simp [ht], by simp⟩
theorem st_more (r : Ro) (s : St) (n : Nat) : ∀ i, st r s (n + i) = st r (st r s n) i
  | 0 => rfl
  | i + 1 => by rw [← Nat.add_assoc, st, st_more r s n i, st]
theorem line : ∀ (ds : List De) (ns : List Th), (∀ d ∈ ds, d.looks = false) → lineFit ds ns = true → (Ro.of ds).sz = ds.length ∧ Path (Ro.of ds) (0, ns) ds.length ∧ st (Ro.of ds) (0, ns) ds.length = (ds.length, lineGo ds ns)
  | [], ns, _, _ => ⟨by simp [Ro.of, Ro.sz], fun i hi => absurd hi (by simp), rfl⟩
  | d :: ds, ns, h, hf => by
    rw [lineFit, Bool.and_eq_true] at hf
    have hd := h d List.mem_cons_self
    obtain ⟨i1, i2, i3⟩ := line ds (d.sets ns) (fun e he => h e (List.mem_cons_of_mem _ he)) hf.2
    have hb : d.big ns = false := by simpa using hf.1
    have eR : Ro.of (d :: ds) = (Ro.one d).app (Ro.of ds) := by rw [Ro.one, app_cons, app_nil, Ro.of]
    have z1 : (Ro.one d).sz = 1 := by rw [Ro.one, Ro.sz, Ro.sz, (flat_pq hd 0 0).2]
    have zz : (Ro.of (d :: ds)).sz = ds.length + 1 := by rw [Ro.of, Ro.sz, (flat_pq hd 0 0).2, i1]; omega
    have n0 := line_one hd ns
    have l0 := nx_left (Ro.one d) (Ro.of ds) (s := (0, ns)) (by rw [z1]; show 0 < 1; decide)
    have s1 : st (Ro.of (d :: ds)) (0, ns) 1 = (1 + 0, d.sets ns) := by
      rw [eR]; show nx _ (0, ns) = _
      rw [l0.1, n0.1]
    have so : ∀ i, st (Ro.of (d :: ds)) (0, ns) (1 + i) = (1 + (st (Ro.of ds) (0, d.sets ns) i).1, (st (Ro.of ds) (0, d.sets ns) i).2) := fun i => by
      rw [st_more, s1, eR]
      have := st_right (Ro.one d) (Ro.of ds) 0 (d.sets ns) i
      rw [z1] at this
      exact this
    refine ⟨by rw [zz]; rfl, fun i hi => ?_, ?_⟩
    · simp only [List.length_cons] at hi
      cases i with
      | zero =>
        show 0 < _ ∧ gr _ (0, ns) = false
        refine ⟨by rw [zz]; omega, ?_⟩
        rw [eR, l0.2, n0.2]; exact hb
      | succ i =>
        have := i2 i (by omega)
        rw [show i + 1 = 1 + i by omega, so]
        refine ⟨by rw [zz]; rw [i1] at this; have := this.1; show 1 + _ < _; omega, ?_⟩
        have g := (nx_right (Ro.one d) (Ro.of ds) (st (Ro.of ds) (0, d.sets ns) i).1 (st (Ro.of ds) (0, d.sets ns) i).2).2
        rw [z1] at g
        rw [eR, g]
        exact this.2
    · rw [List.length_cons, show ds.length + 1 = 1 + ds.length by omega, so, i3, lineGo]
theorem of_ok_all : ∀ ds : List De, (∀ d ∈ ds, d.ok) → (Ro.of ds).ok
  | [], _ => by rw [Ro.of, Ro.ok]; exact True.intro
  | d :: ds, h => by rw [Ro.of, Ro.ok]; exact ⟨h d List.mem_cons_self, of_ok_all ds fun e he => h e (List.mem_cons_of_mem _ he)⟩
theorem of_flat : ∀ ds : List De, (∀ d ∈ ds, d.looks = false) → (Ro.of ds).fl = 0 ∧ (Ro.of ds).sz = ds.length
  | [], _ => ⟨by rw [Ro.of, Ro.fl], by rw [Ro.of, Ro.sz]; rfl⟩
  | d :: ds, h => by
    obtain ⟨h1, h2⟩ := of_flat ds fun e he => h e (List.mem_cons_of_mem _ he)
    have hd := h d List.mem_cons_self
    rw [Ro.of, Ro.fl, Ro.sz, h1, h2]
    refine ⟨?_, by rw [(flat_pq hd 0 0).2, List.length_cons]; omega⟩
    cases d <;> first | (simp [De.looks] at hd; done) | simp [De.fl]
def pairedD : De := .two false 0 1 0
theorem paired_enc : pairedD.enc = .tup u_PAIRED := by rw [pairedD, De.enc]; rfl
def halfR (r : Ro) (t : Th) : Ro := .cons (.told 1 t) (.cons pairedD (.cons (.told 1 .nil) r))
theorem cleared_ok (n i : Nat) (M : Hm) (Q : DK) (E : DX) (h : Q (De.told i .nil).enc M) : G (n + 3) 0 .cleared_deed [.int i] M Q E := by
  rw [G_s, st_cleared_deed]
  unfold T_cleared_deed N_cleared_deed
  rw [wBody_s, wSeq_s, wRet_s]
  refine pu_tup (ds := [.str (tx "told"), .int i, enc .nil]) (pua_cons pu_c (pua_cons (pu_v rfl) (pua_cons (fun M Q E q => ?_) pua_nil))) (by show 3 ≤ LL; decide) _ _ _ ?_
  · simp
    exact mk_nil n M Q E q
  · rw [De.enc] at h
    exact now h
theorem half_ok (n : Nat) (r : Ro) (hr : r.ok) (hf : r.fl ≤ 8) (hz : r.sz ≤ 3990) (t : Th) (ht : t.plain = true) (tz : t.size ≤ 4000) (M : Hm) (Q : DK) (E : DX) (h : (halfR r t).ok → (halfR r t).fl = r.fl → (halfR r t).sz = r.sz + 3 → Q (halfR r t).prog M) : G (n + 28) 0 .half_given [r.prog, enc t] M Q E := by
  have h1 : (halfR r t).ok := by
    unfold halfR pairedD
    simp only [Ro.ok, De.ok]
    exact ⟨⟨by decide, ht, tz⟩, ⟨by decide, by decide, by decide⟩, ⟨by decide, rfl, by decide⟩, hr⟩
  have h2 : (halfR r t).fl = r.fl := by unfold halfR pairedD; simp [Ro.fl, De.fl]
  have h3 : (halfR r t).sz = r.sz + 3 := by unfold halfR pairedD; simp [Ro.sz, De.sz]; omega
  have h := h h1 h2 h3
  have eL : LL = 16777216 := rfl
  have hl := len_sz r
  rw [G_s, st_half_given]
  unfold T_half_given N_half_given
  rw [wBody_s, wSeq_s, wRet_s]
  refine call1_i (w2_i ?_)
  refine pu_tup (ds := [(De.told 1 t).enc, pairedD.enc, (De.told 1 .nil).enc]) (pua_cons ?_ (pua_cons ?_ (pua_cons ?_ pua_nil))) (by show 3 ≤ LL; decide) _ _ _ ?_
  · rw [De.enc]
    exact pu_tup (pua_cons pu_c (pua_cons pu_c (pua_cons (pu_v rfl) pua_nil))) (by show 3 ≤ LL; decide)
  · rw [paired_enc]; exact pu_c
  · exact fun M Q E q => call1_i (c_i (cleared_ok (n + 24) 1 M Q E q))
  · rw [wAttr_s]
    refine var_ok r.prog rfl ?_
    have e : ∀ {M : Hm} {Q : DK}, pAttr r.prog "deeds" M Q = Q (rowD r) M := by intro M Q; simp [Ro.prog]
    rw [e, rowD, pAdd_t]
    refine ⟨by rw [encs_len]; simp; omega, ?_⟩
    have e2 : [(De.told 1 t).enc, pairedD.enc, (De.told 1 .nil).enc] ++ r.encs = (halfR r t).encs := by simp [halfR, Ro.encs]
    rw [e2]
    refine mk_prog (n + 25) (halfR r t) h1 (by omega) (by omega) (by omega) _ _ _ (now h)
end K22
namespace K22
open DL
theorem stand_pure (p : Nat) (ns : List Th) (hs : "Stand" ∈ es0) : D.pure es0 (standD p ns) = true := by
  have : D.pures es0 (ns.map enc) = true := by
    induction ns with
    | nil => simp [D.pures]
    | cons t ns ih => simp [D.pures, encT_pure t, ih]
  simp [standD, D.pure, D.puref, fieldsOf, hs, this]
theorem names_pures (ns : List Th) : D.pures es0 (ns.map enc) = true := by
  induction ns with
  | nil => simp [D.pures]
  | cons t ns ih => simp [D.pures, encT_pure t, ih]
theorem names_dps (ns : List Th) : D.dps (ns.map enc) ≤ 4 := by
  induction ns with
  | nil => simp [D.dps]
  | cons t ns ih => simp [D.dps, encT_dp t]; omega
theorem stand_dp (p : Nat) (ns : List Th) : (standD p ns).dp ≤ 9 := by
  have := names_dps ns
  simp [standD, D.dp, D.dpf, selF]; omega
theorem eqs_enc : ∀ a b : List Th, D.eqs (a.map enc) (b.map enc) = D.eqs (a.map txD) (b.map txD)
  | [], [] => by simp [D.eqs]
  | [], _ :: _ => by simp [D.eqs]
  | _ :: _, [] => by simp [D.eqs]
  | t :: a, u :: b => by simp [D.eqs, enc_eq, txD, D.eq, eqs_enc a b]
theorem eqs_refl : ∀ a : List Th, D.eqs (a.map txD) (a.map txD) = true
  | [] => by simp [D.eqs]
  | t :: a => by simp [D.eqs, txD, D.eq, eqs_refl a]
theorem stand_eq (p q : Nat) (a b : List Th) : D.eq (standD p a) (standD q b) = (p == q && D.eqs (a.map txD) (b.map txD)) := by
  have e : ((p : Int) == (q : Int)) = (p == q) := by rw [Bool.eq_iff_iff]; simp; omega
  simp [standD, D.eq, D.eqf, selF, eqs_enc, e]
theorem tx_pures (ns : List Th) : D.pures es0 (ns.map txD) = true := by
  induction ns with
  | nil => simp [D.pures]
  | cons t ns ih => simp [D.pures, txD, D.pure, ih]
theorem tx_dps (ns : List Th) : D.dps (ns.map txD) = 0 := by
  induction ns with
  | nil => simp [D.dps]
  | cons t ns ih => simp [D.dps, txD, D.dp, ih]
theorem eqS (k : Nat) (p q : Nat) (a b : List Th) (M : Hm) (Q : DK) (hs : "Stand" ∈ es0) (hk : 9 ≤ k) (h : Q (.bl (p == q && D.eqs (a.map txD) (b.map txD))) M) : pEq es0 k false (standD p a) (standD q b) M Q :=
  .inl ⟨stand_pure p a hs, stand_pure q b hs, Nat.le_trans (stand_dp p a) hk, Nat.le_trans (stand_dp q b) hk, by rw [stand_eq]; simpa using h⟩
theorem neS (k : Nat) (p q : Nat) (a b : List Th) (M : Hm) (Q : DK) (hs : "Stand" ∈ es0) (hk : 9 ≤ k) (h : Q (.bl (!(p == q && D.eqs (a.map txD) (b.map txD)))) M) : pNe es0 k (standD p a) (standD q b) M Q :=
  .inl ⟨stand_pure p a hs, stand_pure q b hs, Nat.le_trans (stand_dp p a) hk, Nat.le_trans (stand_dp q b) hk, fun _ => rfl, by rw [stand_eq]; exact h⟩
/-- lists of texts -/
theorem eqTx (k : Nat) (hk : 0 < k) (x y : PySem.Addr) (a b : List Th) (M : Hm) (Q : DK) (hx : M x = some (.lst (a.map txD))) (hy : M y = some (.lst (b.map txD))) (h : Q (.bl (D.eqs (a.map txD) (b.map txD))) M) : pEq es0 k false (.ref x) (.ref y) M Q :=
  .inr ⟨x, y, a.map txD, b.map txD, rfl, rfl, hx, hy, tx_pures a, tx_pures b, by rw [tx_dps]; exact hk, by rw [tx_dps]; exact hk, by simpa using h⟩
theorem neTx (k : Nat) (x y : PySem.Addr) (a b : List Th) (M : Hm) (Q : DK) (hx : M x = some (.lst (a.map txD))) (hy : M y = some (.lst (b.map txD))) (h : Q (.bl (!D.eqs (a.map txD) (b.map txD))) M) : pNe es0 k (.ref x) (.ref y) M Q :=
  .inr ⟨x, y, a.map txD, b.map txD, rfl, rfl, hx, hy, tx_pures a, tx_pures b, by rw [tx_dps]; exact Nat.zero_le _, by rw [tx_dps]; exact Nat.zero_le _, h⟩
/-- the texts of things -/
theorem keyStand {gs : List (String × D)} (hp : D.pure es0 (.ins "Stand" gs) = true) : ∃ a b, gs = [("point", a), ("names", b)] ∧ D.pure es0 a = true ∧ D.pure es0 b = true := by
  obtain ⟨hm, hp⟩ := keyF hp
  match gs, hm, hp with
  | [(f1, a), (f2, b)], hm, hp =>
    simp [fieldsOf] at hm
    obtain ⟨rfl, rfl⟩ := hm
    simp only [D.puref, Bool.and_eq_true] at hp
    exact ⟨a, b, rfl, hp.1, hp.2.1⟩
  | [], hm, _ => simp [fieldsOf] at hm
  | [_], hm, _ => simp [fieldsOf] at hm
  | _ :: _ :: _ :: _, hm, _ => simp [fieldsOf] at hm
theorem eqlaw_Stand : ∀ (j : Nat) (ds : List D) (M : Hm) (Q : DK) (E : DX), spEq es0 "Stand" (j + 3) ds M Q E → G j 0 .Stand_deq ds M Q E := by
  rintro j ds M Q E ⟨fs, e, rfl, p1, p2, d1, d2, h⟩
  rw [dp_ins] at d1
  obtain ⟨j, rfl⟩ : ∃ i, j = i + 1 := ⟨j - 1, by omega⟩
  rw [G_s, st_Stand_deq]
  unfold T_Stand_deq N_Stand_deq
  obtain ⟨a1, a2, rfl, pa, pa2⟩ := keyStand p1
  simp [D.dpf, selF] at d1
  cases e with
  | ins c gs =>
    by_cases hc : c = "Stand"
    · subst hc
      obtain ⟨b1, b2, rfl, pb, pb2⟩ := keyStand p2
      simp [D.dp, D.dpf, selF] at d2
      simp [D.eq, D.eqf, selF] at h
      simp [wSeq_s, tyD, -Bool.exists_bool, -Prod.exists]
      refine .inl ⟨pa, pb, by omega, by omega, ?_⟩
      cases q : D.eq a1 b1
      · rw [q] at h
        simpa [-Bool.exists_bool] using now h
      · rw [q] at h
        simp [-Bool.exists_bool]
        exact .inl ⟨pa2, pb2, by omega, by omega, by simpa using now h⟩
    · have e0 : ("Stand" == c) = false := beq_eq_false_iff_ne.mpr (Ne.symm hc)
      simp [D.eq, e0] at h
      simp [wSeq_s, tyD, hc, -Bool.exists_bool, -Prod.exists]
      exact now h
  | ref b => simp [D.pure] at p2
  | ty n => simp [D.pure] at p2
  | non => simp [wSeq_s, tyD, -Bool.exists_bool, -Prod.exists, D.eq] at h ⊢; exact now h
  | bl b => simp [wSeq_s, tyD, -Bool.exists_bool, -Prod.exists, D.eq] at h ⊢; exact now h
  | int b => simp [wSeq_s, tyD, -Bool.exists_bool, -Prod.exists, D.eq] at h ⊢; exact now h
  | str b => simp [wSeq_s, tyD, -Bool.exists_bool, -Prod.exists, D.eq] at h ⊢; exact now h
  | tup b => simp [wSeq_s, tyD, -Bool.exists_bool, -Prod.exists, D.eq] at h ⊢; exact now h
theorem keyRun {gs : List (String × D)} (hp : D.pure es0 (.ins "Run" gs) = true) : ∃ a b c, gs = [("word", a), ("steps", b), ("thing", c)] ∧ D.pure es0 a = true ∧ D.pure es0 b = true ∧ D.pure es0 c = true := by
  obtain ⟨hm, hp⟩ := keyF hp
  match gs, hm, hp with
  | [(f1, a), (f2, b), (f3, c)], hm, hp =>
    simp [fieldsOf] at hm
    obtain ⟨rfl, rfl, rfl⟩ := hm
    simp only [D.puref, Bool.and_eq_true] at hp
    exact ⟨a, b, c, rfl, hp.1, hp.2.1, hp.2.2.1⟩
  | [], hm, _ => simp [fieldsOf] at hm
  | [_], hm, _ => simp [fieldsOf] at hm
  | [_, _], hm, _ => simp [fieldsOf] at hm
  | _ :: _ :: _ :: _ :: _, hm, _ => simp [fieldsOf] at hm
theorem eqlaw_Run : ∀ (j : Nat) (ds : List D) (M : Hm) (Q : DK) (E : DX), spEq es0 "Run" (j + 3) ds M Q E → G j 0 .Run_deq ds M Q E := by
  rintro j ds M Q E ⟨fs, e, rfl, p1, p2, d1, d2, h⟩
  rw [dp_ins] at d1
  obtain ⟨j, rfl⟩ : ∃ i, j = i + 1 := ⟨j - 1, by omega⟩
  rw [G_s, st_Run_deq]
  unfold T_Run_deq N_Run_deq
  obtain ⟨a1, a2, a3, rfl, pa, pa2, pa3⟩ := keyRun p1
  simp [D.dpf, selF] at d1
  cases e with
  | ins c gs =>
    by_cases hc : c = "Run"
    · subst hc
      obtain ⟨b1, b2, b3, rfl, pb, pb2, pb3⟩ := keyRun p2
      simp [D.dp, D.dpf, selF] at d2
      simp [D.eq, D.eqf, selF] at h
      simp [wSeq_s, tyD, -Bool.exists_bool, -Prod.exists]
      refine ⟨by decide, .inl ⟨by simp [D.pure, D.pures, pa, pa2, pa3], by simp [D.pure, D.pures, pb, pb2, pb3], by simp [D.dp, D.dps]; omega, by simp [D.dp, D.dps]; omega, ?_⟩⟩
      simpa [D.eq, D.eqs] using now h
    · have e0 : ("Run" == c) = false := beq_eq_false_iff_ne.mpr (Ne.symm hc)
      simp [D.eq, e0] at h
      simp [wSeq_s, tyD, hc, -Bool.exists_bool, -Prod.exists]
      exact now h
  | ref b => simp [D.pure] at p2
  | ty n => simp [D.pure] at p2
  | non => simp [wSeq_s, tyD, -Bool.exists_bool, -Prod.exists, D.eq] at h ⊢; exact now h
  | bl b => simp [wSeq_s, tyD, -Bool.exists_bool, -Prod.exists, D.eq] at h ⊢; exact now h
  | int b => simp [wSeq_s, tyD, -Bool.exists_bool, -Prod.exists, D.eq] at h ⊢; exact now h
  | str b => simp [wSeq_s, tyD, -Bool.exists_bool, -Prod.exists, D.eq] at h ⊢; exact now h
  | tup b => simp [wSeq_s, tyD, -Bool.exists_bool, -Prod.exists, D.eq] at h ⊢; exact now h
theorem keyFs {es : List String} {c : String} {gs : List (String × D)} (hp : D.pure es (.ins c gs) = true) : gs.map (·.1) = fieldsOf c ∧ D.puref es gs = true := by
  simp only [D.pure, Bool.and_eq_true, decide_eq_true_eq] at hp
  exact hp.2
mutual
theorem eq_symm (es : List String) : ∀ x y : D, D.pure es x = true → D.pure es y = true → D.eq x y = D.eq y x
  | .non, y, _, _ => by cases y <;> simp [D.eq]
  | .bl a, y, _, _ => by
    cases y <;> simp only [D.eq]
    · exact Bool.beq_comm
    · exact Bool.beq_comm
  | .int i, y, _, _ => by
    cases y <;> simp only [D.eq]
    · exact Bool.beq_comm
    · exact Bool.beq_comm
  | .str a, y, _, _ => by
    cases y <;> simp only [D.eq]
    exact Bool.beq_comm
  | .tup xs, y, h, g => by
    cases y <;> simp only [D.eq]
    simp only [D.pure] at h g
    exact eqs_symm es xs _ h g
  | .ins c fs, y, h, g => by
    cases y <;> simp only [D.eq]
    rename_i d gs
    by_cases e : c = d
    · subst e
      have h1 := keyFs h
      have g1 := keyFs g
      rw [eqf_symm es c fs gs (h1.1.trans g1.1.symm) h1.2 g1.2]
    · have h1 : (c == d) = false := beq_eq_false_iff_ne.mpr e
      have h2 : (d == c) = false := beq_eq_false_iff_ne.mpr (Ne.symm e)
      rw [h1, h2]; rfl
  | .ref a, y, h, _ => by simp [D.pure] at h
  | .ty a, y, h, _ => by simp [D.pure] at h
theorem eqs_symm (es : List String) : ∀ xs ys : List D, D.pures es xs = true → D.pures es ys = true → D.eqs xs ys = D.eqs ys xs
  | [], [], _, _ => rfl
  | [], _ :: _, _, _ => by simp [D.eqs]
  | _ :: _, [], _, _ => by simp [D.eqs]
  | x :: xs, y :: ys, h, g => by
    simp only [D.pures, Bool.and_eq_true] at h g
    simp only [D.eqs]
    rw [eq_symm es x y h.1 g.1, eqs_symm es xs ys h.2 g.2]
theorem eqf_symm (es : List String) (c : String) : ∀ fs gs : List (String × D), fs.map (·.1) = gs.map (·.1) → D.puref es fs = true → D.puref es gs = true → D.eqf c fs gs = D.eqf c gs fs
  | [], [], _, _, _ => rfl
  | [], _ :: _, h, _, _ => by simp at h
  | _ :: _, [], h, _, _ => by simp at h
  | (f, x) :: fs, (g, y) :: gs, h, a, b => by
    simp only [List.map_cons, List.cons.injEq] at h
    simp only [D.puref, Bool.and_eq_true] at a b
    obtain ⟨h1, h2⟩ := h
    subst h1
    simp only [D.eqf]
    rw [eqf_symm es c fs gs h2 a.2 b.2, eq_symm es x y a.1 b.1]
end
theorem entry_pure (x : De × Nat × Nat) : D.pure es0 (enP x) = true := by
  have := De.pure x.1
  simp [enP, De.entry, D.pure, D.pures, this]
theorem pl_pures (r : Ro) (a b : Nat) : D.pures es0 (r.pl a b) = true := by
  rw [Ro.pl_pq]
  induction r.pq a b with
  | nil => simp [D.pures]
  | cons x l ih => simp [D.pures, entry_pure x, ih]
theorem prog_eq (r q : Ro) : D.eq r.prog q.prog = D.eqs r.encs q.encs := by
  simp [Ro.prog, D.eq, D.eqf, selF, rowD]
theorem enc_same (t : Th) : D.eq (enc t) (enc t) = true := by rw [enc_eq]; simp
mutual
theorem De.same : ∀ d : De, D.eq d.enc d.enc = true
  | .told a t => by simp [De.enc, D.eq, D.eqs, enc_same t]
  | .look s a b => by simp [De.enc, D.eq, D.eqs]
  | .two s a b c => by simp [De.enc, D.eq, D.eqs]
  | .whl a r => by have := Ro.same r; simp [De.enc, D.eq, D.eqs, this]
  | .ife a r s => by have h1 := Ro.same r; have h2 := Ro.same s; simp [De.enc, D.eq, D.eqs, h1, h2]
theorem Ro.same : ∀ r : Ro, D.eqs r.encs r.encs = true
  | .nil => by simp [Ro.encs, D.eqs]
  | .cons d r => by have h1 := De.same d; have h2 := Ro.same r; simp [Ro.encs, D.eqs, h1, h2]
end
theorem row_symm (r q : Ro) : D.eqs r.encs q.encs = D.eqs q.encs r.encs := eqs_symm es0 _ _ (Ro.pure r) (Ro.pure q)
theorem keyProg {gs : List (String × D)} (hp : D.pure es0 (.ins "Program" gs) = true) : ∃ a b, gs = [("deeds", a), ("order", b)] ∧ D.pure es0 a = true ∧ D.pure es0 b = true := by
  obtain ⟨hm, hp⟩ := keyF hp
  match gs, hm, hp with
  | [(f1, a), (f2, b)], hm, hp =>
    simp [fieldsOf] at hm
    obtain ⟨rfl, rfl⟩ := hm
    simp only [D.puref, Bool.and_eq_true] at hp
    exact ⟨a, b, rfl, hp.1, hp.2.1⟩
  | [], hm, _ => simp [fieldsOf] at hm
  | [_], hm, _ => simp [fieldsOf] at hm
  | _ :: _ :: _ :: _, hm, _ => simp [fieldsOf] at hm
theorem eqlaw_Program : ∀ (j : Nat) (ds : List D) (M : Hm) (Q : DK) (E : DX), spEq es0 "Program" (j + 3) ds M Q E → G j 0 .Program_deq ds M Q E := by
  rintro j ds M Q E ⟨fs, e, rfl, p1, p2, d1, d2, h⟩
  rw [dp_ins] at d1
  obtain ⟨j, rfl⟩ : ∃ i, j = i + 1 := ⟨j - 1, by omega⟩
  rw [G_s, st_Program_deq]
  unfold T_Program_deq N_Program_deq
  obtain ⟨a1, a2, rfl, pa, pa2⟩ := keyProg p1
  simp [D.dpf, selF] at d1
  cases e with
  | ins c gs =>
    by_cases hc : c = "Program"
    · subst hc
      obtain ⟨b1, b2, rfl, pb, pb2⟩ := keyProg p2
      simp [D.dp, D.dpf, selF] at d2
      simp [D.eq, D.eqf, selF] at h
      simp [wSeq_s, tyD, -Bool.exists_bool, -Prod.exists]
      exact .inl ⟨pa, pb, by omega, by omega, by simpa using now h⟩
    · have e0 : ("Program" == c) = false := beq_eq_false_iff_ne.mpr (Ne.symm hc)
      simp [D.eq, e0] at h
      simp [wSeq_s, tyD, hc, -Bool.exists_bool, -Prod.exists]
      exact now h
  | ref b => simp [D.pure] at p2
  | ty n => simp [D.pure] at p2
  | non => simp [wSeq_s, tyD, -Bool.exists_bool, -Prod.exists, D.eq] at h ⊢; exact now h
  | bl b => simp [wSeq_s, tyD, -Bool.exists_bool, -Prod.exists, D.eq] at h ⊢; exact now h
  | int b => simp [wSeq_s, tyD, -Bool.exists_bool, -Prod.exists, D.eq] at h ⊢; exact now h
  | str b => simp [wSeq_s, tyD, -Bool.exists_bool, -Prod.exists, D.eq] at h ⊢; exact now h
  | tup b => simp [wSeq_s, tyD, -Bool.exists_bool, -Prod.exists, D.eq] at h ⊢; exact now h
/-- a program beside a list -/
theorem prog_list (k : Nat) (r : Ro) (a : PySem.Addr) (xs : List D) (M : Hm) (Q : DK) (E : DX) (hM : M a = some (.lst xs)) (h : Q (.bl false) M) : G (k + 1) 0 .Program_deq [r.prog, .ref a] M Q E := by
  rw [G_s, st_Program_deq]
  unfold T_Program_deq N_Program_deq
  simp [wSeq_s, tyD, hM, -Bool.exists_bool, -Prod.exists]
  exact now h
theorem pg_pure (hs : "Program" ∈ es0) (r : Ro) : D.pure es0 r.prog = true := by
  simp [Ro.prog, D.pure, D.puref, fieldsOf, hs, pl_pures, Ro.pure r, rowD]
theorem pg_dp (r : Ro) : r.prog.dp ≤ 10 + 2 * r.fl := by
  have := Ro.dp_le r
  simp [Ro.prog, D.dp, D.dpf, selF, rowD]; omega
theorem neP (k : Nat) (hs : "Program" ∈ es0) (r q : Ro) (hk : 26 ≤ k) (fr : r.fl ≤ 8) (fq : q.fl ≤ 8) (M : Hm) (Q : DK) (h : Q (.bl (!D.eqs r.encs q.encs)) M) : pNe es0 k r.prog q.prog M Q :=
  .inl ⟨pg_pure hs r, pg_pure hs q, Nat.le_trans (pg_dp r) (by omega), Nat.le_trans (pg_dp q) (by omega), fun _ => rfl, by rw [prog_eq]; exact h⟩
theorem eqP (k : Nat) (hs : "Program" ∈ es0) (r q : Ro) (hk : 26 ≤ k) (fr : r.fl ≤ 8) (fq : q.fl ≤ 8) (M : Hm) (Q : DK) (h : Q (.bl (D.eqs r.encs q.encs)) M) : pEq es0 k false r.prog q.prog M Q :=
  .inl ⟨pg_pure hs r, pg_pure hs q, Nat.le_trans (pg_dp r) (by omega), Nat.le_trans (pg_dp q) (by omega), by rw [prog_eq]; simpa using h⟩
theorem row_pure (r : Ro) : D.pure es0 (rowD r) = true := by simpa [rowD, D.pure] using Ro.pure r
theorem row_dp (r : Ro) : (rowD r).dp ≤ 6 + 2 * r.fl := by
  have := Ro.dp_le r
  simp [rowD, D.dp]; omega
theorem neRw (k : Nat) (r q : Ro) (hk : 22 ≤ k) (fr : r.fl ≤ 8) (fq : q.fl ≤ 8) (M : Hm) (Q : DK) (h : Q (.bl (!D.eqs r.encs q.encs)) M) : pNe es0 k (rowD r) (rowD q) M Q :=
  .inl ⟨row_pure r, row_pure q, Nat.le_trans (row_dp r) (by omega), Nat.le_trans (row_dp q) (by omega), fun h => (by cases h), by simpa [rowD, D.eq] using h⟩
theorem eqRw (k : Nat) (r q : Ro) (hk : 22 ≤ k) (fr : r.fl ≤ 8) (fq : q.fl ≤ 8) (M : Hm) (Q : DK) (h : Q (.bl (D.eqs r.encs q.encs)) M) : pEq es0 k false (rowD r) (rowD q) M Q :=
  .inl ⟨row_pure r, row_pure q, Nat.le_trans (row_dp r) (by omega), Nat.le_trans (row_dp q) (by omega), by simpa [rowD, D.eq] using h⟩
theorem neBB (k : Nat) (a b : Bool) (M : Hm) (Q : DK) (h : Q (.bl (!(a == b))) M) : pNe es0 k (.bl a) (.bl b) M Q := by
  simpa [pNe, D.pure, D.dp, D.eq, D.isIns] using h
end K22
namespace K22
open DL
def oD (o : Option Th) : D := match o with
  | some t => enc t | none => .non
def runO (w : String) (n : Nat) (o : Option Th) : D := runD w n (oD o)
def wOk (w : String) : Prop := w = "ended" ∨ w = "great" ∨ w = "open"
theorem at_word {w : String} {n : Nat} {t : D} {M : Hm} {Q : DK} : pAttr (runD w n t) "word" M Q = Q (.str (tx w)) M := by simp [runD]
theorem at_steps {w : String} {n : Nat} {t : D} {M : Hm} {Q : DK} : pAttr (runD w n t) "steps" M Q = Q (.int n) M := by simp [runD]
theorem at_thing {w : String} {n : Nat} {t : D} {M : Hm} {Q : DK} : pAttr (runD w n t) "thing" M Q = Q t M := by simp [runD]
theorem oD_ok (o : Option Th) : D.pure es0 (oD o) = true ∧ (oD o).dp ≤ 4 ∧ D.eq (oD o) (oD o) = true := by
  cases o with
  | none => exact ⟨rfl, by simp [oD, D.dp], by simp [oD, D.eq]⟩
  | some t => exact ⟨encT_pure t, by rw [oD, encT_dp]; exact Nat.le_refl _, by rw [oD, enc_eq]; simp⟩
theorem runO_pure (hs : "Run" ∈ es0) (w : String) (n : Nat) (o : Option Th) : D.pure es0 (runO w n o) = true := by
  simp [runO, runD, D.pure, D.puref, fieldsOf, hs, (oD_ok o).1]
theorem runO_dp (w : String) (n : Nat) (o : Option Th) : (runO w n o).dp ≤ 8 := by
  have := (oD_ok o).2.1
  simp [runO, runD, D.dp, D.dpf, selF]; omega
theorem runO_same (w : String) (n : Nat) (o : Option Th) : D.eq (runO w n o) (runO w n o) = true := by
  simp [runO, runD, D.eq, D.eqf, selF, (oD_ok o).2.2]
theorem neRO (k : Nat) (hs : "Run" ∈ es0) (w : String) (n : Nat) (o : Option Th) (M : Hm) (Q : DK) (hk : 8 ≤ k) (h : Q (.bl false) M) : pNe es0 k (runO w n o) (runO w n o) M Q :=
  .inl ⟨runO_pure hs w n o, runO_pure hs w n o, Nat.le_trans (runO_dp w n o) hk, Nat.le_trans (runO_dp w n o) hk, fun _ => rfl, by rw [runO_same]; exact h⟩
theorem eqRO (k : Nat) (hs : "Run" ∈ es0) (w : String) (n : Nat) (o : Option Th) (M : Hm) (Q : DK) (hk : 8 ≤ k) (h : Q (.bl true) M) : pEq es0 k false (runO w n o) (runO w n o) M Q :=
  .inl ⟨runO_pure hs w n o, runO_pure hs w n o, Nat.le_trans (runO_dp w n o) hk, Nat.le_trans (runO_dp w n o) hk, by rw [runO_same]; exact h⟩
/-- where the stands stop -/
def Stops (r : Ro) (s : St) (many N : Nat) : Prop := r.sz ≤ (st r s N).1 ∨ N + 1 = many ∨ ((st r s N).1 < r.sz ∧ gr r (st r s N) = true)
theorem path_ex (r : Ro) (s : St) : ∀ m : Nat, ∃ N, N + 1 ≤ m + 1 ∧ Path r s N ∧ Stops r s (m + 1) N
  | 0 => ⟨0, by omega, fun i hi => absurd hi (Nat.not_lt_zero i), .inr (.inl rfl)⟩
  | m + 1 => by
    obtain ⟨N, h1, h2, h3⟩ := path_ex r s m
    rcases h3 with h3 | h3 | h3
    · exact ⟨N, by omega, h2, .inl h3⟩
    · rcases Nat.lt_or_ge (st r s N).1 r.sz with q | q
      · cases g : gr r (st r s N) with
        | true => exact ⟨N, by omega, h2, .inr (.inr ⟨q, g⟩)⟩
        | false =>
          refine ⟨N + 1, by omega, fun i hi => ?_, .inr (.inl (by omega))⟩
          rcases Nat.lt_or_ge i N with z | z
          · exact h2 i z
          · obtain rfl : i = N := by omega
            exact ⟨q, g⟩
      · exact ⟨N, by omega, h2, .inl q⟩
    · exact ⟨N, by omega, h2, .inr (.inr h3)⟩
theorem path_le {r : Ro} {s : St} {N m : Nat} (p : Path r s N) (h : m ≤ N) : Path r s m := fun i hi => p i (by omega)
theorem ends_ex (r : Ro) (s : St) (b : Nat) : ∃ N res, N ≤ b ∧ Path r s N ∧ Ends r s b N res := by
  obtain ⟨N, h1, h2, h3⟩ := path_ex r s b
  rcases Nat.lt_or_ge (st r s N).1 r.sz with q | q
  · rcases Nat.lt_or_ge N b with z | z
    · rcases h3 with h3 | h3 | h3
      · omega
      · omega
      · exact ⟨N, _, by omega, h2, .inr (.inl ⟨q, z, h3.2, rfl⟩)⟩
    · exact ⟨N, _, by omega, h2, .inr (.inr ⟨q, by omega, rfl⟩)⟩
  · exact ⟨N, _, by omega, h2, .inl ⟨q, rfl⟩⟩
def Out (r : Ro) (s : St) (b N : Nat) (w : String) (o : Option Th) : Prop := (r.sz ≤ (st r s N).1 ∧ w = "ended" ∧ o = some (nth (st r s N).2 0)) ∨ ((st r s N).1 < r.sz ∧ N < b ∧ gr r (st r s N) = true ∧ w = "great" ∧ o = none) ∨ ((st r s N).1 < r.sz ∧ N = b ∧ w = "open" ∧ o = none)
theorem Out.ends {r : Ro} {s : St} {b N : Nat} {w : String} {o : Option Th} (h : Out r s b N w o) : Ends r s b N (runO w N o) := by
  rcases h with ⟨h1, rfl, rfl⟩ | ⟨h1, h2, h3, rfl, rfl⟩ | ⟨h1, h2, rfl, rfl⟩
  · exact .inl ⟨h1, rfl⟩
  · exact .inr (.inl ⟨h1, h2, h3, rfl⟩)
  · subst h2
    exact .inr (.inr ⟨h1, rfl, rfl⟩)
theorem Out.word {r : Ro} {s : St} {b N : Nat} {w : String} {o : Option Th} (h : Out r s b N w o) : wOk w := by
  rcases h with ⟨h1, rfl, rfl⟩ | ⟨h1, h2, h3, rfl, rfl⟩ | ⟨h1, h2, rfl, rfl⟩
  · exact .inl rfl
  · exact .inr (.inl rfl)
  · exact .inr (.inr rfl)
theorem out_ex (r : Ro) (s : St) (b : Nat) : ∃ N w o, N ≤ b ∧ Path r s N ∧ Out r s b N w o := by
  obtain ⟨N, h1, h2, h3⟩ := path_ex r s b
  rcases Nat.lt_or_ge (st r s N).1 r.sz with q | q
  · rcases Nat.lt_or_ge N b with z | z
    · rcases h3 with h3 | h3 | h3
      · omega
      · omega
      · exact ⟨N, _, _, by omega, h2, .inr (.inl ⟨q, z, h3.2, rfl, rfl⟩)⟩
    · exact ⟨N, _, _, by omega, h2, .inr (.inr ⟨q, by omega, rfl, rfl⟩)⟩
  · exact ⟨N, _, _, by omega, h2, .inl ⟨q, rfl, rfl⟩⟩
theorem out_lift {R q : Ro} {s0 : St} {c n : Nat} {ns : List Th} {B N : Nat} {w : String} {o : Option Th} (hsz : R.sz = c + q.sz) (hs : ∀ i, st R s0 (n + i) = (c + (st q (0, ns) i).1, (st q (0, ns) i).2)) (hg : ∀ i, gr R (st R s0 (n + i)) = gr q (st q (0, ns) i)) (h : Out q (0, ns) B N w o) : Out R s0 (n + B) (n + N) w o := by
  rcases h with ⟨h1, h2, h3⟩ | ⟨h1, h2, h3, h4, h5⟩ | ⟨h1, h2, h3, h4⟩
  · refine .inl ⟨by rw [hs N, hsz]; show c + q.sz ≤ c + _; omega, h2, ?_⟩
    rw [hs N]; exact h3
  · exact .inr (.inl ⟨by rw [hs N, hsz]; show c + _ < c + _; omega, by omega, by rw [hg N]; exact h3, h4, h5⟩)
  · exact .inr (.inr ⟨by rw [hs N, hsz]; show c + _ < c + _; omega, by omega, h3, h4⟩)
/-- what goes on behind a straight row -/
theorem line_behind (ds : List De) (q : Ro) (ns : List Th) (hd : ∀ d ∈ ds, d.looks = false) (hf : lineFit ds ns = true) : ((Ro.of ds).app q).sz = ds.length + q.sz ∧ (∀ i, st ((Ro.of ds).app q) (0, ns) (ds.length + i) = (ds.length + (st q (0, lineGo ds ns) i).1, (st q (0, lineGo ds ns) i).2)) ∧ (∀ i, gr ((Ro.of ds).app q) (st ((Ro.of ds).app q) (0, ns) (ds.length + i)) = gr q (st q (0, lineGo ds ns) i)) ∧ ∀ N, Path q (0, lineGo ds ns) N → Path ((Ro.of ds).app q) (0, ns) (ds.length + N) := by
  obtain ⟨z, p, e⟩ := line ds ns hd hf
  have hs : ∀ i, st ((Ro.of ds).app q) (0, ns) (ds.length + i) = (ds.length + (st q (0, lineGo ds ns) i).1, (st q (0, lineGo ds ns) i).2) := fun i => by
    rw [st_more, st_left p ds.length (Nat.le_refl _), e]
    have := st_right (Ro.of ds) q 0 (lineGo ds ns) i
    rw [z] at this
    exact this
  have hg : ∀ i, gr ((Ro.of ds).app q) (st ((Ro.of ds).app q) (0, ns) (ds.length + i)) = gr q (st q (0, lineGo ds ns) i) := fun i => by
    rw [hs]
    have := (nx_right (Ro.of ds) q (st q (0, lineGo ds ns) i).1 (st q (0, lineGo ds ns) i).2).2
    rw [z] at this
    exact this
  refine ⟨by rw [app_sz, z], hs, hg, fun N hp i hi => ?_⟩
  rcases Nat.lt_or_ge i ds.length with h | h
  · rw [st_left p i (Nat.le_of_lt h)]
    have l := nx_left (Ro.of ds) q (s := st (Ro.of ds) (0, ns) i) (p i h).1
    exact ⟨by rw [app_sz, z]; have := (p i h).1; rw [z] at this; omega, by rw [l.2]; exact (p i h).2⟩
  · obtain ⟨j, rfl⟩ : ∃ j, i = ds.length + j := ⟨i - ds.length, by omega⟩
    have := hp j (by omega)
    rw [hg, hs]
    exact ⟨by rw [app_sz, z]; show _ + _ < _; omega, this.2⟩
def halfL (t : Th) : List De := [.told 1 t, pairedD, .told 1 .nil]
theorem half_as (r : Ro) (t : Th) : halfR r t = (Ro.of (halfL t)).app r := by
  rw [halfR, halfL, Ro.of, Ro.of, Ro.of, Ro.of, app_cons, app_cons, app_cons, app_nil]
theorem half_line (t x : Th) (h : t.size + x.size ≤ 3900) : lineFit (halfL t) (x :: nine) = true ∧ lineGo (halfL t) (x :: nine) = Th.pair t x :: nine := by
  refine ⟨?_, rfl⟩
  simp [halfL, pairedD, lineFit, De.big, De.val, De.sets, De.looks, De.a, nth, nine, Th.size]
  omega
theorem halfL_flat (t : Th) : ∀ d ∈ halfL t, d.looks = false := by
  intro d hd
  simp only [halfL, pairedD, List.mem_cons, List.not_mem_nil, or_false] at hd
  rcases hd with rfl | rfl | rfl <;> rfl
theorem half_is (r : Ro) (hr : r.ok) (t : Th) (ht : t.plain = true) (tz : t.size ≤ 4000) : (halfR r t).ok ∧ (halfR r t).fl = r.fl ∧ (halfR r t).sz = r.sz + 3 := by
  refine ⟨?_, ?_, ?_⟩
  · unfold halfR pairedD
    simp only [Ro.ok, De.ok]
    exact ⟨⟨by decide, ht, tz⟩, ⟨by decide, by decide, by decide⟩, ⟨by decide, rfl, by decide⟩, hr⟩
  · unfold halfR pairedD; simp [Ro.fl, De.fl]
  · unfold halfR pairedD; simp [Ro.sz, De.sz]; omega
theorem half_run (n : Nat) (r : Ro) (hr : r.ok) (hz : r.sz ≤ 3900) (t : Th) (tp : t.plain = true) (x : Th) (hs : t.size + x.size ≤ 3900) (b N : Nat) (w : String) (o : Option Th) (hb : b ≤ 900000) (hN : N ≤ b) (p : Path r (0, Th.pair t x :: nine) N) (ho : Out r (0, Th.pair t x :: nine) b N w o) (M : Hm) (Q : DK) (E : DX) (h : Q (runO w (3 + N) o) M) : G (n + 7) 0 .run [(halfR r t).prog, enc x, .int (3 + b : Nat)] M Q E := by
  obtain ⟨o1, o2, o3⟩ := half_is r hr t tp (by omega)
  obtain ⟨l1, l2⟩ := half_line t x hs
  have lb := line_behind (halfL t) r (x :: nine) (halfL_flat t) l1
  rw [l2, ← half_as, show (halfL t).length = 3 from rfl] at lb
  obtain ⟨b1, b2, b3, b4⟩ := lb
  exact run_ok n (halfR r t) o1 (by omega) x (by omega) (3 + b) (3 + N) (by omega) (by omega) (b4 N p) (runO w (3 + N) o) (out_lift b1 b2 b3 ho).ends M Q E h
/-- what a half does, told of the whole -/
theorem half_out {r : Ro} {t x : Th} (hs : t.size + x.size ≤ 3900) {b N : Nat} {w : String} {o : Option Th} (p : Path r (0, Th.pair t x :: nine) N) (ho : Out r (0, Th.pair t x :: nine) b N w o) : Path (halfR r t) (0, x :: nine) (3 + N) ∧ Out (halfR r t) (0, x :: nine) (3 + b) (3 + N) w o := by
  obtain ⟨l1, l2⟩ := half_line t x hs
  have lb := line_behind (halfL t) r (x :: nine) (halfL_flat t) l1
  rw [l2, ← half_as, show (halfL t).length = 3 from rfl] at lb
  obtain ⟨b1, b2, b3, b4⟩ := lb
  exact ⟨b4 N p, out_lift b1 b2 b3 ho⟩
theorem out_line (ds : List De) (ns : List Th) (hd : ∀ d ∈ ds, d.looks = false) (hf : lineFit ds ns = true) (b : Nat) : Path (Ro.of ds) (0, ns) ds.length ∧ Out (Ro.of ds) (0, ns) b ds.length "ended" (some (nth (lineGo ds ns) 0)) := by
  obtain ⟨z, p, e⟩ := line ds ns hd hf
  exact ⟨p, .inl ⟨by rw [e, z]; exact Nat.le_refl _, rfl, by rw [e]⟩⟩
theorem run_nat {n : Nat} {i : Int} (e : i = (n : Int)) {g : DSp} {a b : D} {M : Hm} {Q : DK} {E : DX} (h : g [a, b, .int n] M Q E) : g [a, b, .int i] M Q E := by rw [e]; exact h
theorem g_ow {w : String} {n : Nat} {o : Option Th} {M : Hm} {Q : DK} (h : Q (.str (tx w)) M) : pAttr (runO w n o) "word" M Q := by rw [runO, at_word]; exact h
theorem g_os {w : String} {n : Nat} {o : Option Th} {M : Hm} {Q : DK} (h : Q (.int n) M) : pAttr (runO w n o) "steps" M Q := by rw [runO, at_steps]; exact h
theorem g_ot {w : String} {n : Nat} {o : Option Th} {M : Hm} {Q : DK} (h : Q (oD o) M) : pAttr (runO w n o) "thing" M Q := by rw [runO, at_thing]; exact h
theorem g_pd {r : Ro} {M : Hm} {Q : DK} (h : Q (rowD r) M) : pAttr r.prog "deeds" M Q := by
  have e : pAttr r.prog "deeds" M Q = Q (rowD r) M := by simp [Ro.prog]
  rw [e]; exact h
end K22
namespace K22
open DL
local macro_rules | `(tactic| walk_at "w") => `(tactic| first
  | ((with_reducible refine DL.g_varE ?_); refine ⟨_, rfl, ?_⟩)
  | ((with_reducible refine DL.g_setE (τ := ?wtau) ?wte ?wtg); (case wte => (try simp only [List.set_cons_succ, List.set_cons_zero, DL.setAll, DL.wipeD, List.foldl_cons, List.foldl_nil]); try rfl))
  | ((with_reducible refine DL.g_unp ?_ ?_); (· rfl))
  | ((with_reducible refine DL.g_augE ?_); refine ⟨_, rfl, ?_⟩)
  | ((with_reducible refine DL.g_body ?wtau ?wte ?wtg); (case wte => simp only [DL.startD_s, List.map_cons, List.map_nil, List.length_cons, List.length_nil, List.cons_append, List.nil_append, List.replicate, Nat.reduceAdd, Nat.reduceSub]; try rfl))
  | ((with_reducible refine DL.g_le ?_ ?_); (· exact Nat.le_of_ble_eq_true rfl))
  | ((with_reducible refine DL.g_call_r ?wl1 ?wl2 ?wxs ?wl3 ?wg); (case wl1 => rfl); (case wl2 => rfl); (case wl3 => simp only [DL.arD_s, List.map_cons, List.map_nil, List.cons_append, List.nil_append, List.getD_cons_zero, List.getD_cons_succ]; try rfl))
  | ((with_reducible refine DL.g_meth_r ?wl1 ?wxs ?wl3 ?wg); (case wl1 => rfl); (case wl3 => simp only [DL.arD_s, List.map_cons, List.map_nil, List.cons_append, List.nil_append, List.getD_cons_zero, List.getD_cons_succ]; try rfl))
  | with_reducible first
    | refine DL.g_c ?_ | refine DL.g_2 ?_ | refine DL.g_cons ?_ | refine DL.g_nil ?_ | refine DL.g_asg ?_ | refine DL.g_call1 ?_ | refine DL.g_call2 ?_ | refine DL.g_call3 ?_ | refine DL.g_call0 ?_ | refine DL.g_call4 ?_ | refine DL.g_call5 ?_
    | refine DL.g_att ?_ | refine DL.g_callP ?_ | refine DL.g_if ?_ | refine DL.g_B ?_ | refine DL.g_And ?_ | refine DL.g_Or ?_ | refine DL.g_Not ?_ | refine DL.g_bl ?_ | refine DL.g_int ?_ | refine DL.g_ifnt ?_ | refine DL.g_ifnf ?_ | refine DL.g_ift ?_ | refine DL.g_iff ?_
    | refine DL.g_AndV ?_ | refine DL.g_OrV ?_ | refine DL.g_NotV ?_ | refine DL.g_Ite ?_ | refine DL.g_tup ?_ | refine DL.g_lst ?_ | refine DL.g_isi ?_ | refine DL.g_sl ?_ | refine DL.g_no ?_ | refine DL.g_part ?_ | refine DL.g_mt ?_ | refine DL.g_mt0 ?_ | refine DL.g_neg ?_ | refine DL.g_fmt ?_ | refine DL.g_meth ?_
    | refine DL.g_asgN ?_ | refine DL.g_asgL ?_ | refine DL.g_asgS ?_ | refine DL.g_ret ?_ | refine DL.g_retN ?_ | refine DL.g_drop ?_ | refine DL.g_skip ?_ | refine DL.g_seqskip ?_ | refine DL.g_brk ?_ | refine DL.g_cnt ?_ | refine DL.g_for ?_ | refine DL.g_par ?_ | refine DL.g_par_r ?_ | refine DL.g_raise ?_ | refine DL.g_try0 ?_
    | refine DL.g_addi ?_ | refine DL.g_subi ?_ | refine DL.g_iaddi ?_ | refine DL.g_cmpi ?_ | refine DL.g_is_i ?_ | refine DL.g_not_i ?_ | refine DL.g_is_n ?_ | refine DL.g_not_n ?_ | refine DL.g_is_e ?_ | refine DL.g_not_e ?_ | refine DL.g_is_r ?_ | refine DL.g_not_r ?_ | refine DL.g_is_t ?_ | refine DL.g_not_t ?_ | refine DL.g_is_s ?_ | refine DL.g_not_s ?_ | refine DL.g_is_c ?_ | refine DL.g_not_c ?_ | refine DL.g_isN ?_ | refine DL.g_notN ?_ | refine DL.g_eqii ?_ | refine DL.g_eqss ?_ | refine DL.g_neii ?_ | refine DL.g_ness ?_ | refine DL.g_isB ?_ | refine DL.g_notB ?_ | refine DL.g_isBN ?_ | refine DL.g_notBN ?_
    | refine DL.g_lenT ?_ | refine DL.g_itv ?_ | refine DL.g_itT ?_ | refine DL.g_rng1 ?_ | refine DL.g_atM ?_ | refine DL.g_atT ?_ | refine DL.g_maxi ?_ | refine DL.g_mini ?_ | refine DL.g_comp ?_ | refine DL.g_slT ?_ | refine DL.g_intb ?_ | refine DL.g_inti ?_ | refine DL.g_call ?_)
local macro_rules | `(tactic| walk_at "w") => `(tactic| with_reducible first | refine g_ow ?_ | refine g_os ?_ | refine g_ot ?_)
local macro_rules | `(tactic| walk_at "w") => `(tactic| with_reducible first | refine g_pd ?_)
theorem subB_trans {p : PySem.Addr} {M N O : Hm} (h : SubB p M N) (g : SubB p N O) : SubB p M O := fun a m ne e => g a m ne (h a m ne e)
theorem sub_subB {p : PySem.Addr} {M N : Hm} (S : DL.Sub M N) : SubB p M N := fun a m _ e => S a m e
theorem bag_sub {M N : Hm} {p : PySem.Addr} {l : List D} (B : Bag M p l) (S : DL.Sub M N) : Bag N p l := ⟨S _ _ B.at_, B.ex⟩
theorem take_i (k : Nat) (p : PySem.Addr) (l : List D) (m : Int) (h0 : 0 < m) (h1 : m < 1000000000) (M : Hm) (Q : DK) (E : DX) (B : Bag M p l)
    (h : ∀ (c : Nat) l' M', (c : Int) < m → Bag M' p l' → SubB p M M' → Q (.int c) M') : G (k + 1) 0 .law_take [.ref p, .int m] M Q E :=
  take_ok k p l m h0 h1 M Q E B fun d l' d0 d1 B' => by
    obtain ⟨c, rfl⟩ : ∃ j : Nat, d = j := ⟨d.toNat, by omega⟩
    exact h c l' _ d1 B' (fun a o ne e => by rw [mup_ne ne]; exact e)
theorem thing_i (k : Nat) (p : PySem.Addr) (l : List D) (n : Nat) (hn : n ≤ 4000) (M : Hm) (Q : DK) (E : DX) (B : Bag M p l)
    (h : ∀ (t : Th) l' M', t.size = n → t.plain = true → Bag M' p l' → SubB p M M' → Q (enc t) M') : G (k + 3) 0 .law_thing [.ref p, .int n] M Q E :=
  thing_ok k p l n hn M Q E B fun t l' z1 z2 B' => h t l' _ z1 z2 B' (fun a o ne e => by rw [mup_ne ne]; exact e)
theorem bag_i (k : Nat) (a : PySem.Addr) (ns : List Int) (i : Nat) (hi : i < 1000) (M : Hm) (Q : DK) (E : DX) (hM : M a = some (.frl (ns.map .int)))
    (h : ∀ p l M', Bag M' p l → M p = none → DL.Sub M M' → Q (.ref p) M') : G (k + 1) 0 .law_bag [.ref a, .int i] M Q E :=
  bag_ok k a ns i hi M Q E hM fun p l hp B => h p l _ B hp (sub_mup Sub.rfl' hp)
theorem subB_sub {p : PySem.Addr} {M N O : Hm} (hp : M p = none) (S : DL.Sub M N) (h : SubB p N O) : DL.Sub M O := fun b m e => h b m (ne_none e hp) (S b m e)
theorem int_i {n : Nat} {i : Int} (e : i = (n : Int)) {g : DSp} {a : D} {M : Hm} {Q : DK} {E : DX} (h : g [a, .int n] M Q E) : g [a, .int i] M Q E := by rw [e]; exact h
theorem step_st (k : Nat) (r : Ro) (hr : r.ok) (hz : r.sz ≤ 4000) (s : St) (lt : s.1 < r.sz) (f : Fit s.2) (g : gr r s = false) (M : Hm) (Q : DK) (E : DX) (h : Q (standD (nx r s).1 (nx r s).2) M) : G (k + 6) 0 .step [r.prog, standD s.1 s.2] M Q E := by
  obtain ⟨x, hx, hd, e1, e2⟩ := at_pt hr lt
  rw [e1] at h
  exact step_ok k r hz s.1 x hx hd s.2 f.len (by rw [← e2]; exact g) M Q E h
theorem fit_in {t : Th} (ht : t.size ≤ 4000) : Fit (t :: nine) := ⟨rfl, fun u hu => by
    rcases List.mem_cons.mp hu with rfl | hu
    · exact ht
    · rw [List.eq_of_mem_replicate hu]; exact Nat.zero_le _⟩
theorem stood_loop (k : Nat) (r : Ro) (hr : r.ok) (hz : r.sz ≤ 4000) (s : St) (hf : Fit s.2) (N : Nat) (p : Path r s N) (o0 o1 o2 : D) (e0 : o0 = r.prog) (K : DEn) : ∀ (xs : List D) (j : Nat) (o4 : Option D) (M : Hm), j + xs.length = N →
    (∀ o4 M', DL.Sub M M' → K.nx [some o0, some o1, some o2, some (standD (st r s N).1 (st r s N).2), o4] M') → wLoop (wName 4) (B_law_stood_0 (G (k + 7)) (k + 7)) K (fun _ => True) xs [some o0, some o1, some o2, some (standD (st r s j).1 (st r s j).2), o4] M
  | [], j, o4, M, hj, h => by
    simp at hj; subst hj
    exact ⟨True.intro, h o4 M Sub.rfl'⟩
  | x :: xs, j, o4, M, hj, h => by
    simp at hj
    rw [wLoop_c]
    refine ⟨True.intro, ?_⟩
    rw [wName_s]
    show B_law_stood_0 (G (k + 7)) (k + 7) _ [some o0, some o1, some o2, some (standD (st r s j).1 (st r s j).2), some x] M
    unfold B_law_stood_0
    repeat walk_at "w"
    subst e0
    refine step_st (k + 1) r hr hz (st r s j) (p j (by omega)).1 (path_fit hr hf p j (by omega)) (p j (by omega)).2 _ _ _ ?_
    repeat walk_at "w"
    exact now (stood_loop k r hr hz s hf N p _ o1 o2 rfl K xs (j + 1) _ M (by omega) h)
theorem stood_ok (k : Nat) (r : Ro) (hr : r.ok) (hz : r.sz ≤ 4000) (t : Th) (ht : t.size ≤ 4000) (N : Nat) (hN : N ≤ 1000) (p : Path r (0, t :: nine) N) (M : Hm) (Q : DK) (E : DX) (h : ∀ M', DL.Sub M M' → Q (standD (st r (0, t :: nine) N).1 (st r (0, t :: nine) N).2) M') : G (k + 8) 0 .law_stood [r.prog, enc t, .int N] M Q E := by
  rw [G_s, st_law_stood]
  unfold T_law_stood N_law_stood
  have eR : R62 = 4611686018427387904 := rfl
  repeat walk_at "w"
  refine begin_ok (k + 4) _ t _ _ _ ?_
  repeat walk_at "w"
  refine ⟨N, rfl, by omega, by omega, ?_⟩
  refine stood_loop k r hr hz (0, t :: nine) (fit_in ht) N p r.prog (enc t) (.int N) rfl _ _ 0 none M (by simp [intsFrom]) (fun o4 M' S => ?_)
  refine g_nx ?_
  repeat walk_at "w"
  exact now (h M' S)
end K22
namespace K22
open DL
local macro_rules | `(tactic| walk_at "w") => `(tactic| first
  | ((with_reducible refine DL.g_varE ?_); refine ⟨_, rfl, ?_⟩)
  | ((with_reducible refine DL.g_setE (τ := ?wtau) ?wte ?wtg); (case wte => (try simp only [List.set_cons_succ, List.set_cons_zero, DL.setAll, DL.wipeD, List.foldl_cons, List.foldl_nil]); try rfl))
  | ((with_reducible refine DL.g_unp ?_ ?_); (· rfl))
  | ((with_reducible refine DL.g_augE ?_); refine ⟨_, rfl, ?_⟩)
  | ((with_reducible refine DL.g_body ?wtau ?wte ?wtg); (case wte => simp only [DL.startD_s, List.map_cons, List.map_nil, List.length_cons, List.length_nil, List.cons_append, List.nil_append, List.replicate, Nat.reduceAdd, Nat.reduceSub]; try rfl))
  | ((with_reducible refine DL.g_le ?_ ?_); (· exact Nat.le_of_ble_eq_true rfl))
  | ((with_reducible refine DL.g_call_r ?wl1 ?wl2 ?wxs ?wl3 ?wg); (case wl1 => rfl); (case wl2 => rfl); (case wl3 => simp only [DL.arD_s, List.map_cons, List.map_nil, List.cons_append, List.nil_append, List.getD_cons_zero, List.getD_cons_succ]; try rfl))
  | ((with_reducible refine DL.g_meth_r ?wl1 ?wxs ?wl3 ?wg); (case wl1 => rfl); (case wl3 => simp only [DL.arD_s, List.map_cons, List.map_nil, List.cons_append, List.nil_append, List.getD_cons_zero, List.getD_cons_succ]; try rfl))
  | with_reducible first
    | refine DL.g_c ?_ | refine DL.g_2 ?_ | refine DL.g_cons ?_ | refine DL.g_nil ?_ | refine DL.g_asg ?_ | refine DL.g_call1 ?_ | refine DL.g_call2 ?_ | refine DL.g_call3 ?_ | refine DL.g_call0 ?_ | refine DL.g_call4 ?_ | refine DL.g_call5 ?_
    | refine DL.g_att ?_ | refine DL.g_callP ?_ | refine DL.g_if ?_ | refine DL.g_B ?_ | refine DL.g_And ?_ | refine DL.g_Or ?_ | refine DL.g_Not ?_ | refine DL.g_bl ?_ | refine DL.g_int ?_ | refine DL.g_ifnt ?_ | refine DL.g_ifnf ?_ | refine DL.g_ift ?_ | refine DL.g_iff ?_
    | refine DL.g_AndV ?_ | refine DL.g_OrV ?_ | refine DL.g_NotV ?_ | refine DL.g_Ite ?_ | refine DL.g_tup ?_ | refine DL.g_lst ?_ | refine DL.g_isi ?_ | refine DL.g_sl ?_ | refine DL.g_no ?_ | refine DL.g_part ?_ | refine DL.g_mt ?_ | refine DL.g_mt0 ?_ | refine DL.g_neg ?_ | refine DL.g_fmt ?_ | refine DL.g_meth ?_
    | refine DL.g_asgN ?_ | refine DL.g_asgL ?_ | refine DL.g_asgS ?_ | refine DL.g_ret ?_ | refine DL.g_retN ?_ | refine DL.g_drop ?_ | refine DL.g_skip ?_ | refine DL.g_seqskip ?_ | refine DL.g_brk ?_ | refine DL.g_cnt ?_ | refine DL.g_for ?_ | refine DL.g_par ?_ | refine DL.g_par_r ?_ | refine DL.g_raise ?_ | refine DL.g_try0 ?_
    | refine DL.g_addi ?_ | refine DL.g_subi ?_ | refine DL.g_iaddi ?_ | refine DL.g_cmpi ?_ | refine DL.g_is_i ?_ | refine DL.g_not_i ?_ | refine DL.g_is_n ?_ | refine DL.g_not_n ?_ | refine DL.g_is_e ?_ | refine DL.g_not_e ?_ | refine DL.g_is_r ?_ | refine DL.g_not_r ?_ | refine DL.g_is_t ?_ | refine DL.g_not_t ?_ | refine DL.g_is_s ?_ | refine DL.g_not_s ?_ | refine DL.g_is_c ?_ | refine DL.g_not_c ?_ | refine DL.g_isN ?_ | refine DL.g_notN ?_ | refine DL.g_eqii ?_ | refine DL.g_eqss ?_ | refine DL.g_neii ?_ | refine DL.g_ness ?_ | refine DL.g_isB ?_ | refine DL.g_notB ?_ | refine DL.g_isBN ?_ | refine DL.g_notBN ?_
    | refine DL.g_lenT ?_ | refine DL.g_itv ?_ | refine DL.g_itT ?_ | refine DL.g_rng1 ?_ | refine DL.g_atM ?_ | refine DL.g_atT ?_ | refine DL.g_maxi ?_ | refine DL.g_mini ?_ | refine DL.g_comp ?_ | refine DL.g_slT ?_ | refine DL.g_intb ?_ | refine DL.g_inti ?_ | refine DL.g_call ?_)
local macro_rules | `(tactic| walk_at "w") => `(tactic| with_reducible first | refine g_ow ?_ | refine g_os ?_ | refine g_ot ?_)
local macro_rules | `(tactic| walk_at "w") => `(tactic| with_reducible first | refine g_pd ?_)
theorem isi_prog {r : Ro} {M : Hm} {P : Bool × String → Prop} (h : P (true, "Program")) : ∃ t, tyD r.prog M = some t ∧ P t := ⟨_, rfl, h⟩
theorem nils_ok (k : Nat) (M : Hm) (Q : DK) (E : DX) (h : ∀ M', DL.Sub M M' → Q (.tup (nine.map enc)) M') : G (k + 3) 0 .law_nils [.int 9] M Q E := by
  rw [G_s, st_law_nils]
  unfold T_law_nils N_law_nils
  repeat walk_at "w"
  refine ⟨9, rfl, by decide, by decide, fun p hp => ?_⟩
  refine comp_map (fun _ => enc .nil) (fun _ => True.intro) _ _ (fun x _ acc Q' h' => ?_) (by decide) ?_
  · show wCall _ _ _ _ _ _ (List.set _ _ _) _ _ _
    repeat walk_at "w"
    exact mk_nil k _ _ _ h'
  · repeat walk_at "w"
    refine g_tupL _ (.inl mup_same) ?_
    exact now (h _ (sub_mup Sub.rfl' hp))
theorem half_stand (r : Ro) (t x : Th) (h : t.size + x.size ≤ 3900) : Path (halfR r t) (0, x :: nine) 3 ∧ st (halfR r t) (0, x :: nine) 3 = (3, Th.pair t x :: nine) := by
  obtain ⟨l1, l2⟩ := half_line t x h
  obtain ⟨z, p, e⟩ := line (halfL t) (x :: nine) (halfL_flat t) l1
  have lb := line_behind (halfL t) r (x :: nine) (halfL_flat t) l1
  rw [← half_as] at lb
  obtain ⟨b1, b2, b3, b4⟩ := lb
  refine ⟨b4 0 fun i hi => absurd hi (Nat.not_lt_zero i), ?_⟩
  have := b2 0
  rw [l2] at this
  exact this
theorem due_row (r : Ro) (t : Th) : [D.tup [.str (tx "told"), .int 1, enc t], D.tup [.str (tx "pair"), .int 0, .int 1, .int 0], D.tup [.str (tx "told"), .int 1, enc .nil]] ++ r.encs = (halfR r t).encs := by simp [halfR, pairedD, Ro.encs, De.enc]
theorem right_ok (n : Nat) (hs : "Run" ∈ es0) (hp : "Program" ∈ es0) (hsd : "Stand" ∈ es0) (r : Ro) (hr : r.ok) (hf : r.fl ≤ 8) (hz : r.sz ≤ 3900) (t u : Th) (tp : t.plain = true) (tz : t.size ≤ 300) (uz : u.size ≤ 300) (b : Nat) (hb : b ≤ 1000) (M : Hm) (Q : DK) (E : DX) (h : ∀ M', DL.Sub M M' → Q (.bl true) M') : G (n + 31) 0 .law_right [r.prog, enc t, enc u, .int b] M Q E := by
  rw [G_s, st_law_right]
  unfold N_law_right T_law_right
  have eL : LL = 16777216 := rfl
  have hl := len_sz r
  obtain ⟨h1, h2, h3⟩ := half_is r hr t tp (by omega)
  repeat walk_at "w"
  refine half_ok (n + 2) r hr hf (by omega) t tp (by omega) _ _ _ fun _ _ _ => ?_
  repeat walk_at "w"
  refine mk_nil (n + 28) _ _ _ ?_
  repeat walk_at "w"
  rw [rowD, pAdd_t, due_row]
  refine ⟨by rw [encs_len]; simp; omega, ?_⟩
  repeat walk_at "w"
  refine isi_prog ?_
  repeat walk_at "w"
  refine g_iF rfl ?_
  repeat walk_at "w"
  refine neRw _ (halfR r t) (halfR r t) (by omega) (by omega) (by omega) _ _ ?_
  rw [Ro.same]
  repeat walk_at "w"
  refine half_ok (n + 2) r hr hf (by omega) t tp (by omega) _ _ _ fun _ _ _ => ?_
  repeat walk_at "w"
  refine neP _ hp _ _ (by omega) (by omega) (by omega) _ _ ?_
  rw [Ro.same]
  repeat walk_at "w"
  obtain ⟨p3, e3⟩ := half_stand r t u (by omega)
  refine run_nat (n := 3) rfl ?_
  refine stood_ok (n + 22) (halfR r t) h1 (by omega) u (by omega) 3 (by decide) p3 _ _ _ fun M1 S1 => ?_
  rw [e3]
  repeat walk_at "w"
  refine mk_pair (n + 28) t u _ _ _ (by simp only [Th.size]; omega) ?_
  repeat walk_at "w"
  refine nils_ok (n + 27) _ _ _ fun M2 S2 => ?_
  rw [pAdd_t]
  refine ⟨by simp [nine]; omega, ?_⟩
  rw [show [enc (Th.pair t u)] ++ nine.map enc = (Th.pair t u :: nine).map enc from rfl]
  refine mk_stand (n + 28) 3 (Th.pair t u :: nine) _ _ _ ?_
  refine neS _ _ _ _ _ _ _ hsd (by omega) ?_
  rw [eqs_refl]
  repeat walk_at "w"
  refine g_iF (by simp) ?_
  repeat walk_at "w"
  refine mk_pair (n + 28) t u _ _ _ (by simp only [Th.size]; omega) ?_
  repeat walk_at "w"
  obtain ⟨N, w, o, hN, p, ho⟩ := out_ex r (0, Th.pair t u :: nine) b
  refine run_ok (n + 23) r hr (by omega) (.pair t u) (by simp only [Th.size]; omega) b N (by omega) hN p (runO w N o) ho.ends _ _ _ ?_
  repeat walk_at "w"
  refine run_nat (n := 3 + b) (by omega) ?_
  refine half_run (n + 23) r hr (by omega) t tp u (by omega) b N w o (by omega) hN p ho _ _ _ ?_
  repeat walk_at "w"
  rw [show (N : Int) + 3 = ((3 + N : Nat) : Int) by omega]
  refine mk_run (n + 28) w (3 + N) (oD o) _ _ _ ?_
  exact eqRO _ hs w (3 + N) o _ _ (by omega) (now (h M2 (S1.trans' S2)))
end K22
namespace K22
open DL
local macro_rules | `(tactic| walk_at "w") => `(tactic| first
  | ((with_reducible refine DL.g_varE ?_); refine ⟨_, rfl, ?_⟩)
  | ((with_reducible refine DL.g_setE (τ := ?wtau) ?wte ?wtg); (case wte => (try simp only [List.set_cons_succ, List.set_cons_zero, DL.setAll, DL.wipeD, List.foldl_cons, List.foldl_nil]); try rfl))
  | ((with_reducible refine DL.g_unp ?_ ?_); (· rfl))
  | ((with_reducible refine DL.g_augE ?_); refine ⟨_, rfl, ?_⟩)
  | ((with_reducible refine DL.g_body ?wtau ?wte ?wtg); (case wte => simp only [DL.startD_s, List.map_cons, List.map_nil, List.length_cons, List.length_nil, List.cons_append, List.nil_append, List.replicate, Nat.reduceAdd, Nat.reduceSub]; try rfl))
  | ((with_reducible refine DL.g_le ?_ ?_); (· exact Nat.le_of_ble_eq_true rfl))
  | ((with_reducible refine DL.g_call_r ?wl1 ?wl2 ?wxs ?wl3 ?wg); (case wl1 => rfl); (case wl2 => rfl); (case wl3 => simp only [DL.arD_s, List.map_cons, List.map_nil, List.cons_append, List.nil_append, List.getD_cons_zero, List.getD_cons_succ]; try rfl))
  | ((with_reducible refine DL.g_meth_r ?wl1 ?wxs ?wl3 ?wg); (case wl1 => rfl); (case wl3 => simp only [DL.arD_s, List.map_cons, List.map_nil, List.cons_append, List.nil_append, List.getD_cons_zero, List.getD_cons_succ]; try rfl))
  | with_reducible first
    | refine DL.g_c ?_ | refine DL.g_2 ?_ | refine DL.g_cons ?_ | refine DL.g_nil ?_ | refine DL.g_asg ?_ | refine DL.g_call1 ?_ | refine DL.g_call2 ?_ | refine DL.g_call3 ?_ | refine DL.g_call0 ?_ | refine DL.g_call4 ?_ | refine DL.g_call5 ?_
    | refine DL.g_att ?_ | refine DL.g_callP ?_ | refine DL.g_if ?_ | refine DL.g_B ?_ | refine DL.g_And ?_ | refine DL.g_Or ?_ | refine DL.g_Not ?_ | refine DL.g_bl ?_ | refine DL.g_int ?_ | refine DL.g_ifnt ?_ | refine DL.g_ifnf ?_ | refine DL.g_ift ?_ | refine DL.g_iff ?_
    | refine DL.g_AndV ?_ | refine DL.g_OrV ?_ | refine DL.g_NotV ?_ | refine DL.g_Ite ?_ | refine DL.g_tup ?_ | refine DL.g_lst ?_ | refine DL.g_isi ?_ | refine DL.g_sl ?_ | refine DL.g_no ?_ | refine DL.g_part ?_ | refine DL.g_mt ?_ | refine DL.g_mt0 ?_ | refine DL.g_neg ?_ | refine DL.g_fmt ?_ | refine DL.g_meth ?_
    | refine DL.g_asgN ?_ | refine DL.g_asgL ?_ | refine DL.g_asgS ?_ | refine DL.g_ret ?_ | refine DL.g_retN ?_ | refine DL.g_drop ?_ | refine DL.g_skip ?_ | refine DL.g_seqskip ?_ | refine DL.g_brk ?_ | refine DL.g_cnt ?_ | refine DL.g_for ?_ | refine DL.g_par ?_ | refine DL.g_par_r ?_ | refine DL.g_raise ?_ | refine DL.g_try0 ?_
    | refine DL.g_addi ?_ | refine DL.g_subi ?_ | refine DL.g_iaddi ?_ | refine DL.g_cmpi ?_ | refine DL.g_is_i ?_ | refine DL.g_not_i ?_ | refine DL.g_is_n ?_ | refine DL.g_not_n ?_ | refine DL.g_is_e ?_ | refine DL.g_not_e ?_ | refine DL.g_is_r ?_ | refine DL.g_not_r ?_ | refine DL.g_is_t ?_ | refine DL.g_not_t ?_ | refine DL.g_is_s ?_ | refine DL.g_not_s ?_ | refine DL.g_is_c ?_ | refine DL.g_not_c ?_ | refine DL.g_isN ?_ | refine DL.g_notN ?_ | refine DL.g_eqii ?_ | refine DL.g_eqss ?_ | refine DL.g_neii ?_ | refine DL.g_ness ?_ | refine DL.g_isB ?_ | refine DL.g_notB ?_ | refine DL.g_isBN ?_ | refine DL.g_notBN ?_
    | refine DL.g_lenT ?_ | refine DL.g_itv ?_ | refine DL.g_itT ?_ | refine DL.g_rng1 ?_ | refine DL.g_atM ?_ | refine DL.g_atT ?_ | refine DL.g_maxi ?_ | refine DL.g_mini ?_ | refine DL.g_comp ?_ | refine DL.g_slT ?_ | refine DL.g_intb ?_ | refine DL.g_inti ?_ | refine DL.g_call ?_)
local macro_rules | `(tactic| walk_at "w") => `(tactic| with_reducible first | refine g_ow ?_ | refine g_os ?_ | refine g_ot ?_)
local macro_rules | `(tactic| walk_at "w") => `(tactic| with_reducible first | refine g_pd ?_)
def Wh : Nat → Ro
  | 0 => .nil
  | j + 1 => .one (.whl j (Wh j))
theorem Wh_is : ∀ j, j ≤ 10 → (Wh j).ok ∧ (Wh j).fl = j ∧ (Wh j).sz = j
  | 0, _ => ⟨by rw [Wh, Ro.ok]; exact True.intro, by rw [Wh, Ro.fl], by rw [Wh, Ro.sz]⟩
  | j + 1, h => by
    obtain ⟨h1, h2, h3⟩ := Wh_is j (by omega)
    refine ⟨?_, ?_, ?_⟩
    · rw [Wh, Ro.one, Ro.ok, De.ok, Ro.ok]; exact ⟨⟨by omega, h1⟩, True.intro⟩
    · simp [Wh, Ro.one, Ro.fl, De.fl, h2]; omega
    · simp [Wh, Ro.one, Ro.sz, De.sz, h3]; omega
theorem rep_encs (d : De) (n : Nat) : (Ro.of (List.replicate n d)).encs = List.replicate n d.enc := by rw [of_encs, List.map_replicate]
theorem rep_is (d : De) (n : Nat) (hd : d.ok) (hf : d.looks = false) : (Ro.of (List.replicate n d)).ok ∧ (Ro.of (List.replicate n d)).fl = 0 ∧ (Ro.of (List.replicate n d)).sz = n := by
  have h := of_flat (List.replicate n d) fun e he => by rw [List.eq_of_mem_replicate he]; exact hf
  exact ⟨of_ok_all _ fun e he => by rw [List.eq_of_mem_replicate he]; exact hd, h.1, by rw [h.2, List.length_replicate]⟩
theorem flat_rep {α : Type} (x : α) : ∀ n : Nat, (List.replicate n [x]).flatten = List.replicate n x
  | 0 => rfl
  | n + 1 => by rw [List.replicate_succ, List.flatten_cons, flat_rep x n]; rfl
def headD : De := .look false 3 3
def restR (c : Nat) : Ro := (Wh 8).app (Ro.of (List.replicate (992 - c) (.look true 4 4)))
def greatR (c : Nat) : Ro := (Ro.of (List.replicate c headD)).app (restR c)
theorem great_is (c : Nat) (hc : c ≤ 992) : (greatR c).ok ∧ (greatR c).fl = 8 ∧ (greatR c).sz = 1000 := by
  obtain ⟨a1, a2, a3⟩ := rep_is headD c (by simp [headD, De.ok]) rfl
  obtain ⟨b1, b2, b3⟩ := Wh_is 8 (by decide)
  obtain ⟨c1, c2, c3⟩ := rep_is (.look true 4 4) (992 - c) (by simp [De.ok]) rfl
  refine ⟨app_ok _ _ a1 (app_ok _ _ b1 c1), ?_, ?_⟩
  · rw [greatR, restR, app_fl, app_fl, a2, b2, c2]; rfl
  · rw [greatR, restR, app_sz, app_sz, a3, b3, c3]; omega
theorem great_encs (c : Nat) : (greatR c).encs = (List.replicate c headD.enc ++ (Wh 8).encs) ++ List.replicate (992 - c) (De.look true 4 4).enc := by
  rw [greatR, restR, app_encs, app_encs, rep_encs, rep_encs, List.append_assoc]
theorem line_rep (c : Nat) : ∀ ns : List Th, ns.length = 10 → nth ns 3 = .nil → lineFit (List.replicate c headD) ns = true := by
  induction c with
  | zero => intro ns _ _; rfl
  | succ c ih =>
    intro ns hl h3
    rw [List.replicate_succ, lineFit]
    have e : headD.sets ns = ns.set 3 (thd (nth ns 3)) := rfl
    have hb : headD.big ns = false := rfl
    rw [hb, e, h3]
    refine ih _ (by simp [hl]) ?_
    simp [nth, hl, thd]
/-- a run of it is open for long -/
theorem great_open (c : Nat) (h1 : 300 ≤ c) (h2 : c ≤ 992) (t x : Th) (hs : t.size + x.size ≤ 3900) (b : Nat) (hb : b ≤ 200) : Path (halfR (greatR c) t) (0, x :: nine) b ∧ Out (halfR (greatR c) t) (0, x :: nine) b b "open" none := by
  obtain ⟨l1, l2⟩ := half_line t x hs
  have lb := line_behind (halfL t) (greatR c) (x :: nine) (halfL_flat t) l1
  rw [l2, ← half_as, show (halfL t).length = 3 from rfl] at lb
  obtain ⟨b1, b2, b3, b4⟩ := lb
  have hf : ∀ d ∈ List.replicate c headD, d.looks = false := fun e he => by rw [List.eq_of_mem_replicate he]; rfl
  have lc := line_behind (List.replicate c headD) (restR c) (Th.pair t x :: nine) hf (line_rep c _ rfl rfl)
  obtain ⟨c1, c2, c3, c4⟩ := lc
  have p0 := c4 0 fun i hi => absurd hi (Nat.not_lt_zero i)
  rw [List.length_replicate] at p0
  have p1 : Path (halfR (greatR c) t) (0, x :: nine) (3 + (c + 0)) := b4 _ p0
  exact ⟨path_le p1 (by omega), .inr (.inr ⟨(p1 b (by omega)).1, rfl, rfl, rfl⟩)⟩
theorem great_ok (n : Nat) (p : PySem.Addr) (l : List D) (M : Hm) (Q : DK) (E : DX) (B : Bag M p l) (h : ∀ (c : Nat) l' M', 300 ≤ c → c < 700 → Bag M' p l' → SubB p M M' → Q (greatR c).prog M') : G (n + 28) 0 .law_great [.ref p] M Q E := by
  rw [G_s, st_law_great]
  unfold T_law_great N_law_great
  have eL : LL = 16777216 := rfl
  repeat walk_at "w"
  refine ⟨8, rfl, by decide, by decide, ?_⟩
  have key : ∀ (K : DEn) (xs : List D) (j : Nat) (o2 : Option D), xs = (List.range' j (8 - j)).map (fun i : Nat => D.int i) → j ≤ 8 → (∀ o2, K.nx [some (.ref p), some (rowD (Wh 8)), o2, none] M) → wLoop (wName 2) (B_law_great_0 (G (n + 27)) (n + 27)) K (fun _ => True) xs [some (.ref p), some (rowD (Wh j)), o2, none] M := by
    intro K xs
    induction xs with
    | nil =>
      intro j o2 hx hj hK
      have : 8 - j = 0 := by
        cases e : 8 - j with
        | zero => rfl
        | succ m => rw [e] at hx; simp [List.range'] at hx
      obtain rfl : j = 8 := by omega
      exact ⟨True.intro, hK o2⟩
    | cons x xs ih =>
      intro j o2 hx hj hK
      obtain ⟨m, hm⟩ : ∃ m, 8 - j = m + 1 := by
        cases e : 8 - j with
        | zero => rw [e] at hx; simp at hx
        | succ m => exact ⟨m, rfl⟩
      rw [hm, List.range'_succ, List.map_cons] at hx
      obtain ⟨rfl, hx2⟩ := List.cons.inj hx
      rw [wLoop_c]
      refine ⟨True.intro, ?_⟩
      rw [wName_s]
      show B_law_great_0 (G (n + 27)) (n + 27) _ [some (.ref p), some (rowD (Wh j)), some (.int j), none] M
      unfold B_law_great_0
      repeat walk_at "w"
      have e : D.tup [D.tup [D.str (tx "while"), D.int (j : Nat), rowD (Wh j)]] = rowD (Wh (j + 1)) := by simp [rowD, Wh, Ro.one, Ro.encs, De.enc]
      rw [e]
      exact now (ih (j + 1) _ (by rw [show 8 - (j + 1) = m by omega]; exact hx2) (by omega) hK)
  refine key _ _ 0 none rfl (by decide) fun o2 => ?_
  refine g_nx ?_
  repeat walk_at "w"
  refine take_i (n + 26) p l 400 (by decide) (by decide) _ _ _ B fun c l' M1 hc B1 T1 => ?_
  repeat walk_at "w"
  rw [pMulT_s]
  refine ⟨by simp, by omega, by omega, by simp, ?_⟩
  have e1 : (List.replicate ((300 : Int) + (c : Int)).toNat [D.tup [.str (tx "first"), .int 3, .int 3]]).flatten = List.replicate (300 + c) headD.enc := by
    rw [flat_rep, show ((300 : Int) + (c : Int)).toNat = 300 + c by omega]; rfl
  rw [e1]
  repeat walk_at "w"
  rw [rowD, pAdd_t]
  have hW : (Wh 8).encs.length = 1 := rfl
  refine ⟨by rw [hW, List.length_replicate]; omega, ?_⟩
  repeat walk_at "w"
  rw [pMulT_s]
  refine ⟨by simp, by omega, by omega, by simp, ?_⟩
  have e2 : (List.replicate ((992 : Int) - ((300 : Int) + (c : Int))).toNat [D.tup [.str (tx "second"), .int 4, .int 4]]).flatten = List.replicate (992 - (300 + c)) (De.look true 4 4).enc := by
    rw [flat_rep, show ((992 : Int) - ((300 : Int) + (c : Int))).toNat = 992 - (300 + c) by omega]; rfl
  rw [e2, pAdd_t]
  refine ⟨by rw [List.length_append, hW, List.length_replicate, List.length_replicate]; omega, ?_⟩
  rw [← great_encs]
  obtain ⟨g1, g2, g3⟩ := great_is (300 + c) (by omega)
  refine mk_prog (n + 25) (greatR (300 + c)) g1 (by omega) (by omega) (by omega) _ _ _ ?_
  exact now (h (300 + c) l' M1 (by omega) (by omega) B1 T1)
end K22
namespace K22
open DL
local macro_rules | `(tactic| walk_at "w") => `(tactic| first
  | ((with_reducible refine DL.g_varE ?_); refine ⟨_, rfl, ?_⟩)
  | ((with_reducible refine DL.g_setE (τ := ?wtau) ?wte ?wtg); (case wte => (try simp only [List.set_cons_succ, List.set_cons_zero, DL.setAll, DL.wipeD, List.foldl_cons, List.foldl_nil]); try rfl))
  | ((with_reducible refine DL.g_unp ?_ ?_); (· rfl))
  | ((with_reducible refine DL.g_augE ?_); refine ⟨_, rfl, ?_⟩)
  | ((with_reducible refine DL.g_body ?wtau ?wte ?wtg); (case wte => simp only [DL.startD_s, List.map_cons, List.map_nil, List.length_cons, List.length_nil, List.cons_append, List.nil_append, List.replicate, Nat.reduceAdd, Nat.reduceSub]; try rfl))
  | ((with_reducible refine DL.g_le ?_ ?_); (· exact Nat.le_of_ble_eq_true rfl))
  | ((with_reducible refine DL.g_call_r ?wl1 ?wl2 ?wxs ?wl3 ?wg); (case wl1 => rfl); (case wl2 => rfl); (case wl3 => simp only [DL.arD_s, List.map_cons, List.map_nil, List.cons_append, List.nil_append, List.getD_cons_zero, List.getD_cons_succ]; try rfl))
  | ((with_reducible refine DL.g_meth_r ?wl1 ?wxs ?wl3 ?wg); (case wl1 => rfl); (case wl3 => simp only [DL.arD_s, List.map_cons, List.map_nil, List.cons_append, List.nil_append, List.getD_cons_zero, List.getD_cons_succ]; try rfl))
  | with_reducible first
    | refine DL.g_c ?_ | refine DL.g_2 ?_ | refine DL.g_cons ?_ | refine DL.g_nil ?_ | refine DL.g_asg ?_ | refine DL.g_call1 ?_ | refine DL.g_call2 ?_ | refine DL.g_call3 ?_ | refine DL.g_call0 ?_ | refine DL.g_call4 ?_ | refine DL.g_call5 ?_
    | refine DL.g_att ?_ | refine DL.g_callP ?_ | refine DL.g_if ?_ | refine DL.g_B ?_ | refine DL.g_And ?_ | refine DL.g_Or ?_ | refine DL.g_Not ?_ | refine DL.g_bl ?_ | refine DL.g_int ?_ | refine DL.g_ifnt ?_ | refine DL.g_ifnf ?_ | refine DL.g_ift ?_ | refine DL.g_iff ?_
    | refine DL.g_AndV ?_ | refine DL.g_OrV ?_ | refine DL.g_NotV ?_ | refine DL.g_Ite ?_ | refine DL.g_tup ?_ | refine DL.g_lst ?_ | refine DL.g_isi ?_ | refine DL.g_sl ?_ | refine DL.g_no ?_ | refine DL.g_part ?_ | refine DL.g_mt ?_ | refine DL.g_mt0 ?_ | refine DL.g_neg ?_ | refine DL.g_fmt ?_ | refine DL.g_meth ?_
    | refine DL.g_asgN ?_ | refine DL.g_asgL ?_ | refine DL.g_asgS ?_ | refine DL.g_ret ?_ | refine DL.g_retN ?_ | refine DL.g_drop ?_ | refine DL.g_skip ?_ | refine DL.g_seqskip ?_ | refine DL.g_brk ?_ | refine DL.g_cnt ?_ | refine DL.g_for ?_ | refine DL.g_par ?_ | refine DL.g_par_r ?_ | refine DL.g_raise ?_ | refine DL.g_try0 ?_
    | refine DL.g_addi ?_ | refine DL.g_subi ?_ | refine DL.g_iaddi ?_ | refine DL.g_cmpi ?_ | refine DL.g_is_i ?_ | refine DL.g_not_i ?_ | refine DL.g_is_n ?_ | refine DL.g_not_n ?_ | refine DL.g_is_e ?_ | refine DL.g_not_e ?_ | refine DL.g_is_r ?_ | refine DL.g_not_r ?_ | refine DL.g_is_t ?_ | refine DL.g_not_t ?_ | refine DL.g_is_s ?_ | refine DL.g_not_s ?_ | refine DL.g_is_c ?_ | refine DL.g_not_c ?_ | refine DL.g_isN ?_ | refine DL.g_notN ?_ | refine DL.g_eqii ?_ | refine DL.g_eqss ?_ | refine DL.g_neii ?_ | refine DL.g_ness ?_ | refine DL.g_isB ?_ | refine DL.g_notB ?_ | refine DL.g_isBN ?_ | refine DL.g_notBN ?_
    | refine DL.g_lenT ?_ | refine DL.g_itv ?_ | refine DL.g_itT ?_ | refine DL.g_rng1 ?_ | refine DL.g_atM ?_ | refine DL.g_atT ?_ | refine DL.g_maxi ?_ | refine DL.g_mini ?_ | refine DL.g_comp ?_ | refine DL.g_slT ?_ | refine DL.g_intb ?_ | refine DL.g_inti ?_ | refine DL.g_call ?_)
local macro_rules | `(tactic| walk_at "w") => `(tactic| with_reducible first | refine g_ow ?_ | refine g_os ?_ | refine g_ot ?_)
local macro_rules | `(tactic| walk_at "w") => `(tactic| with_reducible first | refine g_pd ?_)
theorem half_rest (r : Ro) (t : Th) : cutG (halfR r t).encs (some 3) none = r.encs := by
  have e : (halfR r t).encs = [De.enc (.told 1 t), pairedD.enc, De.enc (.told 1 .nil)] ++ r.encs := by simp [halfR, Ro.encs]
  have h1 : HT.sIx (halfR r t).encs.length 0 (some 3) = 3 := by
    rw [e]; simp [HT.sIx]
  have h2 : HT.sIx (halfR r t).encs.length (halfR r t).encs.length none = (halfR r t).encs.length := rfl
  unfold cutG
  rw [h1, h2, e]
  simp
theorem great_right_ok (n : Nat) (hs : "Run" ∈ es0) (hp : "Program" ∈ es0) (hsd : "Stand" ∈ es0) (p : PySem.Addr) (l : List D) (t u : Th) (tp : t.plain = true) (tz : t.size ≤ 300) (up : u.plain = true) (uz : u.size ≤ 300) (b : Nat) (hb : b ≤ 100) (M : Hm) (Q : DK) (E : DX) (B : Bag M p l) (h : ∀ l' M', Bag M' p l' → SubB p M M' → Q (.bl true) M') : G (n + 31) 0 .law_great_right [.ref p, enc t, enc u, .int b] M Q E := by
  rw [G_s, st_law_great_right]
  unfold N_law_great_right T_law_great_right
  have eL : LL = 16777216 := rfl
  repeat walk_at "w"
  refine great_ok (n + 2) p l _ _ _ B fun c l1 M1 c1 c2 B1 T1 => ?_
  obtain ⟨g1, g2, g3⟩ := great_is c (by omega)
  obtain ⟨h1, h2, h3⟩ := half_is (greatR c) g1 t tp (by omega)
  have hl := len_sz (greatR c)
  repeat walk_at "w"
  refine half_ok (n + 2) (greatR c) g1 (by omega) (by omega) t tp (by omega) _ _ _ fun _ _ _ => ?_
  repeat walk_at "w"
  refine mk_nil (n + 28) _ _ _ ?_
  repeat walk_at "w"
  rw [rowD, pAdd_t, due_row]
  refine ⟨by rw [encs_len]; simp; omega, ?_⟩
  repeat walk_at "w"
  refine neRw _ (halfR (greatR c) t) (halfR (greatR c) t) (by omega) (by omega) (by omega) _ _ ?_
  rw [Ro.same]
  repeat walk_at "w"
  refine plen_at (n + 28) (halfR (greatR c) t) (by omega) _ _ _ ?_
  repeat walk_at "w"
  refine g_iF (by rw [h3, g3]; rfl) ?_
  repeat walk_at "w"
  refine half_ok (n + 2) (greatR c) g1 (by omega) (by omega) u up (by omega) _ _ _ fun _ _ _ => ?_
  repeat walk_at "w"
  rw [rowD, pSl_t, half_rest]
  repeat walk_at "w"
  refine neRw _ (greatR c) (greatR c) (by omega) (by omega) (by omega) _ _ ?_
  rw [Ro.same]
  repeat walk_at "w"
  obtain ⟨p3, e3⟩ := half_stand (greatR c) t u (by omega)
  refine run_nat (n := 3) rfl ?_
  refine stood_ok (n + 22) (halfR (greatR c) t) h1 (by omega) u (by omega) 3 (by decide) p3 _ _ _ fun M2 S2 => ?_
  rw [e3]
  repeat walk_at "w"
  refine mk_pair (n + 28) t u _ _ _ (by simp only [Th.size]; omega) ?_
  repeat walk_at "w"
  refine nils_ok (n + 27) _ _ _ fun M3 S3 => ?_
  rw [pAdd_t]
  refine ⟨by simp [nine]; omega, ?_⟩
  rw [show [enc (Th.pair t u)] ++ nine.map enc = (Th.pair t u :: nine).map enc from rfl]
  refine mk_stand (n + 28) 3 (Th.pair t u :: nine) _ _ _ ?_
  refine neS _ _ _ _ _ _ _ hsd (by omega) ?_
  rw [eqs_refl]
  repeat walk_at "w"
  refine g_iF (by simp) ?_
  repeat walk_at "w"
  obtain ⟨q1, q2⟩ := great_open c c1 (by omega) t u (by omega) (b + 3) (by omega)
  rw [show (b : Int) + 3 = ((b + 3 : Nat) : Int) by omega]
  refine run_ok (n + 23) (halfR (greatR c) t) h1 (by omega) u (by omega) (b + 3) (b + 3) (by omega) (by omega) q1 _ q2.ends _ _ _ ?_
  repeat walk_at "w"
  refine mk_run (n + 28) "open" (b + 3) (oD none) _ _ _ ?_
  exact eqRO _ hs "open" (b + 3) none _ _ (by omega) (now (h l1 M3 (bag_sub B1 (S2.trans' S3)) (subB_trans T1 (sub_subB (S2.trans' S3)))))
theorem pairs_loop (n : Nat) (hs : "Run" ∈ es0) (hp : "Program" ∈ es0) (hsd : "Stand" ∈ es0) (r : Ro) (hr : r.ok) (hf : r.fl ≤ 8) (hz : r.sz ≤ 3900) (b : Nat) (hb : b ≤ 1000) (s0 s1 s2 s4 s5 : Option D) (q : PySem.Addr) (L : List D) (K : DEn) (M0 : Hm) (h0 : M0 q = some (.lst L)) (hK : ∀ o7 o8 M', DL.Sub M0 M' → K.nx [s0, s1, s2, some r.prog, s4, s5, some (.int b), o7, o8] M') :
    ∀ (xs : List (Th × Th)) (o7 o8 : Option D) (M : Hm), (∀ x ∈ xs, x.1.plain = true ∧ x.1.size ≤ 300 ∧ x.2.size ≤ 300) → DL.Sub M0 M → wLoop (wNames [7, 8]) (B_law_0 (G (n + 32)) (n + 32)) K (fun M' => Lz M' q L) (xs.map fun x => .tup [enc x.1, enc x.2]) [s0, s1, s2, some r.prog, s4, s5, some (.int b), o7, o8] M
  | [], o7, o8, M, _, S => ⟨.inl (S _ _ h0), hK _ _ M S⟩
  | x :: xs, o7, o8, M, hx, S => by
    have ih := pairs_loop n hs hp hsd r hr hf hz b hb s0 s1 s2 s4 s5 q L K M0 h0 hK xs
    obtain ⟨g1, g2, g3⟩ := hx x List.mem_cons_self
    rw [List.map_cons, wLoop_c]
    refine ⟨.inl (S _ _ h0), ?_⟩
    rw [wNames_s]
    refine ⟨_, rfl, rfl, ?_⟩
    show B_law_0 (G (n + 32)) (n + 32) _ [s0, s1, s2, some r.prog, s4, s5, some (.int b), some (enc x.1), some (enc x.2)] M
    unfold B_law_0
    repeat walk_at "w"
    refine right_ok (n + 1) hs hp hsd r hr hf hz x.1 x.2 g1 g2 g3 b hb _ _ _ fun M1 S1 => ?_
    repeat walk_at "w"
    exact now (ih _ _ M1 (fun y hy => hx y (List.mem_cons_of_mem _ hy)) (S.trans' S1))
theorem script_ok (n : Nat) (hs : "Run" ∈ es0) (hpg : "Program" ∈ es0) (hsd : "Stand" ∈ es0) (a : PySem.Addr) (ns : List Int) (i : Nat) (hi : i < 1000) (o2 o3 o4 o5 o6 o7 o8 : Option D) (K : DEn) (M : Hm) (hM : M a = some (.frl (ns.map .int)))
    (h : ∀ o2 o3 o4 o5 o6 o7 o8 M', DL.Sub M M' → K.nx [some (.ref a), some (.int i), o2, o3, o4, o5, o6, o7, o8] M') :
    B_law_1 (G (n + 32)) (n + 32) K [some (.ref a), some (.int i), o2, o3, o4, o5, o6, o7, o8] M := by
  unfold B_law_1
  repeat walk_at "w"
  refine bag_i (n + 31) a ns i hi M _ _ hM fun p l M1 B1 hp S1 => ?_
  repeat walk_at "w"
  refine int_i (n := 20) rfl (top_ok (n + 18) p l 20 _ _ _ B1 fun r l2 M2 r1 r2 r3 r4 B2 T2 => ?_)
  have ro := Ro.okl_ok r r1
  refine mk_prog (n + 30) r ro (by omega) (by omega) (by omega) _ _ _ ?_
  repeat walk_at "w"
  refine take_i (n + 31) p l2 31 (by decide) (by decide) _ _ _ B2 fun c l3 M3 hc B3 T3 => ?_
  refine thing_i (n + 29) p l3 c (by omega) _ _ _ B3 fun t l4 M4 t1 t2 B4 T4 => ?_
  repeat walk_at "w"
  refine take_i (n + 31) p l4 31 (by decide) (by decide) _ _ _ B4 fun c2 l5 M5 hc2 B5 T5 => ?_
  refine thing_i (n + 29) p l5 c2 (by omega) _ _ _ B5 fun u l6 M6 u1 u2 B6 T6 => ?_
  repeat walk_at "w"
  refine take_i (n + 31) p l6 61 (by decide) (by decide) _ _ _ B6 fun b l7 M7 hb B7 T7 => ?_
  have S7 : DL.Sub M M7 := subB_sub hp S1 (subB_trans T2 (subB_trans T3 (subB_trans T4 (subB_trans T5 (subB_trans T6 T7)))))
  repeat walk_at "w"
  intro q hq
  refine g_itL _ (.inl mup_same) ?_
  have S8 := S7.trans' (sub_mup (o := .lst [D.tup [enc t, enc u], D.tup [enc u, enc t], D.tup [enc t, enc t], D.tup [enc t, enc u]]) Sub.rfl' hq)
  have B8 := bag_sub B7 (sub_mup (o := .lst [D.tup [enc t, enc u], D.tup [enc u, enc t], D.tup [enc t, enc t], D.tup [enc t, enc u]]) Sub.rfl' hq)
  refine pairs_loop n hs hpg hsd r ro (by omega) (by omega) b (by omega) _ _ _ _ _ q _ _ _ mup_same (fun o7 o8 M9 S9 => ?_) [(t, u), (u, t), (t, t), (t, u)] _ _ _ (fun x hx => ?_) Sub.rfl'
  · refine g_nx ?_
    have B9 := bag_sub B8 S9
    repeat walk_at "w"
    refine great_right_ok (n + 1) hs hpg hsd p l7 t u t2 (by omega) u2 (by omega) b (by omega) _ _ _ B9 fun l8 M10 B10 T10 => ?_
    have S10 : DL.Sub M M10 := subB_sub hp (S8.trans' S9) T10
    repeat walk_at "w"
    rw [show D.tup [] = rowD .nil by simp [rowD, Ro.encs]]
    refine mk_prog (n + 30) .nil (by rw [Ro.ok]; exact True.intro) (by rw [Ro.fl]; omega) (by rw [Ro.fl]; omega) (by simp [Ro.sz]) _ _ _ ?_
    repeat walk_at "w"
    refine right_ok (n + 1) hs hpg hsd .nil (by rw [Ro.ok]; exact True.intro) (by rw [Ro.fl]; omega) (by simp [Ro.sz]) t u t2 (by omega) (by omega) b (by omega) _ _ _ fun M11 S11 => ?_
    repeat walk_at "w"
    obtain ⟨h1, h2, h3⟩ := half_is r ro t t2 (by omega)
    refine half_ok (n + 4) r ro (by omega) (by omega) t t2 (by omega) _ _ _ fun _ _ _ => ?_
    repeat walk_at "w"
    refine right_ok (n + 1) hs hpg hsd (halfR r t) h1 (by omega) (by omega) u t u2 (by omega) (by omega) b (by omega) _ _ _ fun M12 S12 => ?_
    repeat walk_at "w"
    exact h _ _ _ _ _ _ _ _ (S10.trans' (S11.trans' S12))
  · simp only [List.mem_cons, List.not_mem_nil, or_false] at hx
    rcases hx with rfl | rfl | rfl | rfl
    · exact ⟨t2, (by show t.size ≤ 300; omega), (by show _ ≤ 300; dsimp only; omega)⟩
    · exact ⟨u2, (by show u.size ≤ 300; omega), (by show t.size ≤ 300; omega)⟩
    · exact ⟨t2, (by show t.size ≤ 300; omega), (by show _ ≤ 300; dsimp only; omega)⟩
    · exact ⟨t2, (by show t.size ≤ 300; omega), (by show _ ≤ 300; dsimp only; omega)⟩
theorem goal : Goal := by
  intro a ns hl
  have hpg : "Program" ∈ es0 := List.mem_of_getElem? (i := 1) rfl
  have hsd : "Stand" ∈ es0 := List.mem_of_getElem? (i := 2) rfl
  have hs : "Run" ∈ es0 := List.mem_of_getElem? (i := 3) rfl
  have h0 : sM a ns a = some (.frl (ns.map .int)) := sM_at
  show G 40 0 .law [.ref a] (sM a ns) (fun d _ => d = .bl true) fun _ _ => False
  rw [G_s, st_law]
  unfold N_law T_law
  have eR : R62 = 4611686018427387904 := rfl
  repeat walk_at "w"
  refine g_lenL _ (.inr h0) ?_
  repeat walk_at "w"
  rw [List.length_map]
  generalize hm : (if 2 < if (ns.length : Int) < 6 then (ns.length : Int) else 6 then if (ns.length : Int) < 6 then (ns.length : Int) else 6 else 2) = m
  have m5 : 2 ≤ m ∧ m ≤ 6 := by
    rw [← hm]
    split <;> split at * <;> omega
  refine ⟨m, rfl, by omega, by omega, ?_⟩
  refine loop_inv (fun σ M => (∃ o1 o2 o3 o4 o5 o6 o7 o8, σ = [some (.ref a), o1, o2, o3, o4, o5, o6, o7, o8]) ∧ M a = some (.frl (ns.map .int))) (fun _ _ _ => True.intro) (fun σ M p => ?_) _ _ _ (fun x hx K' σ M _ _ hK p => ?_) ⟨⟨_, _, _, _, _, _, _, _, rfl⟩, h0⟩
  · refine g_nx ?_
    repeat walk_at "w"
    exact now rfl
  · obtain ⟨⟨o1, o2, o3, o4, o5, o6, o7, o8, rfl⟩, hM⟩ := p
    unfold intsFrom at hx
    obtain ⟨j, hj, rfl⟩ := List.mem_map.mp hx
    have hj' := List.mem_range.mp hj
    rw [wName_s, show (0 : Int) + (j : Int) = (j : Int) by omega]
    exact script_ok 7 hs hpg hsd a ns j (by omega) o2 o3 o4 o5 o6 o7 o8 K' M hM fun o2 o3 o4 o5 o6 o7 o8 M' S => hK _ _ ⟨⟨_, _, _, _, _, _, _, _, rfl⟩, S _ _ hM⟩
theorem eqlaws : EqLaws := fun j ds M Q E => ⟨eqlaw_Thing j ds M Q E, eqlaw_Program j ds M Q E, eqlaw_Stand j ds M Q E, eqlaw_Run j ds M Q E⟩
end K22
open PySem PySem.W PySem.Calls PyProof.Rows
theorem PySem.Challenge.cw_judgeslip_k22_half_given_holds : PySem.Challenge.rw_judgeslip_k22_half_given.Holds := by
  w_on; o_law
  refine HandSHeadRun.head_any (r := OpenLaw.row PySem.Challenge.rw_judgeslip_k22_half_given) (q := K22.qv) (H := K22.hk) (ob := K22.ob) (M := 12000) (loose := K22.loose) (d := HandSHeadRun.topDef (OpenLaw.row PySem.Challenge.rw_judgeslip_k22_half_given).prog 54) (kwd := []) K22.ob_eq
    (by kernel_rfl) (fun s => by kernel_rfl) K22.run (by kernel_rfl) (by kernel_rfl) (by kernel_rfl) (by rfl) (by first | assumption | decide +kernel) (by decide +kernel) ⟨rfl, rfl, rfl, rfl, rfl, by decide +kernel⟩ ?hw ?hc
  case hw => w_witness2
  case hc =>
    refine DL.walk_d (l := PySem.Challenge.rw_judgeslip_k22_half_given) (n := 63) (k := 40 + 3) (x := "_law_script") rfl (by decide) (by kernel_rfl) ⟨rfl, by decide, by decide⟩ ?F
    intro w mg fa h Y G hmg0
    obtain ⟨K, KX, c⟩ := Y
    have hmg : mg ("law" : PySem.Str) = some (.ref fa) := by
      have e : (HandSHeadRun.topDef (OpenLaw.row PySem.Challenge.rw_judgeslip_k22_half_given).prog 54).name = ("law" : PySem.Str) := by kernel_rfl
      rw [← e]
      exact hmg0
    have U := K22.fx_of KX G c
    obtain ⟨fd, HF⟩ := K22.fds c
    have e := hmg.symm.trans U.m_law
    cases e
    have b := L2.FunD.bindsA (ps := ["_law_script"]) (HF .law True.intro) fun _ _ _ _ _ _ us hl => match us, hl with | [_], _ => rfl
    exact ⟨K, fd .law, DL.spOf (K22.zn K) 1 (K22.G 40 0 .law), KX, fun s v => b s [v] rfl, fun H a ns hl _ hO hS => DL.law_sp (K22.exA_b c.more) hO hS (K22.goal a ns hl), fun base _ _ => K22.all_ok U (K22.exA_b c.more) HF K22.eqlaws 40 .law True.intro⟩
