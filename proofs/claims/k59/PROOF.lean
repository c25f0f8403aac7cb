import PyProof.Rows.All
import Wide.All
import OpenK.AllK
import Wide.FinOn
import HandS.ForMost
import HandS.Wide
import HandS.Style
import HandS.Strs
import HandS.Deep
import HandS.Conv
import HandS.More
import HandS.TupAny
import HandS.IsInst
import HandS.DictComp
import HandS.TryOnly
import HandS.ExcOwn
import HandS.WordsExc
import HandS.Small
import HandS.Walk
import HandS.Codes
import PySem.Challenge.RW_differwithin_k59_bad_lines_of_claims
import KE.KExcSuper
import HandS.ForExc
import HandS.ExcInit
import HandS.ExcField
import HandS.ExcIs
import KE.KExcIs
set_option Elab.async false
set_option linter.all false
set_option maxRecDepth 100000
set_option maxHeartbeats 4000000
/-! Kx: what my texts share: callees by name, heaps that keep tuples, immutable data. -/
namespace Kx
open PySem PySem.Spec PyProof.Rows L2

/-! ### a def of the text, a callee -/
structure Def (K : PySem.W.Frag) (mg : Str → Option Value) (nm qual : Str) (st : Stmt) (ps : List Str) : Prop where
  ex : ∃ f fd, Fun K nm qual st f fd ∧ mg nm = some (.ref f) ∧ Binds K fd ps []
structure Cal (P : Program) (w : World) (K : PySem.W.Frag) (mg : Str → Option Value) (base : Heap) (CX : CXT) (k : Nat) (nm : Str) (ps : List Str) (sp : Sp) : Prop where
  ex : ∃ (f : Addr) (fd : FuncData), FnOk P w K mg base CX k f fd ps sp ∧ mg nm = some (.ref f) ∧ PySem.W.keepIn K (.ref f) = true ∧ Binds K fd ps []
theorem Cal.mono {P : Program} {w : World} {K : PySem.W.Frag} {mg : Str → Option Value} {base : Heap} {CX : CXT} {j k : Nat} {nm : Str} {ps : List Str} {sp : Sp} (c : Cal P w K mg base CX j nm ps sp) (h : j ≤ k) : Cal P w K mg base CX k nm ps sp := by
  obtain ⟨f, fd, a, b, d, e⟩ := c.ex
  exact ⟨f, fd, a.mono h, b, d, e⟩
theorem Def.cal {P : Program} {w : World} {K : PySem.W.Frag} {mg : Str → Option Value} {base : Heap} {CX : CXT} {k : Nat} {nm qual : Str} {st : Stmt} {ps : List Str} {sp : Sp} (D : Def K mg nm qual st ps)
    (h : ∀ f fd, Fun K nm qual st f fd → FnOk P w K mg base CX k f fd ps sp) : Cal P w K mg base CX k nm ps sp := by
  obtain ⟨f, fd, a, b, c⟩ := D.ex
  exact ⟨f, fd, h f fd a, b, a.kp, c⟩
section
variable {X : Cx} {CX : CXT} {k : Nat} {ps : List Str} {sp : Sp} {E : XK} {x : Str} {p pos : Pos} {e : Expr} {es : List Expr} {t : TA}
theorem pe_cal (c : Cal X.prog X.w X.K X.mg X.base CX0 k x ps sp) (hr : Room k X.A) (hg : Gl X x) (ha : PA X (e :: es) t) (hdb : (x == ("__debug__" : Str)) = false := by decide)
    (he : starEach (e :: es) X.env = (false, eval e X.env) :: starEach es X.env := by rfl) (hpl : (backTo pos (starEach es X.env)).any (·.1) = false := by rfl) :
    PE X (.Call (.Name x p) (e :: es) [] pos) (tCall sp [] E0 t) := by
  obtain ⟨f, fd, a, b, d, q⟩ := c.ex
  exact pe_call a hr hg b d q .nil pass0 ha hdb he hpl
theorem pe_cal0 (c : Cal X.prog X.w X.K X.mg X.base CX0 k x ps sp) (hr : Room k X.A) (hg : Gl X x) (hdb : (x == ("__debug__" : Str)) = false := by decide) :
    PE X (.Call (.Name x p) [] [] pos) (tCall sp [] E0 tNil) := by
  obtain ⟨f, fd, a, b, d, q⟩ := c.ex
  exact pe_call0 a hr hg b d q .nil pass0 hdb
end
/-- a method as a callee -/
structure MCal (P : Program) (w : World) (K : PySem.W.Frag) (mg : Str → Option Value) (base : Heap) (CX : CXT) (k : Nat) (C : Addr) (nm : Str) (ps : List Str) (sp : Sp) : Prop where
  ex : ∃ (f : Addr) (fd : FuncData), FnOk P w K mg base CX k f fd ps sp ∧ Meth K C nm f ∧ Binds K fd ps []
structure MDef (K : PySem.W.Frag) (C : Addr) (nm qual : Str) (st : Stmt) (ps : List Str) : Prop where
  ex : ∃ f fd, Fun K nm qual st f fd ∧ Meth K C nm f ∧ Binds K fd ps []
theorem MCal.mono {P : Program} {w : World} {K : PySem.W.Frag} {mg : Str → Option Value} {base : Heap} {CX : CXT} {j k : Nat} {C : Addr} {nm : Str} {ps : List Str} {sp : Sp} (c : MCal P w K mg base CX j C nm ps sp) (h : j ≤ k) : MCal P w K mg base CX k C nm ps sp := by
  obtain ⟨f, fd, a, b, d⟩ := c.ex
  exact ⟨f, fd, a.mono h, b, d⟩
theorem MDef.cal {P : Program} {w : World} {K : PySem.W.Frag} {mg : Str → Option Value} {base : Heap} {CX : CXT} {k : Nat} {C : Addr} {nm qual : Str} {st : Stmt} {ps : List Str} {sp : Sp} (D : MDef K C nm qual st ps)
    (h : ∀ f fd, Fun K nm qual st f fd → FnOk P w K mg base CX k f fd ps sp) : MCal P w K mg base CX k C nm ps sp := by
  obtain ⟨f, fd, a, b, c⟩ := D.ex
  exact ⟨f, fd, h f fd a, b, c⟩
section
variable {X : Cx} {CX : CXT} {k : Nat} {C : Addr} {ps : List Str} {sp : Sp} {E : XK} {m : Str} {apos pos : Pos} {o e : Expr} {es : List Expr} {ta : TE} {t : TA}
theorem pe_mcal {pl : Sem Bool} (cl : Cls X.K C) (c : MCal X.prog X.w X.K X.mg X.base CX0 k C m ps sp) (hr : Room k X.A) (ho : PE X o ta) (ha : PA X (e :: es) t)
    (hst : starEach (e :: es) X.env = (false, eval e X.env) :: starEach es X.env := by rfl) (hpl : (backTo pos (starEach es X.env)).any (·.1) = false := by rfl)
    (ht : eval (.Call (.Attribute o m apos) (e :: es) [] pos) X.env = (do
      let ov ← eval o X.env
      standAt apos.atName
      let (f, first) ← holding [ov] (getMethod ov m pl)
      callWith pos f first (backTo pos (starEach (e :: es) X.env)) (backToKw pos (keywordEach [] X.env))) := by rfl) :
    PE X (.Call (.Attribute o m apos) (e :: es) [] pos) (tMeth C m sp [] E0 ta t) := by
  obtain ⟨f, fd, a, b, d⟩ := c.ex
  exact pe_meth ho cl b a hr d .nil pass0 ha hst hpl ht
theorem pe_mcal0 {pl : Sem Bool} (cl : Cls X.K C) (c : MCal X.prog X.w X.K X.mg X.base CX0 k C m ps sp) (hr : Room k X.A) (ho : PE X o ta)
    (ht : eval (.Call (.Attribute o m apos) [] [] pos) X.env = (do
      let ov ← eval o X.env
      standAt apos.atName
      let (f, first) ← holding [ov] (getMethod ov m pl)
      callWith pos f first (backTo pos (starEach [] X.env)) (backToKw pos (keywordEach [] X.env))) := by rfl) :
    PE X (.Call (.Attribute o m apos) [] [] pos) (tMeth C m sp [] E0 ta tNil) := by
  obtain ⟨f, fd, a, b, d⟩ := c.ex
  exact pe_meth0 ho cl b a hr d .nil pass0 ht
end

/-! ### further operators -/
section
variable {X : Cx}
theorem ip_addS : PIp X .Add (fun x y H Q => ∃ i j, x = .str i ∧ y = .str j ∧ i.length + j.length ≤ sizeLine ∧ Q (.str (i ++ j)) H) :=
  fun pins s σ H x y v u Q I r1 r2 h => iop_add_str pins s σ H x y v u Q I r1 r2 h
/-- text * int -/
theorem op_repS : OpR X (binaryOp .Mult) (fun x y H Q => ∃ z n, x = .str z ∧ y = .int n ∧ MulOk z n ∧ Q (.str (Txt.mul z n)) H) := by
  intro pins s σ H x y v u Q I r1 r2 h
  obtain ⟨z, n, rfl, rfl, ok, q⟩ := h
  obtain ⟨t, rfl⟩ := r1
  obtain ⟨t', rfl⟩ := r2
  exact SB.mul ok fun t2 k => ⟨.str _, H, I.tok _, ⟨_, rfl⟩, q⟩
end

/-! ### heaps that keep their tuples -/
def TK (H H' : Hp) : Prop := (∀ b xs, H b = some (.tup xs) → H' b = some (.tup xs)) ∧ ∀ b o u, H b = some (.frz o u) → H' b = some (.frz o u)
theorem TK.refl (H : Hp) : TK H H := ⟨fun _ _ h => h, fun _ _ _ h => h⟩
theorem TK.trans {H H1 H2 : Hp} (a : TK H H1) (b : TK H1 H2) : TK H H2 := ⟨fun c xs h => b.1 c xs (a.1 c xs h), fun c o u h => b.2 c o u (a.2 c o u h)⟩
theorem _root_.L2.Same.tk {H H' : Hp} (s : Same H H') : TK H H' := ⟨fun b _ h => s b _ h, fun b _ _ h => s b _ h⟩
theorem TK.upd {H : Hp} {p : Addr} {o : HO} (h : ∀ xs, H p ≠ some (.tup xs)) (h' : ∀ o u, H p ≠ some (.frz o u)) : TK H (upd H p o) :=
  ⟨fun b xs e => by rw [upd_ne (fun z => h xs (by rw [← z]; exact e))]; exact e, fun b o u e => by rw [upd_ne (fun z => h' o u (by rw [← z]; exact e))]; exact e⟩
theorem TK.new {H : Hp} {p : Addr} {o : HO} (h : H p = none) : TK H (L2.upd H p o) := TK.upd (fun _ e => by rw [h] at e; cases e) (fun _ _ e => by rw [h] at e; cases e)
theorem TK.lst {H : Hp} {p : Addr} {o : HO} {xs : List V} (h : H p = some (.lst xs)) : TK H (L2.upd H p o) := TK.upd (fun _ e => by rw [h] at e; cases e) (fun _ _ e => by rw [h] at e; cases e)
theorem TK.dic {H : Hp} {p : Addr} {o : HO} {xs : List (Key × V)} (h : H p = some (.dK xs)) : TK H (L2.upd H p o) := TK.upd (fun _ e => by rw [h] at e; cases e) (fun _ _ e => by rw [h] at e; cases e)
theorem TK.ins {H : Hp} {p C dx : Addr} {o : HO} {fs : List (Str × V)} (h : H p = some (.ins C dx fs)) : TK H (L2.upd H p o) := TK.upd (fun _ e => by rw [h] at e; cases e) (fun _ _ e => by rw [h] at e; cases e)
theorem TK.tup {K : PySem.W.Frag} {H H' : Hp} {a : Addr} {xs : List V} (t : TK H H') (h : SqT K H a xs) : SqT K H' a xs := by
  rcases h with (h | ⟨o, h⟩) | h
  · exact .inl (.inl (t.1 _ _ h))
  · exact .inl (.inr ⟨o, t.2 _ _ _ h⟩)
  · exact .inr h
theorem same_new {H : Hp} {p : Addr} {o : HO} (h : H p = none) : Same H (upd H p o) := fun b x e => by
  rw [upd_ne (ne_of_none e h)]
  exact e
theorem _root_.L2.Same.upd {H H1 : Hp} {p : Addr} {o : HO} (s : Same H H1) (h : H p = none) : Same H (L2.upd H1 p o) := fun b x e => by
  rw [upd_ne (ne_of_none e h)]
  exact s b x e
/-- all but the object at a is as it was -/
def But (a : Addr) (H H' : Hp) : Prop := ∀ b o, b ≠ a → H b = some o → H' b = some o
theorem But.refl (a : Addr) (H : Hp) : But a H H := fun _ _ _ h => h
theorem But.trans {a : Addr} {H H1 H2 : Hp} (x : But a H H1) (y : But a H1 H2) : But a H H2 := fun b o n h => y b o n (x b o n h)
theorem _root_.L2.Same.but {H H' : Hp} (s : Same H H') (a : Addr) : But a H H' := fun b o _ h => s b o h
theorem But.tk {a : Addr} {H H' : Hp} {xs : List V} (b : But a H H') (h : H a = some (.lst xs)) : TK H H' :=
  ⟨fun c ys e => b c _ (fun z => by rw [z, h] at e; cases e) e, fun c o u e => b c _ (fun z => by rw [z, h] at e; cases e) e⟩
theorem But.upd {a : Addr} {H : Hp} {o : HO} : But a H (L2.upd H a o) := fun b x n e => by rw [upd_ne n]; exact e
theorem But.new {a p : Addr} {H H1 : Hp} {o : HO} (s : But a H H1) (h : H p = none) : But a H (L2.upd H1 p o) := fun b x n e => by
  rw [upd_ne (ne_of_none e h)]
  exact s b x n e
theorem But.new1 {a p : Addr} {H H1 : Hp} {o : HO} (s : But a H H1) (h : H1 p = none) : But a H (L2.upd H1 p o) := fun b x n e => by
  rw [upd_ne (ne_of_none (s b x n e) h)]
  exact s b x n e
theorem But.self {a : Addr} {H H1 : Hp} {o : HO} (s : But a H H1) : But a H (L2.upd H1 a o) := fun b x n e => by
  rw [upd_ne n]
  exact s b x n e
theorem But.free {a p : Addr} {H H1 : Hp} (s : But a H H1) (n : p ≠ a) (h : H1 p = none) : H p = none := by
  cases q : H p with
  | none => rfl
  | some o =>
    rw [s p o n q] at h
    cases h
theorem But.lst {K : PySem.W.Frag} {a b : Addr} {H H' : Hp} {xs : List V} (x : But a H H') (n : b ≠ a) (h : SqL K H b xs) : SqL K H' b xs := by
  rcases h with (h | ⟨o, h⟩) | h
  · exact .inl (.inl (x _ _ n h))
  · exact .inl (.inr ⟨o, x _ _ n h⟩)
  · exact .inr h

theorem But.lstR {K : PySem.W.Frag} {a b : Addr} {H H' : Hp} {xs : List V} (h : SqL K H b xs) (n : b ≠ a) (x : But a H H') : SqL K H' b xs := x.lst n h
theorem But.transR {a : Addr} {H H1 H2 : Hp} (y : But a H1 H2) (x : But a H H1) : But a H H2 := x.trans y
theorem sameTransR {H H1 H2 : Hp} (y : Same H1 H2) (x : Same H H1) : Same H H2 := x.trans y
theorem sameFreeR {H H' : Hp} {l : Addr} (h : H' l = none) (e : Same H H') : H l = none := e.free h

/-! ### immutable data: tuples of tuples of ints, texts, bools, None -/
mutual
inductive Im (K : PySem.W.Frag) (H : Hp) : V → PyData → Prop
  | non : Im K H .non .none
  | bl (b : Bool) : Im K H (.bl b) (.bool b)
  | int (i : Int) : Im K H (.int i) (.int i)
  | str (x : Str) : Im K H (.str x) (.str x)
  | tup {a : Addr} {xs : List V} {ds : List PyData} : SqT K H a xs → Ims K H xs ds → Im K H (.ref a) (.tuple ds)
inductive Ims (K : PySem.W.Frag) (H : Hp) : List V → List PyData → Prop
  | nil : Ims K H [] []
  | cons {v : V} {vs : List V} {d : PyData} {ds : List PyData} : Im K H v d → Ims K H vs ds → Ims K H (v :: vs) (d :: ds)
end
section
variable {K : PySem.W.Frag} {H H' : Hp}
mutual
theorem Im.dp : ∀ (d : PyData) {v : V}, Im K H v d → Dp K H v d
  | .none, _, h => by cases h; exact .non
  | .bool _, _, h => by cases h; exact .bl _
  | .int _, _, h => by cases h; exact .int _
  | .str _, _, h => by cases h; exact .str _
  | .list _, _, h => by cases h
  | .tuple ds, _, h => by
    cases h with
    | tup a b => exact .tup a (Ims.dp ds b)
  | .dict _, _, h => by cases h
theorem Ims.dp : ∀ (ds : List PyData) {vs : List V}, Ims K H vs ds → DpAll K H vs ds
  | [], _, h => by cases h; exact .nil
  | d :: ds, _, h => by
    cases h with
    | cons a b => exact .cons (Im.dp d a) (Ims.dp ds b)
end
mutual
theorem Im.mono (t : TK H H') : ∀ (d : PyData) {v : V}, Im K H v d → Im K H' v d
  | .none, _, h => by cases h; exact .non
  | .bool _, _, h => by cases h; exact .bl _
  | .int _, _, h => by cases h; exact .int _
  | .str _, _, h => by cases h; exact .str _
  | .list _, _, h => by cases h
  | .tuple ds, _, h => by
    cases h with
    | tup a b => exact .tup (t.tup a) (Ims.mono t ds b)
  | .dict _, _, h => by cases h
theorem Ims.mono (t : TK H H') : ∀ (ds : List PyData) {vs : List V}, Ims K H vs ds → Ims K H' vs ds
  | [], _, h => by cases h; exact .nil
  | d :: ds, _, h => by
    cases h with
    | cons a b => exact .cons (Im.mono t d a) (Ims.mono t ds b)
end
theorem TK.im {v : V} {d : PyData} (t : TK H H') (h : Im K H v d) : Im K H' v d := Im.mono t d h
theorem TK.ims {v : List V} {d : List PyData} (t : TK H H') (h : Ims K H v d) : Ims K H' v d := Ims.mono t d h
theorem Ims.length : ∀ {vs : List V} {ds : List PyData}, Ims K H vs ds → vs.length = ds.length
  | _, _, .nil => rfl
  | _, _, .cons _ h => by rw [List.length_cons, List.length_cons, Ims.length h]
theorem Ims.get : ∀ {vs : List V} {ds : List PyData}, Ims K H vs ds → ∀ {i : Nat} {v : V}, vs[i]? = some v → ∃ d, ds[i]? = some d ∧ Im K H v d
  | _, _, .nil, _, _, e => by simp at e
  | _, _, .cons h _, 0, _, e => by
    cases e
    exact ⟨_, rfl, h⟩
  | _, _, .cons _ h, i + 1, _, e => Ims.get h (i := i) e
theorem Ims.get' : ∀ {vs : List V} {ds : List PyData}, Ims K H vs ds → ∀ {i : Nat} {d : PyData}, ds[i]? = some d → ∃ v, vs[i]? = some v ∧ Im K H v d
  | _, _, .nil, _, _, e => by simp at e
  | _, _, .cons h _, 0, _, e => by
    cases e
    exact ⟨_, rfl, h⟩
  | _, _, .cons _ h, i + 1, _, e => Ims.get' h (i := i) e
theorem Ims.append : ∀ {vs ws : List V} {ds es : List PyData}, Ims K H vs ds → Ims K H ws es → Ims K H (vs ++ ws) (ds ++ es)
  | _, _, _, _, .nil, h => h
  | _, _, _, _, .cons a b, h => .cons a (Ims.append b h)
theorem Ims.snoc {vs : List V} {v : V} {ds : List PyData} {d : PyData} (a : Ims K H vs ds) (b : Im K H v d) : Ims K H (vs ++ [v]) (ds ++ [d]) := Ims.append a (.cons b .nil)
theorem Im.tup_inv {v : V} {ds : List PyData} (h : Im K H v (.tuple ds)) : ∃ a xs, v = .ref a ∧ SqT K H a xs ∧ Ims K H xs ds := by
  cases h with
  | tup a b => exact ⟨_, _, rfl, a, b⟩
theorem Im.str_inv {v : V} {x : Str} (h : Im K H v (.str x)) : v = .str x := by
  cases h
  rfl
theorem Im.int_inv {v : V} {x : Int} (h : Im K H v (.int x)) : v = .int x := by
  cases h
  rfl
theorem Im.bl_inv {v : V} {x : Bool} (h : Im K H v (.bool x)) : v = .bl x := by
  cases h
  rfl
theorem Ims.nil_inv {vs : List V} (h : Ims K H vs []) : vs = [] := by
  cases h
  rfl
theorem Ims.cons_inv {vs : List V} {d : PyData} {ds : List PyData} (h : Ims K H vs (d :: ds)) : ∃ v r, vs = v :: r ∧ Im K H v d ∧ Ims K H r ds := by
  cases h with
  | cons a b => exact ⟨_, _, rfl, a, b⟩
theorem ims_strs : ∀ (xs : List Str), Ims K H (xs.map V.str) (xs.map PyData.str)
  | [] => .nil
  | x :: xs => .cons (.str x) (ims_strs xs)
theorem ims_strs_inv : ∀ {xs : List Str} {vs : List V}, Ims K H vs (xs.map PyData.str) → vs = xs.map V.str
  | [], _, h => by cases h; rfl
  | x :: xs, _, h => by
    obtain ⟨v, r, rfl, a, b⟩ := Ims.cons_inv h
    rw [Im.str_inv a, ims_strs_inv b]
    rfl
theorem ims_ints : ∀ (xs : List Int), Ims K H (xs.map V.int) (xs.map PyData.int)
  | [] => .nil
  | x :: xs => .cons (.int x) (ims_ints xs)
end
theorem start_eq {N : List Str} {vs : List V} {σ : L2.St} (h : vs.map some ++ List.replicate (N.length - vs.length) none = σ) : start N vs = σ := h
theorem dec_false {p : Prop} [Decidable p] (h : ¬ p) {A B : Prop} (b : B) : if decide p = true then A else B := by
  rw [decide_eq_false h]
  exact iteF b
theorem dec_true {p : Prop} [Decidable p] (h : p) {A B : Prop} (b : A) : if decide p = true then A else B := by
  rw [decide_eq_true h]
  exact iteT b
theorem decN_false {p : Prop} [Decidable p] (h : p) {A B : Prop} (b : B) : if (!decide p) = true then A else B := by
  rw [decide_eq_true h]
  exact iteF b
theorem decN_true {p : Prop} [Decidable p] (h : ¬ p) {A B : Prop} (b : A) : if (!decide p) = true then A else B := by
  rw [decide_eq_false h]
  exact iteT b
/-- the first way ends where the second one does -/
theorem ite_to {c A B : Prop} [Decidable c] (b : B) (h : c → B → A) : if c then A else B := by
  by_cases z : c
  · rw [if_pos z]
    exact h z b
  · rw [if_neg z]
    exact b
/-- the second way ends where the first one does -/
theorem ite_too {c A B : Prop} [Decidable c] (a : A) (h : ¬ c → A → B) : if c then A else B := by
  by_cases z : c
  · rw [if_pos z]
    exact a
  · rw [if_neg z]
    exact h z a
theorem of_iteF {A B : Prop} (h : if false = true then A else B) : B := by
  rw [if_neg Bool.false_ne_true] at h
  exact h
theorem of_iteT {A B : Prop} (h : if true = true then A else B) : A := by
  rw [if_pos rfl] at h
  exact h
theorem in_room {A : Around} {k : Nat} (hr : Room k A) : A.units + 65 < cLine := by
  have := hr.un
  omega
section
variable {X : Cx} {x : Str} {pos : Pos}
theorem pe_globI {i : Int} (hg : Gl X x) (hm : ∃ t, X.mg x = some (.int i t)) (hd : (x == ("__debug__" : Str)) = false := by decide) : PE X (.Name x pos) (tC (.int i)) := by
  obtain ⟨t, e⟩ := hm
  exact pe_glob hg e ⟨t, rfl⟩ hd
theorem pe_globS {z : Str} (hg : Gl X x) (hm : ∃ t, X.mg x = some (.str z t)) (hd : (x == ("__debug__" : Str)) = false := by decide) : PE X (.Name x pos) (tC (.str z)) := by
  obtain ⟨t, e⟩ := hm
  exact pe_glob hg e ⟨t, rfl⟩ hd
theorem pe_globR {a : Addr} (hg : Gl X x) (hm : X.mg x = some (.ref a)) (hd : (x == ("__debug__" : Str)) = false := by decide) : PE X (.Name x pos) (tC (.ref a)) := pe_glob hg hm rfl hd
end
/-- the built-ins' names stand free -/
structure Bi (mg : Str → Option Value) : Prop where
  len : mg "len" = none
  range : mg "range" = none
  tuple : mg "tuple" = none
  list : mg "list" = none
  abs : mg "abs" = none
  int : mg "int" = none
  str : mg "str" = none
  bool : mg "bool" = none
  sorted : mg "sorted" = none
  sum : mg "sum" = none
  all : mg "all" = none
  any : mg "any" = none
  isinstance : mg "isinstance" = none
  enumerate : mg "enumerate" = none
/-! ### the drawing state -/
def StOk (K : PySem.W.Frag) (H : Hp) (st l : Addr) : Prop := ∃ (i j k : Int) (ns : List Int), H st = some (.lst [.ref l, .int i, .int j, .int k]) ∧ SqL K H l (ns.map V.int) ∧ l ≠ st
theorem cdivw {j m : Int} (h : 0 < m) (hb : m ≤ 10 ^ 30) : CDivW j m := by
  have e : (10 : Int) ^ 30 = 1000000000000000000000000000000 := by decide
  rw [e] at hb
  refine wide_div h (b := 100) ?_ (by decide) (by decide)
  have e2 : (2 : Nat) ^ 100 = 1267650600228229401496703205376 := by decide
  rw [e2]
  omega
theorem log2_ok {n : Nat} (h : n < 10 ^ 60) : ((n : Int)).natAbs.log2 < 1920 := by
  show n.log2 < 1920
  have e : (10 : Nat) ^ 60 < 2 ^ 200 := by decide
  exact Nat.lt_of_lt_of_le (PySem.Flt.log2_lt_of (by decide : 0 < 200) (Nat.lt_trans h e)) (by decide)
theorem mod_lt {a m : Int} (h : 0 < m) : 0 ≤ a % m ∧ a % m < m := ⟨Int.emod_nonneg _ (by omega), Int.emod_lt_of_pos _ h⟩
theorem at_mod {ns : List Int} (i : Int) (h : 0 < ((ns.map V.int).length : Int)) : ∃ c : Int, atI (ns.map V.int) (i % ((ns.map V.int).length : Int)) = some (.int c) := by
  have h1 := mod_lt (a := i) h
  obtain ⟨j, e⟩ : ∃ j : Nat, i % ((ns.map V.int).length : Int) = (j : Int) := ⟨(i % ((ns.map V.int).length : Int)).toNat, by omega⟩
  rw [e] at h1 ⊢
  have h2 : j < ns.length := by
    have := h1.2
    rw [List.length_map] at this
    omega
  exact ⟨ns[j], at_of rfl (by rw [List.getElem?_map, List.getElem?_eq_getElem h2]; rfl)⟩
/-- a draw: some number below the bound -/
def spDraw (K : PySem.W.Frag) : Sp := fun vs H Q _ => ∃ (st l : Addr) (m : Int), vs = [.ref st, .int m] ∧ StOk K H st l ∧ 0 < m ∧ m ≤ 10 ^ 30 ∧ ∀ r H', 0 ≤ r → r < m → But st H H' → StOk K H' st l → Q (.int r) H'
/-! ### the same rules with the written part named: for a comprehension's block -/
section
variable {X : Cx} {K : PySem.W.Frag}
theorem ix_tupK (h : X.K = K) : IxR X (rIxT K) := by
  subst h
  exact ix_tup
theorem ix_listK (h : X.K = K) : IxR X (rIxL K) := by
  subst h
  exact ix_list
theorem sl_listK (h : X.K = K) : SlR X (rSlL K) := by
  subst h
  exact sl_list
theorem op_in_seqK (h : X.K = K) : OpR X (compareOp .In) (rIn K false) := by
  subst h
  exact op_in_seq
theorem op_notIn_seqK (h : X.K = K) : OpR X (compareOp .NotIn) (rIn K true) := by
  subst h
  exact op_notIn_seq
theorem op_eqDK (h : X.K = K) (hu : X.A.units + 64 < cLine) : OpR X (compareOp .Eq) (rEqD K) := by
  subst h
  exact op_eqD hu
theorem op_neDK (h : X.K = K) (hu : X.A.units + 64 < cLine) : OpR X (compareOp .NotEq) (rNeD K) := by
  subst h
  exact op_neD hu
theorem pg_tupK {es : List Expr} {k : Nat} {t : TGs} {n : Nat} {pos : Pos} (hK : X.K = K) (hc : X.calm = true) (h : PGs X es t)
    (hn : (assignEach es X.env).length = n := by rfl) (hst : (assignEach es X.env).findIdx? (·.1) = none := by rfl) : PG X (.Tuple es k pos) (gTup K n t) := by
  subst hK
  exact pg_tup hc h hn hst
theorem pe_joinK {o e : Expr} {to te : TE} {apos pos : Pos} (h : X.K = K) (ho : PE X o to) (he : PE X e te) (hs : starEach [e] X.env = [(false, eval e X.env)] := by rfl) (hbase : attributeBase o "join" X.env (eval o X.env) = eval o X.env := by rfl) (hline : (apos.endLine == pos.line) = true := by rfl) :
    PE X (.Call (.Attribute o "join" apos) [e] [] pos) (tM1 (fun x xs H Q => ∃ a p, ∃ ys : List Str, x = .str a ∧ xs = [.ref p] ∧ (SqL K H p (ys.map V.str) ∨ SqT K H p (ys.map V.str)) ∧ (ys.map (·.length)).sum + ys.length * a.length ≤ 16777216 ∧ Q (.str (Txt.join a ys)) H) to te) := by
  subst h
  exact pe_join ho he hs hbase hline
end
end Kx
set_option Elab.async false
set_option linter.all false
set_option maxRecDepth 100000
set_option maxHeartbeats 4000000
/-! M: the mathematics of the texts of claims, in plain Lean over signs. -/
namespace M
open PySem PySem.Builtin PySem.Builtin.Str TL
abbrev S (s : String) : Str := Str.ofString s
/-! ### names and numbers -/
def nh : List Nat := tl (S "abcdefghijklmnopqrstuvwxyz@#.?_")
def dg : List Nat := tl (S "0123456789")
theorem dg_eq : dg = [48, 49, 50, 51, 52, 53, 54, 55, 56, 57] := by decide +kernel
theorem nh_eq : nh = [97, 98, 99, 100, 101, 102, 103, 104, 105, 106, 107, 108, 109, 110, 111, 112, 113, 114, 115, 116, 117, 118, 119, 120, 121, 122, 64, 35, 46, 63, 95] := by decide +kernel
def isNL : List Nat → Bool
  | [] => false
  | c :: r => decide (c ∈ nh) && r.all fun d => decide (d ∈ nh) || decide (d ∈ dg)
def isN (x : Str) : Bool := isNL (tl x)
structure NameOk (x : Str) : Prop where
  is : isN x = true
  len : x.length ≤ 100
theorem NameOk.ne {x : Str} (h : NameOk x) : x ≠ Str.empty := by
  intro e
  have := h.is
  rw [e] at this
  exact absurd this (by decide)
theorem isNL_mem : ∀ {l : List Nat}, isNL l = true → ∀ c ∈ l, c ∈ nh ∨ c ∈ dg
  | [], h, _, _ => by cases h
  | a :: r, h, c, hc => by
    unfold isNL at h
    rw [Bool.and_eq_true] at h
    rcases List.mem_cons.mp hc with e | e
    · subst e
      exact .inl (of_decide_eq_true h.1)
    · have := List.all_eq_true.mp h.2 c e
      rw [Bool.or_eq_true] at this
      rcases this with q | q
      · exact .inl (of_decide_eq_true q)
      · exact .inr (of_decide_eq_true q)
def num (n : Nat) : Str := Str.ofString (toString ((n : Nat) : Int))
theorem tl_numS (n : Nat) : tl (num n) = numL n := tl_num n
theorem num_mem {n c : Nat} (h : c ∈ tl (num n)) : c ∈ dg := by
  rw [tl_numS] at h
  have q := numL_digits n c h
  rw [dg_eq]
  have : 48 ≤ c ∧ c ≤ 57 := by first | exact q | (exact ⟨q.1, q.2⟩)
  have h1 : c = 48 ∨ c = 49 ∨ c = 50 ∨ c = 51 ∨ c = 52 ∨ c = 53 ∨ c = 54 ∨ c = 55 ∨ c = 56 ∨ c = 57 := by omega
  rcases h1 with e | e | e | e | e | e | e | e | e | e <;> subst e <;> decide
theorem num_ne (n : Nat) : tl (num n) ≠ [] := by
  rw [tl_numS]
  exact numL_ne n
theorem num_len {n : Nat} (h : n < 10 ^ 60) : (num n).length ≤ 60 := by
  rw [len_tl, tl_numS]
  exact numL_len (by decide) h
/-! ### forms -/
abbrev Form := Int × List (Str × Int)
def sLt (x y : Str) : Prop := tl x < tl y
structure FOk (f : Form) : Prop where
  nm : ∀ p ∈ f.2, NameOk p.1
  nz : ∀ p ∈ f.2, p.2 ≠ 0
  big : ∀ p ∈ f.2, p.2.natAbs < 10 ^ 60
  srt : (f.2.map (·.1)).Pairwise sLt
  cst : f.1.natAbs < 10 ^ 60
  len : f.2.length ≤ 50
/-- small: as drawn -/
structure FSm (f : Form) : Prop where
  nm : ∀ p ∈ f.2, p.1.length ≤ 11 ∧ p.2.natAbs < 10 ^ 32
  cst : f.1.natAbs < 10 ^ 32
  len : f.2.length ≤ 5
/-- a term's text: no name for a constant -/
def tm (nm : Str) (a : Nat) : Str := if nm = Str.empty then num a else if a = 1 then nm else num a ++ S "*" ++ nm
/-- the terms, the constant last -/
def terms (f : Form) : List (Str × Int) := if f.1 ≠ 0 ∨ f.2 = [] then f.2 ++ [(Str.empty, f.1)] else f.2
def sg (n : Int) : Str := if n < 0 then S "-" else Str.empty
def pm (n : Int) : Str := if n < 0 then S "-" else S "+"
def sp (n : Int) : Str := if n < 0 then S " - " else S " + "
def wtl : List (Str × Int) → Str
  | [] => Str.empty
  | p :: r => sp p.2 ++ tm p.1 p.2.natAbs ++ wtl r
def wterms : List (Str × Int) → Str
  | [] => Str.empty
  | p :: r => sg p.2 ++ tm p.1 p.2.natAbs ++ wtl r
/-- the written form -/
def wr (f : Form) : Str := wterms (terms f)
def wdl : List (Str × Int) → List Str
  | [] => []
  | p :: r => pm p.2 :: tm p.1 p.2.natAbs :: wdl r
def wdt : List (Str × Int) → List Str
  | [] => []
  | p :: r => (sg p.2 ++ tm p.1 p.2.natAbs) :: wdl r
/-- its words -/
def wd (f : Form) : List Str := wdt (terms f)
theorem terms_ne (f : Form) : terms f ≠ [] := by
  unfold terms
  split
  · simp
  · rename_i h
    intro e
    exact h (.inr e)
def POk (p : Str × Int) : Prop := (p.1 = Str.empty ∨ (NameOk p.1 ∧ p.2 ≠ 0)) ∧ p.2.natAbs < 10 ^ 60
theorem terms_ok {f : Form} (h : FOk f) : ∀ p ∈ terms f, POk p := by
  intro p hp
  unfold terms at hp
  have base : ∀ p ∈ f.2, POk p := fun p hp => ⟨.inr ⟨h.nm p hp, h.nz p hp⟩, h.big p hp⟩
  split at hp
  · rcases List.mem_append.mp hp with q | q
    · exact base p q
    · rw [List.mem_singleton] at q
      subst q
      exact ⟨.inl rfl, h.cst⟩
  · exact base p hp
theorem terms_len {f : Form} (h : FOk f) : (terms f).length ≤ 51 := by
  have := h.len
  unfold terms
  split
  · rw [List.length_append]
    show f.2.length + 1 ≤ 51
    omega
  · omega
theorem app_empty (x : Str) : x ++ Str.empty = x := ext_tl (by rw [tl_append]; exact List.append_nil _)
theorem empty_app (x : Str) : Str.empty ++ x = x := ext_tl (by rw [tl_append]; rfl)
theorem app_assoc (x y z : Str) : x ++ y ++ z = x ++ (y ++ z) := ext_tl (by rw [tl_append, tl_append, tl_append, tl_append, List.append_assoc])
theorem len_app (x y : Str) : (x ++ y).length = x.length + y.length := by
  rw [len_tl, tl_append, List.length_append, ← len_tl, ← len_tl]
theorem sp_eq (n : Int) : sp n = S " " ++ pm n ++ S " " := by
  unfold sp pm
  split
  · exact (by decide +kernel : S " - " = S " " ++ S "-" ++ S " ")
  · exact (by decide +kernel : S " + " = S " " ++ S "+" ++ S " ")
/-! ### a term's signs -/
theorem tm_mem {p : Str × Int} (h : POk p) : ∀ c ∈ tl (tm p.1 p.2.natAbs), c ∈ nh ∨ c ∈ dg ∨ c = 42 := by
  intro c hc
  unfold tm at hc
  split at hc
  · exact .inr (.inl (num_mem hc))
  · rename_i hne
    have hn : NameOk p.1 := by
      rcases h.1 with q | q
      · exact absurd q hne
      · exact q.1
    split at hc
    · rcases isNL_mem hn.is c hc with q | q
      · exact .inl q
      · exact .inr (.inl q)
    · rw [tl_append, tl_append] at hc
      rcases List.mem_append.mp hc with q | q
      · rcases List.mem_append.mp q with q | q
        · exact .inr (.inl (num_mem q))
        · have e : tl (S "*") = [42] := by decide +kernel
          rw [e, List.mem_singleton] at q
          exact .inr (.inr q)
      · rcases isNL_mem hn.is c q with q | q
        · exact .inl q
        · exact .inr (.inl q)
theorem tm_ne {p : Str × Int} (h : POk p) : tl (tm p.1 p.2.natAbs) ≠ [] := by
  unfold tm
  split
  · exact num_ne _
  · rename_i hne
    split
    · intro e
      exact hne (ext_tl e)
    · rw [tl_append, tl_append]
      intro e
      exact num_ne _ (List.append_eq_nil_iff.mp (List.append_eq_nil_iff.mp e).1).1
theorem tm_len {p : Str × Int} (h : POk p) : (tm p.1 p.2.natAbs).length ≤ 161 := by
  have h1 := num_len h.2
  unfold tm
  split
  · omega
  · rename_i hne
    have hn : p.1.length ≤ 100 := by
      rcases h.1 with q | q
      · exact absurd q hne
      · exact q.1.len
    split
    · omega
    · rw [len_app, len_app]
      have e : (S "*").length = 1 := by decide +kernel
      omega
/-- no blank, no newline among the signs -/
def Clean (x : Str) : Prop := tl x ≠ [] ∧ ∀ c ∈ tl x, Unicode.isSpace c = false
theorem Clean.no {x : Str} (h : Clean x) {s : Nat} (hs : Unicode.isSpace s = true) : s ∉ tl x := fun m => by
  rw [h.2 s m] at hs
  cases hs
theorem plain_all : ∀ c ∈ 42 :: 43 :: 45 :: (nh ++ dg), Unicode.isSpace c = false := by decide +kernel
theorem Clean.of {x : Str} (hn : tl x ≠ []) (h : ∀ c ∈ tl x, c ∈ nh ∨ c ∈ dg ∨ c = 42 ∨ c = 43 ∨ c = 45) : Clean x := by
  refine ⟨hn, fun c hc => plain_all c ?_⟩
  rcases h c hc with q | q | q | q | q
  · simp [q]
  · simp [q]
  · simp [q]
  · simp [q]
  · simp [q]
theorem tl_minus : tl (S "-") = [45] := by decide +kernel
theorem tl_plus : tl (S "+") = [43] := by decide +kernel
theorem pm_clean (n : Int) : Clean (pm n) := by
  unfold pm
  split
  · exact Clean.of (by rw [tl_minus]; simp) (by rw [tl_minus]; simp)
  · exact Clean.of (by rw [tl_plus]; simp) (by rw [tl_plus]; simp)
theorem tm_clean {p : Str × Int} (h : POk p) : Clean (tm p.1 p.2.natAbs) := Clean.of (tm_ne h) fun c hc => by
  rcases tm_mem h c hc with q | q | q
  · exact .inl q
  · exact .inr (.inl q)
  · exact .inr (.inr (.inl q))
theorem sgtm_clean {p : Str × Int} (h : POk p) : Clean (sg p.2 ++ tm p.1 p.2.natAbs) := by
  unfold sg
  split
  · refine Clean.of ?_ ?_
    · rw [tl_append, tl_minus]
      simp
    · intro c hc
      rw [tl_append, tl_minus] at hc
      rcases List.mem_append.mp hc with q | q
      · rw [List.mem_singleton] at q
        exact .inr (.inr (.inr (.inr q)))
      · rcases tm_mem h c q with q | q | q
        · exact .inl q
        · exact .inr (.inl q)
        · exact .inr (.inr (.inl q))
  · rw [empty_app]
    exact tm_clean h
theorem wdl_clean : ∀ {l : List (Str × Int)}, (∀ p ∈ l, POk p) → ∀ w ∈ wdl l, Clean w
  | [], _, _, hw => by cases hw
  | p :: r, h, w, hw => by
    have hp := h p (List.mem_cons_self ..)
    rcases List.mem_cons.mp hw with e | e
    · subst e
      exact pm_clean _
    · rcases List.mem_cons.mp e with e | e
      · subst e
        exact tm_clean hp
      · exact wdl_clean (fun q hq => h q (List.mem_cons_of_mem _ hq)) w e
theorem wdt_clean : ∀ {l : List (Str × Int)}, (∀ p ∈ l, POk p) → ∀ w ∈ wdt l, Clean w
  | [], _, _, hw => by cases hw
  | p :: r, h, w, hw => by
    have hp := h p (List.mem_cons_self ..)
    rcases List.mem_cons.mp hw with e | e
    · subst e
      exact sgtm_clean hp
    · exact wdl_clean (fun q hq => h q (List.mem_cons_of_mem _ hq)) w e
theorem wd_clean {f : Form} (h : FOk f) : ∀ w ∈ wd f, Clean w := wdt_clean (terms_ok h)
theorem wdl_lens : ∀ {l : List (Str × Int)}, (∀ p ∈ l, POk p) → ∀ w ∈ wdl l, w.length ≤ 162
  | [], _, _, hw => by cases hw
  | p :: r, h, w, hw => by
    have hp := h p (List.mem_cons_self ..)
    rcases List.mem_cons.mp hw with e | e
    · subst e
      have e1 : (S "-").length = 1 := by decide +kernel
      have e2 : (S "+").length = 1 := by decide +kernel
      unfold pm
      split <;> omega
    · rcases List.mem_cons.mp e with e | e
      · subst e
        have := tm_len hp
        omega
      · exact wdl_lens (fun q hq => h q (List.mem_cons_of_mem _ hq)) w e
theorem wdt_lens : ∀ {l : List (Str × Int)}, (∀ p ∈ l, POk p) → ∀ w ∈ wdt l, w.length ≤ 162
  | [], _, _, hw => by cases hw
  | p :: r, h, w, hw => by
    have hp := h p (List.mem_cons_self ..)
    rcases List.mem_cons.mp hw with e | e
    · subst e
      have := tm_len hp
      rw [len_app]
      have e1 : (S "-").length = 1 := by decide +kernel
      have e2 : (Str.empty).length = 0 := by decide +kernel
      unfold sg
      split <;> omega
    · exact wdl_lens (fun q hq => h q (List.mem_cons_of_mem _ hq)) w e
theorem wd_lens {f : Form} (h : FOk f) : ∀ w ∈ wd f, w.length ≤ 162 := wdt_lens (terms_ok h)
theorem wdl_count : ∀ l : List (Str × Int), (wdl l).length = 2 * l.length
  | [] => rfl
  | p :: r => by
    show (wdl r).length + 1 + 1 = 2 * (r.length + 1)
    rw [wdl_count r]
    omega
theorem wdt_count : ∀ l : List (Str × Int), l ≠ [] → (wdt l).length = 2 * l.length - 1
  | [], h => absurd rfl h
  | p :: r, _ => by
    show (wdl r).length + 1 = 2 * (r.length + 1) - 1
    rw [wdl_count r]
    omega
theorem wd_count {f : Form} (h : FOk f) : (wd f).length ≤ 101 := by
  have h1 := terms_len h
  have h2 := wdt_count _ (terms_ne f)
  unfold wd
  omega
theorem wd_ne (f : Form) : wd f ≠ [] := by
  intro e
  have h2 := wdt_count _ (terms_ne f)
  have h3 : 0 < (terms f).length := List.length_pos_iff.mpr (terms_ne f)
  unfold wd at e
  rw [e] at h2
  have : ([] : List Str).length = 0 := rfl
  omega
/-- the text is its words, a blank between -/
theorem wtl_join : ∀ (l : List (Str × Int)) (x : Str), Str.join (S " ") (x :: wdl l) = x ++ wtl l
  | [], x => by
    show x = x ++ Str.empty
    rw [app_empty]
  | p :: r, x => by
    show x ++ S " " ++ (pm p.2 ++ S " " ++ Str.join (S " ") (tm p.1 p.2.natAbs :: wdl r)) = x ++ (sp p.2 ++ tm p.1 p.2.natAbs ++ wtl r)
    rw [wtl_join r, sp_eq]
    simp only [app_assoc]
theorem wr_join (f : Form) : wr f = Txt.join (S " ") (wd f) := by
  rw [join_eq]
  unfold wr wd
  generalize e : terms f = l
  cases l with
  | nil => exact absurd e (terms_ne f)
  | cons p r =>
    show sg p.2 ++ tm p.1 p.2.natAbs ++ wtl r = Str.join (S " ") ((sg p.2 ++ tm p.1 p.2.natAbs) :: wdl r)
    rw [wtl_join]
theorem tl_blank : tl (S " ") = [32] := by decide +kernel
theorem sp32 : Unicode.isSpace 32 = true := by decide +kernel
theorem sp10 : Unicode.isSpace 10 = true := by decide +kernel
theorem wr_split {f : Form} (h : FOk f) : Txt.split (wr f) (S " ") = wd f := by
  rw [wr_join]
  exact split_join (s := 32) (S := []) tl_blank (by decide +kernel) (wd_ne f) fun p hp => (wd_clean h p hp).no sp32
/-! ### lengths of joined texts -/
theorem join_len (y : Str) : ∀ l : List Str, (Str.join y l).length ≤ (l.map (·.length)).sum + l.length * y.length
  | [] => by
    show (0 : Nat) ≤ _
    omega
  | [x] => by
    show x.length ≤ (x.length + 0) + 1 * y.length
    omega
  | x :: z :: r => by
    have ih := join_len y (z :: r)
    show (x ++ y ++ Str.join y (z :: r)).length ≤ _
    rw [len_app, len_app, List.map_cons, List.sum_cons, List.length_cons (as := z :: r), Nat.add_mul]
    omega
theorem sum_le {b : Nat} : ∀ {l : List Str}, (∀ x ∈ l, x.length ≤ b) → (l.map (·.length)).sum ≤ l.length * b
  | [], _ => by simp
  | x :: r, h => by
    have h1 := h x (List.mem_cons_self ..)
    have h2 := sum_le (l := r) fun z hz => h z (List.mem_cons_of_mem _ hz)
    rw [List.map_cons, List.sum_cons, List.length_cons, Nat.add_mul]
    omega
theorem wr_len {f : Form} (h : FOk f) : (wr f).length ≤ 17000 := by
  rw [wr_join, join_eq]
  have h1 := join_len (S " ") (wd f)
  have h2 := sum_le (wd_lens h)
  have h3 := wd_count h
  have e : (S " ").length = 1 := by decide +kernel
  rw [e] at h1
  have h4 : (wd f).length * 162 ≤ 101 * 162 := Nat.mul_le_mul_right _ h3
  omega
/-- data -/
def fD (f : Form) : PyData := .tuple [.int f.1, .tuple (f.2.map fun p => .tuple [.str p.1, .int p.2])]
def pD (p : Str × Int) : PyData := .tuple [.str p.1, .int p.2]
def qD (p : Str × Str) : PyData := .tuple [.str p.1, .str p.2]
/-! ### slices -/
open L2 in
theorem cut_to (x : Str) (k : Nat) : tl (cutS x none (some (k : Int))) = (tl x).take k := by
  show (((x.cps.toList.drop (HT.sIx x.length 0 none)).take (HT.sIx x.length x.length (some (k : Int)) - HT.sIx x.length 0 none)).toArray).toList = _
  rw [HT.sIx_none, HT.sIx_nat, List.drop_zero, Nat.sub_zero]
  show (tl x).take (min k x.length) = (tl x).take k
  rw [len_tl]
  by_cases h : k ≤ (tl x).length
  · rw [Nat.min_eq_left h]
  · rw [Nat.min_eq_right (by omega), List.take_of_length_le (Nat.le_refl _), List.take_of_length_le (by omega)]
open L2 in
theorem cut_from (x : Str) (k : Nat) : tl (cutS x (some (k : Int)) none) = (tl x).drop k := by
  show (((x.cps.toList.drop (HT.sIx x.length 0 (some (k : Int)))).take (HT.sIx x.length x.length none - HT.sIx x.length 0 (some (k : Int)))).toArray).toList = _
  rw [HT.sIx_none, HT.sIx_nat]
  show ((tl x).drop (min k x.length)).take (x.length - min k x.length) = (tl x).drop k
  rw [len_tl]
  by_cases h : k ≤ (tl x).length
  · rw [Nat.min_eq_left h, List.take_of_length_le (by rw [List.length_drop]; exact Nat.le_refl _)]
  · rw [Nat.min_eq_right (by omega), Nat.sub_self, List.take_zero, List.drop_of_length_le (by omega)]
open L2 in
theorem cutV_from (xs : List V) (k : Nat) : cutV xs (some (k : Int)) none = xs.drop k := by
  unfold cutV
  rw [HT.sIx_none, HT.sIx_nat]
  by_cases h : k ≤ xs.length
  · rw [Nat.min_eq_left h, List.take_of_length_le (by rw [List.length_drop]; exact Nat.le_refl _)]
  · rw [Nat.min_eq_right (by omega), Nat.sub_self, List.take_zero, List.drop_of_length_le (by omega)]
/-! ### the first digit -/
theorem numL_head : ∀ n : Nat, 0 < n → ∃ c r, numL n = c :: r ∧ 49 ≤ c ∧ c ≤ 57 := by
  intro n
  induction n using Nat.strongRecOn with
  | _ n ih =>
    intro h
    by_cases h10 : n < 10
    · exact ⟨48 + n, [], numL_lt h10, by omega, by omega⟩
    · obtain ⟨c, r, e, h1, h2⟩ := ih (n / 10) (by omega) (by omega)
      exact ⟨c, r ++ [48 + n % 10], by rw [numL_step (by omega), e]; rfl, h1, h2⟩
theorem num_head (n : Nat) : ∃ c r, tl (num n) = c :: r ∧ 48 ≤ c ∧ c ≤ 57 ∧ (c = 48 → n = 0) := by
  rw [tl_numS]
  by_cases h : n = 0
  · subst h
    exact ⟨48, [], numL_lt (by omega), by omega, by omega, fun _ => rfl⟩
  · obtain ⟨c, r, e, h1, h2⟩ := numL_head n (by omega)
    exact ⟨c, r, e, by omega, h2, fun z => by omega⟩
theorem num_zero : num 0 = S "0" := by decide +kernel
theorem num_noname (n : Nat) : isN (num n) = false := by
  obtain ⟨c, r, e, h1, h2, _⟩ := num_head n
  unfold isN
  rw [e]
  show (decide (c ∈ nh) && _) = false
  have dis : ∀ c ∈ dg, c ∉ nh := by decide +kernel
  have : c ∈ dg := num_mem (n := n) (by rw [e]; exact List.mem_cons_self ..)
  rw [decide_eq_false (dis c this), Bool.false_and]
/-! ### ranges by a step -/
open L2 in
theorem rg_none {i c : Int} (hc : 0 < c) (hc2 : c < 1073741824) (h0 : 0 ≤ i) (h1 : i < 2 ^ 62) : RgC i i c 0 := by
  have e : Builtin.Range.rangeSize i i c = 0 := by
    unfold Builtin.Range.rangeSize
    rw [if_pos hc, if_neg (by omega)]
  refine ⟨by omega, by omega, ?_, e⟩
  unfold Builtin.Range.small
  rw [e]
  simp only [Builtin.Range.rangeFitsLong, Bool.and_eq_true, Bool.or_eq_true, decide_eq_true_eq, beq_iff_eq, hc, gt_iff_lt, if_true]
  omega
open L2 in
/-- range(1, 2 n + 1, 2): n turns -/
theorem rg_odd {n : Nat} {j : Int} (hj : j = 2 * (n : Int) + 1) (h : n < 1000000) : RgC 1 j 2 n := by
  have e : Builtin.Range.rangeSize 1 j 2 = n := by
    unfold Builtin.Range.rangeSize
    rw [if_pos (by decide)]
    split <;> omega
  refine ⟨by omega, by omega, ?_, e⟩
  have hn : (n : Int) < 1000000 := by omega
  have h0 : 0 ≤ (n : Int) := by omega
  unfold Builtin.Range.small
  rw [e]
  generalize (n : Int) = m at hj hn h0
  unfold Builtin.Range.rangeFitsLong
  have p : (2 : Int) ^ 63 = 9223372036854775808 := by decide
  rw [p]
  simp only [Bool.and_eq_true, Bool.or_eq_true, decide_eq_true_eq, beq_iff_eq, show (2 : Int) > 0 by decide, if_true]
  omega
/-! ### sorted names -/
theorem sLt_irrefl (x : Str) : ¬ sLt x x := fun h => absurd h (List.lt_irrefl _)
theorem sLt_trans {x y z : Str} (a : sLt x y) (b : sLt y z) : sLt x z := List.lt_trans a b
theorem sLt_tri (x y : Str) : sLt x y ∨ x = y ∨ sLt y x := by
  unfold sLt
  by_cases h : tl x < tl y
  · exact .inl h
  · by_cases h2 : tl y < tl x
    · exact .inr (.inr h2)
    · exact .inr (.inl (ext_tl (List.le_antisymm (List.not_lt.mp h2) (List.not_lt.mp h))))
def sLe (x y : Str) : Prop := ¬ sLt y x
theorem sLe_anti {x y : Str} (a : sLe x y) (b : sLe y x) : x = y := by
  rcases sLt_tri x y with h | h | h
  · exact absurd h b
  · exact h
  · exact absurd h a
theorem sLe_trans {x y z : Str} (a : sLe x y) (b : sLe y z) : sLe x z := fun h => by
  rcases sLt_tri x y with q | q | q
  · exact b (sLt_trans h q)
  · subst q
    exact b h
  · exact a q
theorem ltCps_iff : ∀ (l m : List Nat), PySem.Spec.ltCps l m = true ↔ l < m
  | [], [] => by simp [PySem.Spec.ltCps]
  | [], _ :: _ => by simp [PySem.Spec.ltCps]
  | _ :: _, [] => by simp [PySem.Spec.ltCps]
  | a :: r, b :: t => by
    have ih := ltCps_iff r t
    show (decide (a < b) || (a == b && PySem.Spec.ltCps r t)) = true ↔ _
    rw [Bool.or_eq_true, Bool.and_eq_true, decide_eq_true_iff, beq_iff_eq, ih, List.cons_lt_cons_iff]
theorem rising_pair : ∀ (l : List Str) (p : Str), PyProof.Rows.risingS p l = true → (∀ x ∈ l, sLe p x) ∧ l.Pairwise sLe
  | [], _, _ => ⟨fun _ h => (by cases h), List.Pairwise.nil⟩
  | x :: r, p, h => by
    have h : (!PySem.Spec.ltCps x.cps.toList p.cps.toList && PyProof.Rows.risingS x r) = true := h
    rw [Bool.and_eq_true] at h
    obtain ⟨h1, h2⟩ := rising_pair r x h.2
    have hpx : sLe p x := fun z => by
      have q := (ltCps_iff _ _).mpr (show x.cps.toList < p.cps.toList from z)
      rw [q] at h
      exact absurd h.1 (by decide)
    refine ⟨fun y hy => ?_, List.pairwise_cons.mpr ⟨h1, h2⟩⟩
    rcases List.mem_cons.mp hy with e | e
    · subst e
      exact hpx
    · exact sLe_trans hpx (h1 y e)
theorem sorted_pair {l : List Str} (h : PyProof.Rows.sortedS l = true) : l.Pairwise sLe := by
  cases l with
  | nil => exact List.Pairwise.nil
  | cons x r =>
    obtain ⟨h1, h2⟩ := rising_pair r x h
    exact List.pairwise_cons.mpr ⟨h1, h2⟩
theorem lt_le {l : List Str} (h : l.Pairwise sLt) : l.Pairwise sLe := h.imp fun a b => sLt_irrefl _ (sLt_trans a b)
/-- two sorted arrangements are one -/
theorem sorted_one {l m : List Str} (hl : l.Pairwise sLe) (hm : m.Pairwise sLe) (p : l.Perm m) : l = m :=
  List.Perm.eq_of_pairwise (le := sLe) (fun a b _ _ x y => sLe_anti x y) hl hm p
theorem le_lt {l : List Str} (h : l.Pairwise sLe) (hn : l.Nodup) : l.Pairwise sLt := by
  induction l with
  | nil => exact List.Pairwise.nil
  | cons x r ih =>
    obtain ⟨h1, h2⟩ := List.pairwise_cons.mp h
    obtain ⟨n1, n2⟩ := List.nodup_cons.mp hn
    refine List.pairwise_cons.mpr ⟨fun y hy => ?_, ih h2 n2⟩
    rcases sLt_tri x y with q | q | q
    · exact q
    · subst q
      exact absurd hy n1
    · exact absurd q (h1 y hy)
/-! ### sums of pairs by name -/
def look : List (Str × Int) → Str → Int
  | [], _ => 0
  | p :: r, n => if p.1 = n then p.2 else look r n
def addP : List (Str × Int) → Str × Int → List (Str × Int)
  | [], q => [q]
  | p :: r, q => if p.1 = q.1 then (p.1, p.2 + q.2) :: r else p :: addP r q
def totals (ps : List (Str × Int)) : List (Str × Int) := ps.foldl addP []
open L2 in
def kvP (acc : List (Str × Int)) : List (Key × V) := acc.map fun p => (Sum.inr p.1, V.int p.2)
open L2 in
theorem kv_val : ∀ (acc : List (Str × Int)) (n : Str), (valV (kvP acc) (Sum.inr n : Key)).getD (V.int 0) = V.int (look acc n)
  | [], _ => rfl
  | p :: r, n => by
    show (valV ((Sum.inr p.1, V.int p.2) :: kvP r) (Sum.inr n : Key)).getD (V.int 0) = V.int (if p.1 = n then p.2 else look r n)
    by_cases h : p.1 = n
    · rw [if_pos h, valV_pos (by rw [h])]
      rfl
    · rw [if_neg h, valV_neg (fun z => h (Sum.inr.inj z))]
      exact kv_val r n
open L2 in
theorem kv_has : ∀ (acc : List (Str × Int)) (n : Str), n ∈ acc.map (·.1) → valV (kvP acc) (Sum.inr n : Key) = some (V.int (look acc n))
  | [], _, h => by cases h
  | p :: r, n, h => by
    show valV ((Sum.inr p.1, V.int p.2) :: kvP r) (Sum.inr n : Key) = some (V.int (if p.1 = n then p.2 else look r n))
    by_cases e : p.1 = n
    · rw [if_pos e, valV_pos (by rw [e])]
    · rw [if_neg e, valV_neg (fun z => e (Sum.inr.inj z))]
      refine kv_has r n ?_
      rw [List.map_cons] at h
      rcases List.mem_cons.mp h with z | z
      · exact absurd z.symm e
      · exact z
open L2 in
theorem kv_put_cons {p : Key × V} {r : List (Key × V)} {k : Key} {v : V} (h : ¬ p.1 = k) : putK (p :: r) k v = p :: putK r k v := by
  unfold putK
  rw [List.any_cons, decide_eq_false h, Bool.false_or]
  by_cases e : (r.any fun kv => decide (kv.1 = k)) = true
  · rw [if_pos e, if_pos e, List.map_cons, if_neg h]
  · rw [if_neg e, if_neg e]
    rfl
theorem addP_keys : ∀ (acc : List (Str × Int)) (q : Str × Int), (addP acc q).map (·.1) = if q.1 ∈ acc.map (·.1) then acc.map (·.1) else acc.map (·.1) ++ [q.1]
  | [], q => rfl
  | p :: r, q => by
    show (if p.1 = q.1 then (p.1, p.2 + q.2) :: r else p :: addP r q).map (·.1) = _
    by_cases h : p.1 = q.1
    · rw [if_pos h, if_pos (by rw [List.map_cons, h]; exact List.mem_cons_self ..)]
      rfl
    · rw [if_neg h, List.map_cons, addP_keys r q, List.map_cons]
      by_cases e : q.1 ∈ r.map (·.1)
      · rw [if_pos e, if_pos (List.mem_cons_of_mem _ e)]
      · rw [if_neg e, if_neg (fun z => (List.mem_cons.mp z).elim (fun w => h w.symm) e)]
        rfl
theorem addP_nodup {acc : List (Str × Int)} (q : Str × Int) (h : (acc.map (·.1)).Nodup) : ((addP acc q).map (·.1)).Nodup := by
  rw [addP_keys]
  split
  · exact h
  · rename_i e
    rw [List.nodup_append]
    exact ⟨h, List.pairwise_singleton _ _, fun a ha b hb => fun z => e (by
      rw [List.mem_singleton] at hb
      rw [← hb, ← z]
      exact ha)⟩
theorem addP_len (acc : List (Str × Int)) (q : Str × Int) : (addP acc q).length ≤ acc.length + 1 := by
  have h : ((addP acc q).map (·.1)).length ≤ (acc.map (·.1)).length + 1 := by
    rw [addP_keys]
    split
    · omega
    · rw [List.length_append]
      exact Nat.le_refl _
  rw [List.length_map, List.length_map] at h
  exact h
open L2 in
theorem kv_put : ∀ (acc : List (Str × Int)) (n : Str) (z : Int), (acc.map (·.1)).Nodup → putK (kvP acc) (Sum.inr n : Key) (V.int (look acc n + z)) = kvP (addP acc (n, z))
  | [], n, z, _ => by
    show [((Sum.inr n : Key), V.int (0 + z))] = [((Sum.inr n : Key), V.int z)]
    rw [Int.zero_add]
  | p :: r, n, z, hn => by
    obtain ⟨h1, h2⟩ := List.nodup_cons.mp (show (p.1 :: r.map (·.1)).Nodup from hn)
    show putK ((Sum.inr p.1, V.int p.2) :: kvP r) (Sum.inr n : Key) (V.int ((if p.1 = n then p.2 else look r n) + z)) = kvP (if p.1 = n then (p.1, p.2 + z) :: r else p :: addP r (n, z))
    by_cases h : p.1 = n
    · rw [if_pos h, if_pos h]
      subst h
      unfold putK
      rw [List.any_cons, decide_eq_true rfl, Bool.true_or, if_pos rfl, List.map_cons, if_pos rfl]
      show _ :: (kvP r).map _ = _ :: kvP r
      refine congrArg _ ?_
      have : ∀ kv ∈ kvP r, (if kv.1 = (Sum.inr p.1 : Key) then (kv.1, V.int (p.2 + z)) else kv) = kv := fun kv hkv => by
        rw [if_neg]
        intro e
        obtain ⟨w, hw, rfl⟩ := List.mem_map.mp hkv
        exact h1 (List.mem_map.mpr ⟨w, hw, Sum.inr.inj e⟩)
      rw [List.map_congr_left this, List.map_id']
    · rw [if_neg h, if_neg h, kv_put_cons (fun e => h (Sum.inr.inj e)), kv_put r n z h2]
      rfl
theorem kvP_keys (acc : List (Str × Int)) : (kvP acc).map (·.1) = (acc.map (·.1)).map Sum.inr := by
  unfold kvP
  rw [List.map_map, List.map_map]
  rfl
theorem totals_snoc (ps : List (Str × Int)) (q : Str × Int) : totals (ps ++ [q]) = addP (totals ps) q := by
  unfold totals
  rw [List.foldl_append]
  rfl
theorem totals_nodup_aux : ∀ (ps acc : List (Str × Int)), (acc.map (·.1)).Nodup → ((ps.foldl addP acc).map (·.1)).Nodup
  | [], _, h => h
  | q :: r, acc, h => totals_nodup_aux r (addP acc q) (addP_nodup q h)
theorem totals_nodup (ps : List (Str × Int)) : ((totals ps).map (·.1)).Nodup := totals_nodup_aux ps [] List.nodup_nil
theorem totals_len_aux : ∀ (ps acc : List (Str × Int)), (ps.foldl addP acc).length ≤ acc.length + ps.length
  | [], _ => Nat.le_refl _
  | q :: r, acc => by
    have h1 := totals_len_aux r (addP acc q)
    have h2 := addP_len acc q
    show (r.foldl addP (addP acc q)).length ≤ acc.length + (r.length + 1)
    omega
theorem totals_len (ps : List (Str × Int)) : (totals ps).length ≤ ps.length := by
  have h : (ps.foldl addP []).length ≤ ([] : List (Str × Int)).length + ps.length := totals_len_aux ps []
  have e : ([] : List (Str × Int)).length = 0 := rfl
  show (ps.foldl addP []).length ≤ ps.length
  omega
/-- the terms of the form that pairs make, in the order ys of their names -/
def nzp (p : Str × Int) : Bool := !decide (p.2 = 0)
def tms (ps : List (Str × Int)) (ys : List Str) : List (Str × Int) := (ys.map fun n => (n, look (totals ps) n)).filter nzp
/-- pairs with distinct names are their own totals -/
theorem addP_new : ∀ {acc : List (Str × Int)} {q : Str × Int}, q.1 ∉ acc.map (·.1) → addP acc q = acc ++ [q]
  | [], _, _ => rfl
  | p :: r, q, h => by
    show (if p.1 = q.1 then (p.1, p.2 + q.2) :: r else p :: addP r q) = _
    rw [if_neg (fun e => h (by rw [List.map_cons, e]; exact List.mem_cons_self ..)), addP_new fun z => h (by rw [List.map_cons]; exact List.mem_cons_of_mem _ z)]
    rfl
theorem totals_self_aux : ∀ (ps acc : List (Str × Int)), ((acc ++ ps).map (·.1)).Nodup → ps.foldl addP acc = acc ++ ps
  | [], acc, _ => by rw [List.append_nil]; rfl
  | q :: r, acc, h => by
    have hq : q.1 ∉ acc.map (·.1) := by
      intro z
      rw [List.map_append, List.nodup_append] at h
      exact h.2.2 _ z _ (List.mem_cons_self ..) rfl
    show r.foldl addP (addP acc q) = _
    rw [addP_new hq, totals_self_aux r (acc ++ [q]) (by rw [List.append_assoc]; exact h), List.append_assoc]
    rfl
theorem totals_self {ps : List (Str × Int)} (h : (ps.map (·.1)).Nodup) : totals ps = ps := totals_self_aux ps [] h
theorem look_mem : ∀ {acc : List (Str × Int)}, (acc.map (·.1)).Nodup → (acc.map (·.1)).map (fun n => (n, look acc n)) = acc
  | [], _ => rfl
  | p :: r, h => by
    obtain ⟨h1, h2⟩ := List.nodup_cons.mp (show (p.1 :: r.map (·.1)).Nodup from h)
    have ih := look_mem h2
    show (p.1, if p.1 = p.1 then p.2 else look r p.1) :: (r.map (·.1)).map (fun n => (n, if p.1 = n then p.2 else look r n)) = p :: r
    rw [if_pos rfl]
    refine congrArg _ ?_
    refine Eq.trans (List.map_congr_left fun n hn => ?_) ih
    rw [if_neg (fun e => h1 (by rw [e]; exact hn))]
theorem srt_nodup {l : List Str} (h : l.Pairwise sLt) : l.Nodup := List.Pairwise.imp (S := fun a b => a ≠ b) (fun {a b} r e => by
  subst e
  exact sLt_irrefl _ r) h
/-- a form's own terms, read as pairs -/
theorem tms_self {f : Form} (h : FOk f) {ys : List Str} (hp : ys.Perm ((totals f.2).map (·.1))) (hs : ys.Pairwise sLe) : tms f.2 ys = f.2 := by
  have nd := srt_nodup h.srt
  have et := totals_self nd
  rw [et] at hp
  have ey := sorted_one hs (lt_le h.srt) hp
  unfold tms
  rw [et, ey, look_mem nd]
  exact List.filter_eq_self.mpr fun p hp => by
    unfold nzp
    rw [decide_eq_false (h.nz p hp)]
    rfl
/-! ### data in the heap -/
section
open L2 Kx
variable {K : PySem.W.Frag} {H : Hp}
theorem pD_inv {v : V} {p : Str × Int} (h : Im K H v (pD p)) : ∃ t, v = .ref t ∧ SqT K H t [.str p.1, .int p.2] := by
  obtain ⟨t, ts, rfl, ht, hts⟩ := Im.tup_inv h
  obtain ⟨v3, r3, rfl, h3, hr3⟩ := Ims.cons_inv hts
  obtain ⟨v4, r4, rfl, h4, hr4⟩ := Ims.cons_inv hr3
  obtain rfl := Ims.nil_inv hr4
  obtain rfl := Im.str_inv h3
  obtain rfl := Im.int_inv h4
  exact ⟨t, rfl, ht⟩
theorem pD_of {t : Addr} {p : Str × Int} (h : SqT K H t [.str p.1, .int p.2]) : Im K H (.ref t) (pD p) := .tup h (.cons (.str _) (.cons (.int _) .nil))
theorem qD_inv {v : V} {p : Str × Str} (h : Im K H v (qD p)) : ∃ t, v = .ref t ∧ SqT K H t [.str p.1, .str p.2] := by
  obtain ⟨t, ts, rfl, ht, hts⟩ := Im.tup_inv h
  obtain ⟨v3, r3, rfl, h3, hr3⟩ := Ims.cons_inv hts
  obtain ⟨v4, r4, rfl, h4, hr4⟩ := Ims.cons_inv hr3
  obtain rfl := Ims.nil_inv hr4
  obtain rfl := Im.str_inv h3
  obtain rfl := Im.str_inv h4
  exact ⟨t, rfl, ht⟩
theorem qD_of {t : Addr} {p : Str × Str} (h : SqT K H t [.str p.1, .str p.2]) : Im K H (.ref t) (qD p) := .tup h (.cons (.str _) (.cons (.str _) .nil))
theorem fD_inv {v : V} {f : Form} (h : Im K H v (fD f)) : ∃ t u xs, v = .ref t ∧ SqT K H t [.int f.1, .ref u] ∧ SqT K H u xs ∧ Ims K H xs (f.2.map pD) := by
  obtain ⟨t, ts, rfl, ht, hts⟩ := Im.tup_inv h
  obtain ⟨v3, r3, rfl, h3, hr3⟩ := Ims.cons_inv hts
  obtain ⟨v4, r4, rfl, h4, hr4⟩ := Ims.cons_inv hr3
  obtain rfl := Ims.nil_inv hr4
  obtain rfl := Im.int_inv h3
  obtain ⟨u, us, rfl, hu, hus⟩ := Im.tup_inv h4
  exact ⟨t, u, us, rfl, ht, hu, hus⟩
theorem fD_of {t u : Addr} {xs : List V} {f : Form} (ht : SqT K H t [.int f.1, .ref u]) (hu : SqT K H u xs) (hx : Ims K H xs (f.2.map pD)) : Im K H (.ref t) (fD f) :=
  .tup ht (.cons (.int _) (.cons (.tup hu hx) .nil))
theorem ims_at {α : Type} {g : α → PyData} {ps : List α} {xs : List V} (h : Ims K H xs (ps.map g)) {i : Nat} {v : V} (hv : xs[i]? = some v) : ∃ p, ps[i]? = some p ∧ Im K H v (g p) := by
  obtain ⟨d, hd, hi⟩ := h.get hv
  rw [List.getElem?_map] at hd
  cases e : ps[i]? with
  | none => rw [e] at hd; cases hd
  | some z =>
    rw [e] at hd
    have : g z = d := Option.some.inj hd
    exact ⟨z, rfl, by rw [this]; exact hi⟩
theorem take_snoc {α : Type} {l : List α} {i : Nat} {x : α} (h : l[i]? = some x) : l.take (i + 1) = l.take i ++ [x] := by
  rw [List.take_add_one, h]
  rfl
end
/-! ### the written form, term by term -/
theorem wtl_snoc : ∀ (l : List (Str × Int)) (p : Str × Int), wtl (l ++ [p]) = wtl l ++ (sp p.2 ++ tm p.1 p.2.natAbs)
  | [], p => by
    show sp p.2 ++ tm p.1 p.2.natAbs ++ Str.empty = Str.empty ++ (sp p.2 ++ tm p.1 p.2.natAbs)
    rw [app_empty, empty_app]
  | q :: r, p => by
    show sp q.2 ++ tm q.1 q.2.natAbs ++ wtl (r ++ [p]) = sp q.2 ++ tm q.1 q.2.natAbs ++ wtl r ++ _
    rw [wtl_snoc r p]
    simp only [app_assoc]
theorem wterms_snoc : ∀ (l : List (Str × Int)) (p : Str × Int), l ≠ [] → wterms (l ++ [p]) = wterms l ++ sp p.2 ++ tm p.1 p.2.natAbs
  | [], _, h => absurd rfl h
  | q :: r, p, _ => by
    show sg q.2 ++ tm q.1 q.2.natAbs ++ wtl (r ++ [p]) = sg q.2 ++ tm q.1 q.2.natAbs ++ wtl r ++ _ ++ _
    rw [wtl_snoc r p]
    simp only [app_assoc]
theorem wterms_one (p : Str × Int) : wterms [p] = sg p.2 ++ tm p.1 p.2.natAbs := by
  show sg p.2 ++ tm p.1 p.2.natAbs ++ Str.empty = _
  rw [app_empty]
theorem wterms_ne : ∀ {l : List (Str × Int)}, l ≠ [] → (∀ p ∈ l, POk p) → wterms l ≠ Str.empty
  | [], h, _ => absurd rfl h
  | p :: r, _, h => fun e => by
    have e : tl (sg p.2 ++ tm p.1 p.2.natAbs ++ wtl r) = [] := congrArg tl e
    rw [tl_append, tl_append] at e
    exact tm_ne (h p (List.mem_cons_self ..)) (List.append_eq_nil_iff.mp (List.append_eq_nil_iff.mp e).1).2
theorem sp_len (n : Int) : (sp n).length = 3 := by
  unfold sp
  split
  · exact (by decide +kernel : (S " - ").length = 3)
  · exact (by decide +kernel : (S " + ").length = 3)
theorem sg_len (n : Int) : (sg n).length ≤ 1 := by
  unfold sg
  split
  · exact (by decide +kernel : (S "-").length ≤ 1)
  · exact (by decide +kernel : (Str.empty).length ≤ 1)
theorem wtl_len : ∀ {l : List (Str × Int)}, (∀ p ∈ l, POk p) → (wtl l).length ≤ l.length * 164
  | [], _ => Nat.le_refl _
  | p :: r, h => by
    have h1 := tm_len (h p (List.mem_cons_self ..))
    have h2 := wtl_len (l := r) fun q hq => h q (List.mem_cons_of_mem _ hq)
    show (sp p.2 ++ tm p.1 p.2.natAbs ++ wtl r).length ≤ (r.length + 1) * 164
    rw [len_app, len_app, sp_len]
    omega
theorem wterms_len : ∀ {l : List (Str × Int)}, (∀ p ∈ l, POk p) → (wterms l).length ≤ l.length * 164
  | [], _ => Nat.le_refl _
  | p :: r, h => by
    have h1 := tm_len (h p (List.mem_cons_self ..))
    have h2 := wtl_len (l := r) fun q hq => h q (List.mem_cons_of_mem _ hq)
    have h3 := sg_len p.2
    show (sg p.2 ++ tm p.1 p.2.natAbs ++ wtl r).length ≤ (r.length + 1) * 164
    rw [len_app, len_app]
    omega
theorem abs_nat (z : Int) : (if z < 0 then -z else z) = ((z.natAbs : Nat) : Int) := by
  split <;> omega
theorem POk.name_len {p : Str × Int} (h : POk p) : p.1.length ≤ 100 := by
  rcases h.1 with q | q
  · rw [q]
    exact (by decide : (Str.empty).length ≤ 100)
  · exact q.1.len
/-! ### reading the words back -/
theorem wdl_at : ∀ (l : List (Str × Int)) (i : Nat) (p : Str × Int), l[i]? = some p → (wdl l)[2 * i]? = some (pm p.2) ∧ (wdl l)[2 * i + 1]? = some (tm p.1 p.2.natAbs)
  | [], i, p, h => by simp at h
  | q :: r, 0, p, h => by
    cases h
    exact ⟨rfl, rfl⟩
  | q :: r, i + 1, p, h => by
    have ih := wdl_at r i p h
    show (pm q.2 :: tm q.1 q.2.natAbs :: wdl r)[2 * (i + 1)]? = _ ∧ (pm q.2 :: tm q.1 q.2.natAbs :: wdl r)[2 * (i + 1) + 1]? = _
    rw [show 2 * (i + 1) = 2 * i + 1 + 1 by omega]
    exact ih
theorem pm_in (z : Int) : L2.inV (L2.V.str (pm z)) [L2.V.str (S "+"), L2.V.str (S "-")] = true := by
  unfold pm
  split
  · exact (by decide +kernel)
  · exact (by decide +kernel)
theorem pm_plus (z : Int) : decide (L2.V.str (pm z) = L2.V.str (S "+")) = !decide (z < 0) := by
  unfold pm
  by_cases h : z < 0
  · rw [if_pos h, decide_eq_true h]
    exact (by decide +kernel)
  · rw [if_neg h, decide_eq_false h]
    exact (by decide +kernel)
theorem sign_mul (z : Int) : (if z < 0 then -1 else 1) * ((z.natAbs : Nat) : Int) = z := by
  split <;> omega
/-- the first sign of a term is no minus -/
theorem tm_head {p : Str × Int} (h : POk p) : (tl (tm p.1 p.2.natAbs)).take 1 ≠ [45] := by
  intro e
  have hc : 45 ∈ tl (tm p.1 p.2.natAbs) := List.mem_of_mem_take (i := 1) (by rw [e]; exact List.mem_singleton.mpr rfl)
  rcases tm_mem h 45 hc with q | q | q
  · exact absurd q (by decide +kernel)
  · exact absurd q (by decide +kernel)
  · exact absurd q (by decide)
theorem consts_sum {f : Form} (h : FOk f) : (((terms f).filter fun p => decide (p.1 = Str.empty)).map (·.2)).sum = f.1 := by
  have hz : (f.2.filter fun p => decide (p.1 = Str.empty)) = [] := List.filter_eq_nil_iff.mpr fun p hp => by
    have := (h.nm p hp).ne
    simp [this]
  unfold terms
  split
  · rw [List.filter_append, hz]
    show f.1 + 0 = f.1
    omega
  · rename_i c
    rw [hz]
    by_cases e : f.1 = 0
    · rw [e]
      rfl
    · exact absurd (.inl e) c
theorem names_kept {f : Form} (h : FOk f) : ((terms f).filter fun p => !decide (p.1 = Str.empty)) = f.2 := by
  have hz : (f.2.filter fun p => !decide (p.1 = Str.empty)) = f.2 := List.filter_eq_self.mpr fun p hp => by
    have := (h.nm p hp).ne
    simp [this]
  unfold terms
  split
  · rw [List.filter_append, hz]
    show f.2 ++ [] = f.2
    rw [List.append_nil]
  · exact hz
end M
set_option Elab.async false
set_option linter.all false
set_option maxRecDepth 100000
set_option maxHeartbeats 4000000
namespace C
open PySem PySem.Spec PyProof.Rows L2 Kx M
def topS (i : Nat) : Stmt := PySem.Challenge.pw_differwithin_k59_bad_lines_of_claims.main.body.getD i (.Pass ⟨0, 0, 0, 0⟩)
abbrev s_BadLine___init__ : Stmt := inClass (topS 3) 0
abbrev s_write_integer : Stmt := topS 8
abbrev s_read_integer : Stmt := topS 9
abbrev s_form : Stmt := topS 11
abbrev s_write_term : Stmt := topS 15
abbrev s_write_form : Stmt := topS 16
abbrev s_is_name : Stmt := topS 17
abbrev s_read_term : Stmt := topS 18
abbrev s_read_form : Stmt := topS 19
abbrev s_ClaimReader___init__ : Stmt := inClass (topS 24) 0
abbrev s_ClaimReader_take : Stmt := inClass (topS 24) 1
abbrev s_ClaimReader_take_head : Stmt := inClass (topS 24) 2
abbrev s_ClaimReader_take_part : Stmt := inClass (topS 24) 3
abbrev s_ClaimReader_take_end : Stmt := inClass (topS 24) 4
abbrev s_read_claims : Stmt := topS 25
abbrev s__law_start : Stmt := topS 27
abbrev s__law_draw : Stmt := topS 28
abbrev s__law_one_of : Stmt := topS 29
abbrev s__law_is_int : Stmt := topS 30
abbrev s__law_same : Stmt := topS 31
abbrev s__law_form : Stmt := topS 32
abbrev s__law_text_of : Stmt := topS 33
abbrev s__law_any_word : Stmt := topS 34
abbrev s__law_form_name : Stmt := topS 35
abbrev s__law_some_number : Stmt := topS 36
abbrev s__law_some_form : Stmt := topS 37
abbrev s__law_written : Stmt := topS 38
abbrev s__law_some_pairs : Stmt := topS 39
abbrev s__law_some_forms : Stmt := topS 40
abbrev s__law_rules : Stmt := topS 41
abbrev s__law_some_row : Stmt := topS 42
abbrev s__law_row_lines : Stmt := topS 43
abbrev s__law_spaced : Stmt := topS 44
abbrev s__law_is_form_name : Stmt := topS 45
abbrev s__law_is_digits : Stmt := topS 46
abbrev s__law_parsed : Stmt := topS 47
abbrev s__law_part : Stmt := topS 48
abbrev s__law_read : Stmt := topS 49
abbrev s__law_odd_line : Stmt := topS 50
abbrev s__law_spoilt : Stmt := topS 51
abbrev s_law : Stmt := topS 52
/-- the module's constants -/
structure Gb (K : PySem.W.Frag) (mg : Str → Option Value) (aH aR : Addr) : Prop where
  BASE : ∃ t, mg "BASE" = some (.int (10 ^ 64) t)
  DIGITS_digits : ∃ t, mg "DIGITS_digits" = some (.str "0123456789" t)
  FIRST : ∃ t, mg "FIRST" = some (.str "abcdefghijklmnopqrstuvwxyz@#.?_" t)
  DIGITS_formtext : ∃ t, mg "DIGITS_formtext" = some (.str "0123456789" t)
  ANY_RULE : ∃ t, mg "ANY_RULE" = some (.str "any" t)
  HEADS : mg "HEADS" = some (.ref aH)
  RULES : mg "RULES" = some (.ref aR)
  tH : ∀ H, SqT K H aH [.str "given", .str "same", .str "ask", .str "keep", .str "hint", .str "walk"]
  tR : ∀ H, SqT K H aR [.str "lockstep", .str "pauses alone", .str "left begins", .str "right begins", .str "meet at whiles", .str "calls alone", .str "left first"]
end C
set_option Elab.async false
set_option linter.all false
set_option pp.maxSteps 1500
set_option maxRecDepth 100000
set_option maxHeartbeats 4000000
namespace C
open PySem PySem.Spec PyProof.Rows L2 Kx M TL
local macro_rules | `(tactic| tm_at "same") => `(tactic| first
  | assumption
  | exact L2.Same.refl _
  | exact L2.Same.upd (by tm_at "same") (by tm_at "free")
  | exact sameTransR (by assumption) (by tm_at "same"))
local macro_rules | `(tactic| tm_at "free") => `(tactic| first
  | assumption
  | exact sameFreeR (by assumption) (by tm_at "same"))
local macro_rules | `(tactic| tm_at "but") => `(tactic| first
  | assumption
  | exact But.refl _ _
  | exact But.transR (by assumption) (by tm_at "but")
  | exact But.upd
  | exact But.self (by tm_at "but")
  | exact But.new1 (by tm_at "but") (by assumption)
  | exact But.new (by tm_at "but") (by tm_at "free")
  | exact L2.Same.but (by assumption) _)
local macro_rules | `(tactic| tm_at "fact") => `(tactic| first
  | exact upd_same
  | assumption
  | exact SqL.of upd_same
  | exact SqT.of upd_same
  | exact SqL.of (by assumption)
  | exact SqT.of (by assumption)
  | exact But.lstR (by assumption) (by assumption) (by tm_at "but"))
local macro_rules | `(tactic| tm_at "cond") => `(tactic| first
  | rfl
  | assumption
  | decide
  | omega
  | exact ⟨by decide, by decide⟩
  | exact .inr ⟨by decide, by decide⟩
  | exact .inl ⟨by decide, by decide⟩
  | exact ⟨by decide, by decide, by decide⟩
  | exact cdivw (by assumption) (by assumption)
  | exact log2_ok (by assumption)
  | exact Or.inl ⟨rfl, _, SqL.of upd_same⟩
  | exact Or.inl ⟨rfl, _, SqL.of (by assumption)⟩
  | exact ⟨_, rfl⟩
  | exact Nat.le_of_ble_eq_true rfl
  | exact small1000 (by omega))
local macro_rules | `(tactic| tm_at "prop") => `(tactic| first
  | assumption
  | omega)
local macro_rules | `(tactic| tm_at "s") => `(tactic| first
  | refine ⟨_, rfl, ?_⟩
  | refine ⟨_, _, rfl, rfl, ?_⟩
  | refine ⟨_, _, _, rfl, rfl, (by tm_at "fact"), (by tm_at "cond"), ?_⟩
  | refine ⟨_, _, _, _, rfl, rfl, (by tm_at "fact"), rfl, ?_⟩
  | refine ⟨_, _, rfl, (by tm_at "fact"), ?_⟩
  | refine And.intro (by tm_at "cond") ?_
  | refine .inl ⟨_, rfl, ?_⟩
  | refine ⟨_, _, rfl, .inl (by tm_at "fact"), ?_⟩
  | refine dec_false (by tm_at "prop") ?_
  | refine dec_true (by tm_at "prop") ?_
  | refine decN_false (by tm_at "prop") ?_
  | refine decN_true (by tm_at "prop") ?_
  | refine iteT ?_
  | refine iteF ?_
  | refine ⟨_, _, rfl, ?_⟩)
local macro_rules | `(tactic| tm_at "go") => `(tactic| repeat tm_at "s")

section
variable {P : Program} {w : World} {K : PySem.W.Frag} {mg : Str → Option Value} {base : Heap} {aH aR : Addr}
/-! ### write_integer -/
def spWriteInt : Sp := fun vs H Q _ => ∃ (n : Nat), vs = [.int (n : Int)] ∧ n < 10 ^ 60 ∧ ∀ H', Same H H' → Q (.str (num n)) H'
theorem sc_write_integer : FnScope ["n", "chunks", "low"] ["n"] (defScope s_write_integer) := ⟨rfl, rfl, rfl, by decide +kernel, rfl, by decide +kernel, by decide +kernel⟩
theorem ok_write_integer {k : Nat} (D : Def K mg "write_integer" "write_integer" s_write_integer ["n"]) (B : Bi mg) (G : Gb K mg aH aR) : Cal P w K mg base CX0 (k + 1) "write_integer" ["n"] spWriteInt := by
  refine D.cal fun f fd F => F.ok sc_write_integer (fun vs H Q E h => ?_) (fun cdv A outer s H vs Q E hr h => ?_)
  · obtain ⟨n, rfl, _⟩ := h
    rfl
  · obtain ⟨n, rfl, hn, q⟩ := h
    have nd := sc_write_integer.nd
    have c_write_integer : Cal P w K mg base CX0 k "write_integer" ["n"] (fun _ _ _ _ => False) := by
      obtain ⟨f, fd, F, m, b⟩ := D.ex
      exact ⟨f, fd, ⟨fun _ _ _ _ h => h.elim, fun _ _ _ _ _ _ _ _ _ _ _ _ _ h => h.elim⟩, m, F.kp, b⟩
    refine ⟨_, (pss_cons (ps_if (pt_cmpR op_lt (pv 0) pe_int (nomark _))
        (pss_one (ps_ret (pe_op op_add_str pe_str (pe_cal c_write_integer (Room.mono hr (by omega)) (by rfl) (pa_cons (pe_un un_neg (pv 0)) pa_nil)))))
        pss_nil)
      (pss_cons (ps_set (i := 1) nd rfl (Or.inl rfl) (pe_lst pa_nil))
      (pss_cons (ps_while PassesOwn.never (pt_cmpR op_ge (pv 0) (pe_globI (by rfl) G.BASE) (nomark _))
        pss_never)
      (pss_cons (ps_expr (pe_bm PySem.F.plainAttrs_list PySem.F.slot_list_append PySem.F.type_list_append mt_append (pv 1) (pa_cons (pe_callTy call_str_int (by rfl) B.str (by decide +kernel) (pa_cons (pv 0) pa_nil)) pa_nil)))
      (pss_one (ps_ret (pe_join pe_str (pe_revL (pv 1))))))))), ?_⟩
    have h40 : (10 : Nat) ^ 40 < 10 ^ 64 := by decide
    have hb : ¬ ((10 : Int) ^ 64 ≤ (n : Int)) := by
      intro z
      have : ((10 ^ 64 : Nat) : Int) ≤ (n : Int) := by
        have e : ((10 ^ 64 : Nat) : Int) = (10 : Int) ^ 64 := by decide
        rw [e]
        exact z
      omega
    tm_at "go"
    refine fun a na => ?_
    refine ⟨fun _ σ H1 => σ = [some (.int (n : Int)), some (.ref a)] ++ List.replicate 1 none ∧ H1 = upd H a (.lst []), ⟨0, rfl, rfl⟩, ?_⟩
    rintro m σ H1 ⟨rfl, rfl⟩
    tm_at "go"
    refine fun a2 na2 => ?_
    refine ⟨_, a2, [num n], rfl, rfl, .inl (SqL.of upd_same), ?_, ?_⟩
    · have := num_len hn
      show (num n).length + 0 + 1 * 0 ≤ 16777216
      omega
    · have e : Txt.join (Str.ofString "") [num n] = num n := by rw [join_eq] <;> rfl
      show Q (.str (Txt.join (Str.ofString "") [num n])) _
      rw [e]
      exact q _ (by tm_at "same")
end
end C
set_option Elab.async false
set_option linter.all false
set_option pp.maxSteps 1500
set_option maxRecDepth 100000
set_option maxHeartbeats 4000000
namespace C
open PySem PySem.Spec PyProof.Rows L2 Kx M TL
local macro_rules | `(tactic| tm_at "same") => `(tactic| first
  | assumption
  | exact L2.Same.refl _
  | exact L2.Same.upd (by tm_at "same") (by tm_at "free")
  | exact sameTransR (by assumption) (by tm_at "same"))
local macro_rules | `(tactic| tm_at "free") => `(tactic| first
  | assumption
  | exact sameFreeR (by assumption) (by tm_at "same"))
local macro_rules | `(tactic| tm_at "but") => `(tactic| first
  | assumption
  | exact But.refl _ _
  | exact But.transR (by assumption) (by tm_at "but")
  | exact But.upd
  | exact But.self (by tm_at "but")
  | exact But.new1 (by tm_at "but") (by assumption)
  | exact But.new (by tm_at "but") (by tm_at "free")
  | exact L2.Same.but (by assumption) _)
local macro_rules | `(tactic| tm_at "fact") => `(tactic| first
  | exact upd_same
  | assumption
  | exact SqL.of upd_same
  | exact SqT.of upd_same
  | exact SqL.of (by assumption)
  | exact SqT.of (by assumption)
  | exact But.lstR (by assumption) (by assumption) (by tm_at "but"))
local macro_rules | `(tactic| tm_at "cond") => `(tactic| first
  | rfl
  | assumption
  | decide
  | omega
  | exact ⟨by decide, by decide⟩
  | exact .inr ⟨by decide, by decide⟩
  | exact .inl ⟨by decide, by decide⟩
  | exact ⟨by decide, by decide, by decide⟩
  | exact cdivw (by assumption) (by assumption)
  | exact log2_ok (by assumption)
  | exact Or.inl ⟨rfl, _, SqL.of upd_same⟩
  | exact Or.inl ⟨rfl, _, SqL.of (by assumption)⟩
  | exact ⟨_, rfl⟩
  | exact Nat.le_of_ble_eq_true rfl
  | exact small1000 (by omega))
local macro_rules | `(tactic| tm_at "prop") => `(tactic| first
  | assumption
  | omega)
local macro_rules | `(tactic| tm_at "s") => `(tactic| first
  | refine ⟨_, rfl, ?_⟩
  | refine ⟨_, _, rfl, rfl, ?_⟩
  | refine ⟨_, _, _, rfl, rfl, (by tm_at "fact"), (by tm_at "cond"), ?_⟩
  | refine ⟨_, _, _, _, rfl, rfl, (by tm_at "fact"), rfl, ?_⟩
  | refine ⟨_, _, rfl, (by tm_at "fact"), ?_⟩
  | refine And.intro (by tm_at "cond") ?_
  | refine .inl ⟨_, rfl, ?_⟩
  | refine ⟨_, _, rfl, .inl (by tm_at "fact"), ?_⟩
  | refine dec_false (by tm_at "prop") ?_
  | refine dec_true (by tm_at "prop") ?_
  | refine decN_false (by tm_at "prop") ?_
  | refine decN_true (by tm_at "prop") ?_
  | refine iteT ?_
  | refine iteF ?_
  | refine ⟨_, _, rfl, ?_⟩)
local macro_rules | `(tactic| tm_at "go") => `(tactic| repeat tm_at "s")

section
variable {P : Program} {w : World} {K : PySem.W.Frag} {mg : Str → Option Value} {base : Heap} {aH aR : Addr}
/-! ### write_term -/
def spWriteTerm : Sp := fun vs H Q _ => ∃ (nm : Str) (a : Nat), vs = [.str nm, .int (a : Int)] ∧ a < 10 ^ 60 ∧ nm.length ≤ 100 ∧ ∀ H', Same H H' → Q (.str (tm nm a)) H'
theorem sc_write_term : FnScope ["name", "size"] ["name", "size"] (defScope s_write_term) := ⟨rfl, rfl, rfl, by decide +kernel, rfl, by decide +kernel, by decide +kernel⟩
theorem ok_write_term {k : Nat} (D : Def K mg "write_term" "write_term" s_write_term ["name", "size"]) (c_write_integer : Cal P w K mg base CX0 k "write_integer" ["n"] spWriteInt) : Cal P w K mg base CX0 (k + 1) "write_term" ["name", "size"] spWriteTerm := by
  refine D.cal fun f fd F => F.ok sc_write_term (fun vs H Q E h => ?_) (fun cdv A outer s H vs Q E hr h => ?_)
  · obtain ⟨nm, a, rfl, _⟩ := h
    rfl
  · obtain ⟨nm, a, rfl, ha, hl, q⟩ := h
    have nd := sc_write_term.nd
    refine ⟨_, (pss_cons (ps_if (pt_cmpR op_eq (pv 0) pe_str (nomark _))
        (pss_one (ps_ret (pe_cal c_write_integer (Room.mono hr (by omega)) (by rfl) (pa_cons (pv 1) pa_nil))))
        pss_nil)
      (pss_cons (ps_if (pt_cmpR op_eq (pv 1) pe_int (nomark _))
        (pss_one (ps_ret (pv 0)))
        pss_nil)
      (pss_one (ps_ret (pe_op op_add_str (pe_op op_add_str (pe_cal c_write_integer (Room.mono hr (by omega)) (by rfl) (pa_cons (pv 1) pa_nil)) pe_str) (pv 0)))))), ?_⟩
    have e0 : tm nm a = if nm = Str.empty then num a else if a = 1 then nm else num a ++ Str.ofString "*" ++ nm := rfl
    tm_at "go"
    refine ite2 (fun c => ?_) (fun c => ?_)
    · have c1 : nm = Str.empty := V.str.inj (of_decide_eq_true (show decide (V.str nm = V.str Str.empty) = true from c))
      rw [if_pos c1] at e0
      tm_at "go"
      intro H1 s1
      have z := q H1 s1
      rw [e0] at z
      exact z
    · have c1 : ¬ nm = Str.empty := fun z => c (decide_eq_true (congrArg V.str z))
      rw [if_neg c1] at e0
      tm_at "go"
      refine ite2 (fun c => ?_) (fun c => ?_)
      · have c2 : a = 1 := by
          have := V.int.inj (of_decide_eq_true c)
          omega
        rw [if_pos c2] at e0
        have z := q H (Same.refl H)
        rw [e0] at z
        tm_at "go"
        exact z
      · have c2 : ¬ a = 1 := fun z => c (decide_eq_true (congrArg V.int (by omega)))
        rw [if_neg c2] at e0
        tm_at "go"
        intro H1 s1
        have h1 := num_len ha
        have h2 : (S "*").length = 1 := by decide +kernel
        have hs : (1000 : Nat) ≤ sizeLine := by decide
        have z := q H1 s1
        rw [e0] at z
        refine ⟨_, _, rfl, rfl, ?_, ?_⟩
        · show (num a).length + (S "*").length ≤ sizeLine
          omega
        · tm_at "go"
          refine ⟨?_, z⟩
          show (num a ++ S "*").length + nm.length ≤ sizeLine
          rw [len_app]
          omega
/-! ### is_name -/
def spIsName : Sp := fun vs H Q _ => ∃ x : Str, vs = [.str x] ∧ x.length ≤ 1000 ∧ ∀ H', Same H H' → Q (.bl (isN x)) H'
theorem isN_of {x : Str} {c : Nat} {r : List Nat} (e : tl x = c :: r) (h : ∀ d ∈ tl x, d ∈ nh ∨ d ∈ dg) : isN x = !decide (c ∈ dg) := by
  unfold isN
  rw [e]
  show (decide (c ∈ nh) && r.all fun d => decide (d ∈ nh) || decide (d ∈ dg)) = _
  have h2 : (r.all fun d => decide (d ∈ nh) || decide (d ∈ dg)) = true := List.all_eq_true.mpr fun d hd => by
    rw [Bool.or_eq_true, decide_eq_true_iff, decide_eq_true_iff]
    exact h d (by rw [e]; exact List.mem_cons_of_mem _ hd)
  rw [h2, Bool.and_true]
  have dis : ∀ c ∈ nh, c ∉ dg := by decide +kernel
  by_cases hc : c ∈ nh
  · rw [decide_eq_true hc, decide_eq_false (dis c hc)]
    rfl
  · have : c ∈ dg := (h c (by rw [e]; exact List.mem_cons_self ..)).resolve_left hc
    rw [decide_eq_false hc, decide_eq_true this]
    rfl
theorem isN_bad {x : Str} {c : Nat} (hc : c ∈ tl x) (h1 : c ∉ nh) (h2 : c ∉ dg) : isN x = false := by
  cases e : isN x with
  | false => rfl
  | true => rcases isNL_mem e c hc with q | q <;> contradiction
theorem sc_is_name : FnScope ["text", "char"] ["text"] (defScope s_is_name) := ⟨rfl, rfl, rfl, by decide +kernel, rfl, by decide +kernel, by decide +kernel⟩
theorem ok_is_name {k : Nat} (D : Def K mg "is_name" "is_name" s_is_name ["text"]) (B : Bi mg) (G : Gb K mg aH aR) : Cal P w K mg base CX0 (k + 1) "is_name" ["text"] spIsName := by
  refine D.cal fun f fd F => F.ok sc_is_name (fun vs H Q E h => ?_) (fun cdv A outer s H vs Q E hr h => ?_)
  · obtain ⟨x, rfl, _⟩ := h
    rfl
  · obtain ⟨x, rfl, hl, q⟩ := h
    have nd := sc_is_name.nd
    refine ⟨_, (pss_cons (ps_for PassesOwn.never rfl (pi_str (pv 0)) (pg_name (i := 1) nd rfl (Or.inl rfl))
        (pss_one (ps_if (PW.pt (pw_and (pt_cmpR op_notIn_sign (pv 1) (pe_globS (by rfl) G.FIRST) (by rfl)) (pw_and1 (pt_cmpR op_notIn_sign (pv 1) (pe_globS (by rfl) G.DIGITS_formtext) (by rfl)))))
          (pss_one (ps_ret pe_bl))
          pss_nil)))
      (pss_one (ps_ret (pe_and (pe_cmpR op_ne (pv 0) pe_str (nomark _)) (pe_one (pe_cmpR op_notIn_sign (pe_ix ix_str (pv 0) pe_int (fun _ _ => rfl)) (pe_globS (by rfl) G.DIGITS_formtext) (by rfl))))))), ?_⟩
    tm_at "go"
    refine for_it walk_str (fun i σ H' => ∃ v, σ = [some (.str x), v] ∧ H' = H ∧ ∀ c ∈ (tl x).take i, c ∈ nh ∨ c ∈ dg) ⟨_, rfl, rfl, by simp⟩ (fun _ _ _ _ _ => trivial) ?_ ?_
    · rintro i v σ H1 H2 hi ⟨v0, rfl, rfl, hb⟩ ⟨rfl, c, hc, rfl⟩
      have hc2 : (tl x)[i]? = some c := by
        rw [← hc]
        simp [tl]
      tm_at "go"
      have step : (c ∈ nh ∨ c ∈ dg) → ∀ d ∈ (tl x).take (i + 1), d ∈ nh ∨ d ∈ dg := fun hc d hd => by
        rw [List.take_add_one, hc2] at hd
        rcases List.mem_append.mp hd with z | z
        · exact hb d z
        · have e : d = c := by simpa using z
          rw [e]
          exact hc
      refine ite2 (fun c1 => ?_) (fun c1 => ?_)
      · have c1 : c ∉ nh := by simpa using (show (!decide (c ∈ nh)) = true from c1)
        tm_at "go"
        refine ite2 (fun c2 => ?_) (fun c2 => ?_)
        · have c2 : c ∉ dg := by simpa using (show (!decide (c ∈ dg)) = true from c2)
          tm_at "go"
          have z := q H2 (Same.refl _)
          rw [isN_bad (List.mem_of_getElem? hc2) c1 c2] at z
          exact z
        · have c2 : c ∈ dg := by simpa using (show ¬ (!decide (c ∈ dg)) = true from c2)
          exact ⟨_, rfl, rfl, step (.inr c2)⟩
      · have c1 : c ∈ nh := by simpa using (show ¬ (!decide (c ∈ nh)) = true from c1)
        exact ⟨_, rfl, rfl, step (.inl c1)⟩
    · rintro σ H1 ⟨v0, rfl, rfl, hb⟩
      have hb : ∀ c ∈ tl x, c ∈ nh ∨ c ∈ dg := fun c hc => hb c (by
        rw [List.take_of_length_le (by simp [tl])]
        exact hc)
      tm_at "go"
      refine ite2 (fun c1 => ?_) (fun c1 => ?_)
      · have c1 : ¬ x = Str.empty := by
          have := show (!decide (V.str x = V.str Str.empty)) = true from c1
          intro e
          rw [e] at this
          exact absurd this (by decide)
        cases e : tl x with
        | nil => exact absurd (ext_tl e) c1
        | cons c r =>
          have z := q H1 (Same.refl _)
          rw [isN_of e hb] at z
          tm_at "go"
          refine ⟨_, _, c, rfl, rfl, ?_, ?_, ?_⟩
          · have hs : (1000 : Nat) ≤ sizeLine := by decide
            omega
          · show atI (tl x) 0 = some c
            rw [e]
            exact atI_nat (j := 0) rfl
          · tm_at "go"
            exact z
      · have c1 : x = Str.empty := by
          have := show ¬ (!decide (V.str x = V.str Str.empty)) = true from c1
          by_cases e : V.str x = V.str Str.empty
          · exact V.str.inj e
          · rw [decide_eq_false e] at this
            exact absurd rfl this
        have z := q H1 (Same.refl _)
        rw [c1] at z
        exact z
end
end C
set_option Elab.async false
set_option linter.all false
set_option pp.maxSteps 1500
set_option maxRecDepth 100000
set_option maxHeartbeats 4000000
namespace C
open PySem PySem.Spec PyProof.Rows L2 Kx M TL
local macro_rules | `(tactic| tm_at "same") => `(tactic| first
  | assumption
  | exact L2.Same.refl _
  | exact L2.Same.upd (by tm_at "same") (by tm_at "free")
  | exact sameTransR (by assumption) (by tm_at "same"))
local macro_rules | `(tactic| tm_at "free") => `(tactic| first
  | assumption
  | exact sameFreeR (by assumption) (by tm_at "same"))
local macro_rules | `(tactic| tm_at "but") => `(tactic| first
  | assumption
  | exact But.refl _ _
  | exact But.transR (by assumption) (by tm_at "but")
  | exact But.upd
  | exact But.self (by tm_at "but")
  | exact But.new1 (by tm_at "but") (by assumption)
  | exact But.new (by tm_at "but") (by tm_at "free")
  | exact L2.Same.but (by assumption) _)
local macro_rules | `(tactic| tm_at "fact") => `(tactic| first
  | exact upd_same
  | assumption
  | exact SqL.of upd_same
  | exact SqT.of upd_same
  | exact SqL.of (by assumption)
  | exact SqT.of (by assumption)
  | exact But.lstR (by assumption) (by assumption) (by tm_at "but"))
local macro_rules | `(tactic| tm_at "cond") => `(tactic| first
  | rfl
  | assumption
  | decide
  | omega
  | exact ⟨by decide, by decide⟩
  | exact .inr ⟨by decide, by decide⟩
  | exact .inl ⟨by decide, by decide⟩
  | exact ⟨by decide, by decide, by decide⟩
  | exact cdivw (by assumption) (by assumption)
  | exact log2_ok (by assumption)
  | exact Or.inl ⟨rfl, _, SqL.of upd_same⟩
  | exact Or.inl ⟨rfl, _, SqL.of (by assumption)⟩
  | exact ⟨_, rfl⟩
  | exact Nat.le_of_ble_eq_true rfl
  | exact small1000 (by omega))
local macro_rules | `(tactic| tm_at "prop") => `(tactic| first
  | assumption
  | omega)
local macro_rules | `(tactic| tm_at "s") => `(tactic| first
  | refine ⟨_, rfl, ?_⟩
  | refine ⟨_, _, rfl, rfl, ?_⟩
  | refine ⟨_, _, _, rfl, rfl, (by tm_at "fact"), (by tm_at "cond"), ?_⟩
  | refine ⟨_, _, _, _, rfl, rfl, (by tm_at "fact"), rfl, ?_⟩
  | refine ⟨_, _, rfl, (by tm_at "fact"), ?_⟩
  | refine And.intro (by tm_at "cond") ?_
  | refine .inl ⟨_, rfl, ?_⟩
  | refine ⟨_, _, rfl, .inl (by tm_at "fact"), ?_⟩
  | refine dec_false (by tm_at "prop") ?_
  | refine dec_true (by tm_at "prop") ?_
  | refine decN_false (by tm_at "prop") ?_
  | refine decN_true (by tm_at "prop") ?_
  | refine iteT ?_
  | refine iteF ?_
  | refine ⟨_, _, rfl, ?_⟩)
local macro_rules | `(tactic| tm_at "go") => `(tactic| repeat tm_at "s")

section
variable {P : Program} {w : World} {K : PySem.W.Frag} {mg : Str → Option Value} {base : Heap} {aH aR : Addr}
/-! ### read_integer -/
def spReadInt : Sp := fun vs H Q _ => ∃ (n : Nat), vs = [.str (num n)] ∧ n < 10 ^ 60 ∧ ∀ H', Same H H' → Q (.int (n : Int)) H'
theorem sc_read_integer : FnScope ["text", "digits", "char", "head", "n", "start"] ["text"] (defScope s_read_integer) := ⟨rfl, rfl, rfl, by decide +kernel, rfl, by decide +kernel, by decide +kernel⟩
theorem ok_read_integer {k : Nat} (D : Def K mg "read_integer" "read_integer" s_read_integer ["text"]) (B : Bi mg) (G : Gb K mg aH aR) : Cal P w K mg base CX0 (k + 1) "read_integer" ["text"] spReadInt := by
  refine D.cal fun f fd F => F.ok sc_read_integer (fun vs H Q E h => ?_) (fun cdv A outer s H vs Q E hr h => ?_)
  · obtain ⟨x, rfl, _⟩ := h
    rfl
  · obtain ⟨n, rfl, hn, q⟩ := h
    have nd := sc_read_integer.nd
    refine ⟨_, (pss_cons (ps_set (i := 1) nd rfl (Or.inl rfl) (pv 0))
      (pss_cons (ps_if (pt_cmpR op_eq (pe_slice sl_str (pv 0) po_none (po_some pe_int)) pe_str (nomark _))
        (pss_one (ps_set (i := 1) nd rfl (Or.inl rfl) (pe_slice sl_str (pv 0) (po_some pe_int) po_none)))
        pss_nil)
      (pss_cons (ps_if (PW.pt (pw_or (pt_cmpR op_eq (pv 1) pe_str (nomark _)) (pw_or1 (PW.pt (pw_and (pt_cmpR op_eq (pe_ix ix_str (pv 1) pe_int (fun _ _ => rfl)) pe_str (nomark _)) (pw_and1 (pt_cmpR op_ne (pv 0) pe_str (nomark _))))))))
        (pss_one ps_never)
        pss_nil)
      (pss_cons (ps_for PassesOwn.never rfl (pi_str (pv 1)) (pg_name (i := 2) nd rfl (Or.inl rfl))
        (pss_one (ps_if (pt_cmpR op_notIn_sign (pv 2) (pe_globS (by rfl) G.DIGITS_digits) (by rfl))
          (pss_one ps_never)
          pss_nil)))
      (pss_cons (ps_set (i := 3) nd rfl (Or.inl rfl) (pe_op op_mod (pe_callB call_len_str (by rfl) B.len (by decide +kernel) (pa_cons (pv 1) pa_nil)) pe_int))
      (pss_cons (ps_set (i := 4) nd rfl (Or.inl rfl) pe_int)
      (pss_cons (ps_if (pt_cmpR op_gt (pv 3) pe_int (nomark _))
        (pss_one (ps_set (i := 4) nd rfl (Or.inl rfl) (pe_callTy call_int_str (by rfl) B.int (by decide +kernel) (pa_cons (pe_slice sl_str (pv 1) po_none (po_some (pv 3))) pa_nil))))
        pss_nil)
      (pss_cons (ps_for PassesOwn.never rfl (pi_range3 (by rfl) B.range (pa_cons (pv 3) (pa_cons (pe_callB call_len_str (by rfl) B.len (by decide +kernel) (pa_cons (pv 1) pa_nil)) (pa_cons pe_int pa_nil)))) (pg_name (i := 5) nd rfl (Or.inl rfl))
        (pss_one (ps_set (i := 4) nd rfl (Or.inl rfl) (pe_op op_add (pe_op op_mul (pv 4) (pe_globI (by rfl) G.BASE)) (pe_callTy call_int_str (by rfl) B.int (by decide +kernel) (pa_cons (pe_slice sl_str (pv 1) (po_some (pv 5)) (po_some (pe_op op_add (pv 5) pe_int))) pa_nil))))))
      (pss_cons (ps_if (pt_cmpR op_eq (pe_ix ix_str (pv 0) pe_int (fun _ _ => rfl)) pe_str (nomark _))
        (pss_one (ps_ret (pe_un un_neg (pv 4))))
        pss_nil)
      (pss_one (ps_ret (pv 4)))))))))))), ?_⟩
    have hs : (1000 : Nat) ≤ sizeLine := by decide
    obtain ⟨c, r, e, h1, h2, h0⟩ := num_head n
    have hint : PySem.intText? (num n) = some (n : Int) := int_num (by
      have := num_len hn
      rw [← tl_numS, ← len_tl]
      omega)
    have hl := num_len hn
    have hz0 : n = 0 → num n = S "0" := fun z => by rw [z, num_zero]
    have hmem : ∀ d ∈ tl (num n), d ∈ dg := fun d hd => num_mem hd
    generalize num n = X at e hint hl hz0 hmem ⊢
    have hlen : X.length = r.length + 1 := by
      rw [len_tl, e]
      rfl
    have h45 : ¬ V.str (⟨#[c]⟩ : Str) = V.str (S "-") := fun q => by
      have := congrArg tl (V.str.inj q)
      rw [tl_minus] at this
      have : c = 45 := by simpa [tl] using this
      omega
    have hsl : ¬ V.str (cutS X none (some 1)) = V.str (S "-") := fun z => by
      have z1 : tl (cutS X none (some ((1 : Nat) : Int))) = tl (S "-") := congrArg tl (V.str.inj z)
      rw [cut_to, e, tl_minus] at z1
      have : c = 45 := by simpa using z1
      omega
    have hne : ¬ V.str X = V.str (S "") := fun z => by
      have := congrArg tl (V.str.inj z)
      rw [e] at this
      have e2 : tl (S "") = [] := by decide +kernel
      rw [e2] at this
      cases this
    have hat : atI X.cps.toList 0 = some c := by
      show atI (tl X) 0 = some c
      rw [e]
      exact atI_nat (j := 0) rfl
    have hfull : cutS X none (some (X.length : Int)) = X := by
      refine ext_tl ?_
      rw [cut_to, len_tl, List.take_of_length_le (Nat.le_refl _)]
    have hmod : (X.length : Int) % 64 = (X.length : Int) := by omega
    have hiX : PySem.intText? (cutS X none (some ((X.length : Int) % 64))) = some (n : Int) := by
      rw [hmod, hfull]
      exact hint
    have hcl : (cutS X none (some ((X.length : Int) % 64))).length ≤ 640 := by
      rw [hmod, hfull]
      omega
    tm_at "go"
    refine ⟨_, _, c, rfl, rfl, by omega, hat, ?_⟩
    tm_at "go"
    refine ite_to ?_ (fun c1 rest => ?_)
    · tm_at "go"
      refine for_it walk_str (fun i σ H' => ∃ v, σ = [some (.str X), some (.str X), v, none, none, none] ∧ H' = H) ⟨_, rfl, rfl⟩ (fun _ _ _ _ _ => trivial) ?_ ?_
      · rintro i v σ H1 H2 hi ⟨v0, rfl, rfl⟩ ⟨rfl, d, hd2, rfl⟩
        have hc2 : (tl X)[i]? = some d := by
          rw [← hd2]
          simp [tl]
        have hdg : d ∈ dg := hmem d (List.mem_of_getElem? hc2)
        tm_at "go"
        rfl
      · rintro σ H1 ⟨v0, rfl, rfl⟩
        tm_at "go"
        refine ⟨_, _, _, 0, rfl, ?_, ?_⟩
        · rw [hmod]
          exact rg_none (by decide) (by decide) (by omega) (by omega)
        · refine for_it walk_rangeC (fun i σ H' => σ = [some (.str X), some (.str X), v0, some (.int ((X.length : Int) % 64)), some (.int (n : Int)), none] ∧ H' = H1) ⟨rfl, rfl⟩ (fun _ _ _ _ _ => trivial) ?_ ?_
          · rintro i v σ H1 H2 hi
            exact absurd hi (by omega)
          · rintro σ H2 ⟨rfl, rfl⟩
            tm_at "go"
            refine ⟨_, _, c, rfl, rfl, by omega, hat, ?_⟩
            tm_at "go"
            exact q _ (Same.refl _)
    · have c1 : c = 48 := by
        have e2 : tl (S "0") = [48] := by decide +kernel
        have := congrArg tl (V.str.inj (of_decide_eq_true (show decide (V.str (⟨#[c]⟩ : Str) = V.str (S "0")) = true from c1)))
        rw [e2] at this
        simpa [tl] using this
      exact ⟨_, rfl, rfl, _, rfl, decN_false (congrArg V.str (hz0 (h0 c1))) (of_iteF rest)⟩
end
end C
set_option Elab.async false
set_option linter.all false
set_option pp.maxSteps 1500
set_option maxRecDepth 100000
set_option maxHeartbeats 4000000
namespace C
open PySem PySem.Spec PyProof.Rows L2 Kx M TL
local macro_rules | `(tactic| tm_at "same") => `(tactic| first
  | assumption
  | exact L2.Same.refl _
  | exact L2.Same.upd (by tm_at "same") (by tm_at "free")
  | exact sameTransR (by assumption) (by tm_at "same"))
local macro_rules | `(tactic| tm_at "free") => `(tactic| first
  | assumption
  | exact sameFreeR (by assumption) (by tm_at "same"))
local macro_rules | `(tactic| tm_at "but") => `(tactic| first
  | assumption
  | exact But.refl _ _
  | exact But.transR (by assumption) (by tm_at "but")
  | exact But.upd
  | exact But.self (by tm_at "but")
  | exact But.new1 (by tm_at "but") (by assumption)
  | exact But.new (by tm_at "but") (by tm_at "free")
  | exact L2.Same.but (by assumption) _)
local macro_rules | `(tactic| tm_at "fact") => `(tactic| first
  | exact upd_same
  | assumption
  | exact SqL.of upd_same
  | exact SqT.of upd_same
  | exact SqL.of (by assumption)
  | exact SqT.of (by assumption)
  | exact But.lstR (by assumption) (by assumption) (by tm_at "but"))
local macro_rules | `(tactic| tm_at "cond") => `(tactic| first
  | rfl
  | assumption
  | decide
  | omega
  | exact ⟨by decide, by decide⟩
  | exact .inr ⟨by decide, by decide⟩
  | exact .inl ⟨by decide, by decide⟩
  | exact ⟨by decide, by decide, by decide⟩
  | exact cdivw (by assumption) (by assumption)
  | exact log2_ok (by assumption)
  | exact Or.inl ⟨rfl, _, SqL.of upd_same⟩
  | exact Or.inl ⟨rfl, _, SqL.of (by assumption)⟩
  | exact ⟨_, rfl⟩
  | exact Nat.le_of_ble_eq_true rfl
  | exact small1000 (by omega))
local macro_rules | `(tactic| tm_at "prop") => `(tactic| first
  | assumption
  | omega)
local macro_rules | `(tactic| tm_at "s") => `(tactic| first
  | refine ⟨_, rfl, ?_⟩
  | refine ⟨_, _, rfl, rfl, ?_⟩
  | refine ⟨_, _, _, rfl, rfl, (by tm_at "fact"), (by tm_at "cond"), ?_⟩
  | refine ⟨_, _, _, _, rfl, rfl, (by tm_at "fact"), rfl, ?_⟩
  | refine ⟨_, _, rfl, (by tm_at "fact"), ?_⟩
  | refine And.intro (by tm_at "cond") ?_
  | refine .inl ⟨_, rfl, ?_⟩
  | refine ⟨_, _, rfl, .inl (by tm_at "fact"), ?_⟩
  | refine dec_false (by tm_at "prop") ?_
  | refine dec_true (by tm_at "prop") ?_
  | refine decN_false (by tm_at "prop") ?_
  | refine decN_true (by tm_at "prop") ?_
  | refine iteT ?_
  | refine iteF ?_
  | refine ⟨_, _, rfl, ?_⟩)
local macro_rules | `(tactic| tm_at "go") => `(tactic| repeat tm_at "s")

section
variable {P : Program} {w : World} {K : PySem.W.Frag} {mg : Str → Option Value} {base : Heap} {aH aR : Addr}
/-! ### form -/
def spForm (K : PySem.W.Frag) : Sp := fun vs H Q _ => ∃ (c : Int) (a : Addr) (xs : List V) (ps : List (Str × Int)), vs = [.int c, .ref a] ∧ SqL K H a xs ∧ Ims K H xs (ps.map pD) ∧ ps.length < 64 ∧
  ∀ r H' ys, ys.Perm ((totals ps).map (·.1)) → ys.Pairwise sLe → Same H H' → Im K H' r (fD (c, tms ps ys)) → Q r H'
theorem sc_form : FnScope ["constant", "pairs", "sums", "name", "coefficient"] ["constant", "pairs"] (defScope s_form) := ⟨rfl, rfl, rfl, by decide +kernel, rfl, by decide +kernel, by decide +kernel⟩
theorem ok_form {k : Nat} (D : Def K mg "form" "form" s_form ["constant", "pairs"]) (B : Bi mg) : Cal P w K mg base CX0 (k + 1) "form" ["constant", "pairs"] (spForm K) := by
  refine D.cal fun f fd F => F.ok sc_form (fun vs H Q E h => ?_) (fun cdv A outer s H vs Q E hr h => ?_)
  · obtain ⟨c, a, xs, ps, rfl, _⟩ := h
    rfl
  · obtain ⟨c, a, xs, ps, rfl, ha, hi, hl, q⟩ := h
    have nd := sc_form.nd
    have hlx := hi.length
    rw [List.length_map] at hlx
    refine ⟨_, (pss_cons (ps_set (i := 2) nd rfl (Or.inr rfl) pe_dnewK)
      (pss_cons (ps_for PassesOwn.never rfl (pi_list (pv 1)) (pg_tup rfl (pgs_cons (pg_name (i := 3) nd rfl (Or.inl rfl)) (pgs_cons (pg_name (i := 4) nd rfl (Or.inl rfl)) pgs_nil)))
        (pss_one (ps_dput (hu_of hr) (pv 2) (pv 3) (pe_op op_add (pe_dget2 (hu_of hr) (pv 2) (pv 3) pe_int ⟨rfl, rfl, rfl, rfl⟩) (pv 4)) rfl)))
      (pss_one (ps_ret (pe_tup (pa_cons (pv 0) (pa_cons (pe_callTy call_tuple_of (by rfl) B.tuple (by decide +kernel) (pa_cons (pe_lc (own := [("name", 3)]) (by rfl) nd (pi_list (pe_callB (call_sortedD rfl) (by rfl) B.sorted (by decide +kernel) (pa_cons (pv 2) pa_nil))) (blkOk_by (own := [("name", 3)]) (N := ["constant", "pairs", "sums", "name", "coefficient"]) (sc := defScope s_form) (by decide +kernel)) (fun _ _ _ _ _ => (pg_name (i := 3) nd rfl (Or.inl rfl))) (fun _ _ _ _ _ => (pts_one (pt_cmpR op_ne (pe_dget (hu_of hr) (pv 2) (pv 3) (fun _ _ => rfl)) pe_int (nomark _)))) (fun _ _ _ _ _ => (pe_tup (pa_cons (pv 3) (pa_cons (pe_dget (hu_of hr) (pv 2) (pv 3) (fun _ _ => rfl)) pa_nil))))) pa_nil)) pa_nil))))))), ?_⟩
    tm_at "go"
    intro d nd0
    have s0 : Same H (upd H d (.dK [])) := by tm_at "same"
    refine ⟨_, rfl, a, rfl, ⟨_, s0.seq ha⟩, ?_⟩
    refine for_it walk_list (fun i σ H' => ∃ v1 v2, σ = [some (.int c), some (.ref a), some (.ref d), v1, v2] ∧ Same H H' ∧ H' d = some (.dK (kvP (totals (ps.take i))))) ⟨_, _, rfl, s0, upd_same⟩ (fun i σ H' _ ⟨_, _, _, s1, _⟩ => s1.seq ha) ?_ ?_
    · rintro i v σ H1 H2 hlt ⟨v1, v2, rfl, s1, hd⟩ ⟨rfl, hv⟩
      obtain ⟨p, hp, him⟩ := ims_at hi hv
      obtain ⟨t, rfl, ht⟩ := pD_inv (s1.tk.im him)
      have hlen : (kvP (totals (ps.take i))).length < sizeLine := by
        unfold kvP
        rw [List.length_map]
        have h1 := totals_len (ps.take i)
        rw [List.length_take] at h1
        exact small1000 (by omega)
      tm_at "go"
      refine ⟨.inl ⟨_, .inl hd⟩, ?_⟩
      tm_at "go"
      refine ⟨_, DGet.k (k := Sum.inr p.1) hd, ?_⟩
      rw [kv_val]
      tm_at "go"
      refine ⟨d, _, rfl, DPut.k (k := Sum.inr p.1) hd hlen, ?_⟩
      refine ⟨_, _, rfl, by tm_at "same", ?_⟩
      rw [upd_same, kv_put _ _ _ (totals_nodup _), take_snoc hp, totals_snoc]
    · rintro σ H1 ⟨v1, v2, rfl, s1, hd⟩
      rw [List.take_of_length_le (by omega)] at hd
      have hkl := totals_len ps
      tm_at "go"
      refine ⟨d, _, (totals ps).map (·.1), rfl, .inl hd, kvP_keys _, by rw [List.length_map]; omega, fun ys p pm so np => ?_⟩
      have s2 : Same H1 (upd H1 p (.lst (ys.map V.str))) := same_new np
      have hyl : ys.length < 64 := by
        rw [pm.length_eq, List.length_map]
        omega
      refine ⟨p, rfl, ⟨_, SqL.of upd_same⟩, fun D nD => ?_⟩
      refine lc_it walk_list (fun i H' => Same H1 H' ∧ H' p = some (.lst (ys.map V.str)) ∧ ∃ vs, H' D = some (.lst vs) ∧ vs.length ≤ i ∧ Ims K H' vs ((((ys.take i).map fun n => (n, look (totals ps) n)).filter nzp).map pD)) ?_ (fun i H' _ ⟨_, h, _⟩ => SqL.of h) ?_ ?_
      · have npD : p ≠ D := ne_of_none upd_same nD
        refine ⟨by tm_at "same", ?_, [], upd_same, Nat.le_refl _, ?_⟩
        · rw [upd_ne npD, upd_same]
        · rw [List.take_zero]
          exact .nil
      · rintro i v Hx Hy hlt ⟨sx, hp, vs, hDv, hlv, him⟩ ⟨rfl, hv⟩
        have npD : p ≠ D := ne_of_none upd_same nD
        obtain ⟨n, hn, rfl⟩ : ∃ n, ys[i]? = some n ∧ V.str n = v := by
          rw [List.getElem?_map] at hv
          cases e : ys[i]? with
          | none => rw [e] at hv; cases hv
          | some z => rw [e] at hv; exact ⟨z, rfl, Option.some.inj hv⟩
        have hmem : n ∈ (totals ps).map (·.1) := pm.subset (List.mem_of_getElem? hn)
        have hg := kv_has (totals ps) n hmem
        have hd2 : Hy d = some (.dK (kvP (totals ps))) := sx _ _ hd
        have dg : DGet Hy d (.str n) (some (.int (look (totals ps) n))) := by
          rw [← hg]
          exact DGet.k (k := Sum.inr n) hd2
        have hil : i < 64 := by
          rw [List.length_map] at hlt
          omega
        have cons : (((ys.take (i + 1)).map fun n => (n, look (totals ps) n)).filter nzp).map pD = (((ys.take i).map fun n => (n, look (totals ps) n)).filter nzp).map pD ++ (if look (totals ps) n = 0 then [] else [pD (n, look (totals ps) n)]) := by
          rw [take_snoc hn, List.map_append, List.filter_append, List.map_append]
          congr 1
          show List.map pD (List.filter nzp [(n, look (totals ps) n)]) = _
          by_cases z : look (totals ps) n = 0
          · rw [if_pos z, List.filter_cons_of_neg (by unfold nzp; rw [decide_eq_true z]; exact Bool.false_ne_true)]
            rfl
          · rw [if_neg z, List.filter_cons_of_pos (by unfold nzp; rw [decide_eq_false z]; rfl)]
            rfl
        rw [cons]
        tm_at "go"
        refine ite2 (fun c => ?_) (fun c => ?_)
        · have c1 : ¬ look (totals ps) n = 0 := fun z => by
            have := show (!decide (V.int (look (totals ps) n) = V.int 0)) = true from c
            rw [z] at this
            exact absurd this (by decide)
          rw [if_neg c1]
          tm_at "go"
          refine fun t nt => ⟨vs, ?_, small1000 (by omega), ?_, ?_, _, upd_same, ?_, ?_⟩
          · rw [upd_ne (ne_of_none hDv nt)]
            exact hDv
          · tm_at "same"
          · rw [upd_ne npD, upd_ne (ne_of_none hp nt)]
            exact hp
          · rw [List.length_append]
            show vs.length + 1 ≤ i + 1
            omega
          · refine Ims.snoc (TK.ims ?_ him) (pD_of (SqT.of ?_))
            · exact (TK.new nt).trans (TK.lst (xs := vs) (by rw [upd_ne (ne_of_none hDv nt)]; exact hDv))
            · rw [upd_ne (ne_of_none hDv nt).symm, upd_same]
        · have c1 : look (totals ps) n = 0 := by
            have := show ¬ (!decide (V.int (look (totals ps) n) = V.int 0)) = true from c
            by_cases z : look (totals ps) n = 0
            · exact z
            · rw [decide_eq_false (fun e => z (V.int.inj e))] at this
              exact absurd rfl this
          rw [if_pos c1, List.append_nil]
          exact ⟨sx, hp, vs, hDv, by omega, him⟩
      · rintro H5 ⟨sx, hp, vs, hDv, hlv, him⟩
        rw [List.length_map, List.take_of_length_le (Nat.le_refl _)] at him
        rw [List.length_map] at hlv
        refine ⟨D, vs, rfl, .inl ⟨SqL.of hDv, fun u nu => ?_⟩⟩
        tm_at "go"
        refine fun t nt => ?_
        refine q _ _ ys pm (sorted_pair so) (by tm_at "same") (fD_of (u := u) (xs := vs) (SqT.of upd_same) (SqT.of ?_) ?_)
        · rw [upd_ne (ne_of_none upd_same nt), upd_same]
        · exact (TK.new nt).ims ((TK.new nu).ims him)
end
end C
set_option Elab.async false
set_option linter.all false
set_option pp.maxSteps 1500
set_option maxRecDepth 100000
set_option maxHeartbeats 4000000
namespace C
open PySem PySem.Spec PyProof.Rows L2 Kx M TL
local macro_rules | `(tactic| tm_at "same") => `(tactic| first
  | assumption
  | exact L2.Same.refl _
  | exact L2.Same.upd (by tm_at "same") (by tm_at "free")
  | exact sameTransR (by assumption) (by tm_at "same"))
local macro_rules | `(tactic| tm_at "free") => `(tactic| first
  | assumption
  | exact sameFreeR (by assumption) (by tm_at "same"))
local macro_rules | `(tactic| tm_at "but") => `(tactic| first
  | assumption
  | exact But.refl _ _
  | exact But.transR (by assumption) (by tm_at "but")
  | exact But.upd
  | exact But.self (by tm_at "but")
  | exact But.new1 (by tm_at "but") (by assumption)
  | exact But.new (by tm_at "but") (by tm_at "free")
  | exact L2.Same.but (by assumption) _)
local macro_rules | `(tactic| tm_at "fact") => `(tactic| first
  | exact upd_same
  | assumption
  | exact SqL.of upd_same
  | exact SqT.of upd_same
  | exact SqL.of (by assumption)
  | exact SqT.of (by assumption)
  | exact But.lstR (by assumption) (by assumption) (by tm_at "but"))
local macro_rules | `(tactic| tm_at "cond") => `(tactic| first
  | rfl
  | assumption
  | decide
  | omega
  | exact ⟨by decide, by decide⟩
  | exact .inr ⟨by decide, by decide⟩
  | exact .inl ⟨by decide, by decide⟩
  | exact ⟨by decide, by decide, by decide⟩
  | exact cdivw (by assumption) (by assumption)
  | exact log2_ok (by assumption)
  | exact Or.inl ⟨rfl, _, SqL.of upd_same⟩
  | exact Or.inl ⟨rfl, _, SqL.of (by assumption)⟩
  | exact ⟨_, rfl⟩
  | exact Nat.le_of_ble_eq_true rfl
  | exact small1000 (by omega))
local macro_rules | `(tactic| tm_at "prop") => `(tactic| first
  | assumption
  | omega)
local macro_rules | `(tactic| tm_at "s") => `(tactic| first
  | refine ⟨_, rfl, ?_⟩
  | refine ⟨_, _, rfl, rfl, ?_⟩
  | refine ⟨_, _, _, rfl, rfl, (by tm_at "fact"), (by tm_at "cond"), ?_⟩
  | refine ⟨_, _, _, _, rfl, rfl, (by tm_at "fact"), rfl, ?_⟩
  | refine ⟨_, _, rfl, (by tm_at "fact"), ?_⟩
  | refine And.intro (by tm_at "cond") ?_
  | refine .inl ⟨_, rfl, ?_⟩
  | refine ⟨_, _, rfl, .inl (by tm_at "fact"), ?_⟩
  | refine dec_false (by tm_at "prop") ?_
  | refine dec_true (by tm_at "prop") ?_
  | refine decN_false (by tm_at "prop") ?_
  | refine decN_true (by tm_at "prop") ?_
  | refine iteT ?_
  | refine iteF ?_
  | refine ⟨_, _, rfl, ?_⟩)
local macro_rules | `(tactic| tm_at "go") => `(tactic| repeat tm_at "s")

section
variable {P : Program} {w : World} {K : PySem.W.Frag} {mg : Str → Option Value} {base : Heap} {aH aR : Addr}
/-! ### write_form -/
def spWriteForm (K : PySem.W.Frag) : Sp := fun vs H Q _ => ∃ (v : V) (f : M.Form), vs = [v] ∧ Im K H v (fD f) ∧ FOk f ∧ ∀ H', Same H H' → Q (.str (wr f)) H'
theorem sc_write_form : FnScope ["f", "terms", "text", "name", "coefficient"] ["f"] (defScope s_write_form) := ⟨rfl, rfl, rfl, by decide +kernel, rfl, by decide +kernel, by decide +kernel⟩
theorem ok_write_form {k : Nat} (D : Def K mg "write_form" "write_form" s_write_form ["f"]) (B : Bi mg) (c_write_term : Cal P w K mg base CX0 k "write_term" ["name", "size"] spWriteTerm) : Cal P w K mg base CX0 (k + 1) "write_form" ["f"] (spWriteForm K) := by
  refine D.cal fun f fd F => F.ok sc_write_form (fun vs H Q E h => ?_) (fun cdv A outer s H vs Q E hr h => ?_)
  · obtain ⟨v, f, rfl, _⟩ := h
    rfl
  · obtain ⟨v, g, rfl, hv, hg, q⟩ := h
    have nd := sc_write_form.nd
    obtain ⟨t, u, xs, rfl, ht, hu, hx⟩ := fD_inv hv
    have hxl := hx.length
    rw [List.length_map] at hxl
    have hgl := hg.len
    have hPO := terms_ok hg
    have htl := terms_len hg
    refine ⟨_, (pss_cons (ps_set (i := 1) nd rfl (Or.inl rfl) (pe_callTy call_list_of (by rfl) B.list (by decide +kernel) (pa_cons (pe_ix ix_tup (pv 0) pe_int (fun _ _ => rfl)) pa_nil)))
      (C8.pss_cut (ps_if (PW.pt (pw_or (pt_cmpR op_ne (pe_ix ix_tup (pv 0) pe_int (fun _ _ => rfl)) pe_int (nomark _)) (pw_or1 (pt_not (pt_truth (pv 1) (by intro _; rfl))))))
        (pss_one (ps_expr (pe_bm PySem.F.plainAttrs_list PySem.F.slot_list_append PySem.F.type_list_append mt_append (pv 1) (pa_cons (pe_tup (pa_cons pe_str (pa_cons (pe_ix ix_tup (pv 0) pe_int (fun _ _ => rfl)) pa_nil))) pa_nil))))
        pss_nil)
      (pss_cons (ps_set (i := 2) nd rfl (Or.inl rfl) pe_str)
      (pss_cons (ps_for PassesOwn.never rfl (pi_list (pv 1)) (pg_tup rfl (pgs_cons (pg_name (i := 3) nd rfl (Or.inl rfl)) (pgs_cons (pg_name (i := 4) nd rfl (Or.inl rfl)) pgs_nil)))
        (C8.pss_cut (ps_if (pt_cmpR op_eq (pv 2) pe_str (nomark _))
          (pss_one (ps_set (i := 2) nd rfl (Or.inl rfl) (pe_ifExp (pt_cmpR op_lt (pv 4) pe_int (nomark _)) pe_str pe_str)))
          (pss_one (ps_aug (i := 2) nd rfl (Or.inl rfl) (pe_ifExp (pt_cmpR op_lt (pv 4) pe_int (nomark _)) pe_str pe_str) ip_addS)))
        (pss_one (ps_aug (i := 2) nd rfl (Or.inl rfl) (pe_cal c_write_term (Room.mono hr (by omega)) (by rfl) (pa_cons (pv 3) (pa_cons (pe_callB call_abs (by rfl) B.abs (by decide +kernel) (pa_cons (pv 4) pa_nil)) pa_nil))) ip_addS))))
      (pss_one (ps_ret (pv 2))))))), ?_⟩
    tm_at "go"
    refine ⟨_, xs, rfl, .inr hu, fun l nl => ?_⟩
    have s0 : Same H (upd H l (.lst xs)) := by tm_at "same"
    have ht1 : SqT K (upd H l (.lst xs)) t [.int g.1, .ref u] := s0.tk.tup ht
    refine ⟨fun σ H1 => ∃ vs, σ = [some (.ref t), some (.ref l), none, none, none] ∧ Same H H1 ∧ H1 l = some (.lst vs) ∧ Ims K H1 vs ((terms g).map pD), ?_, ?_⟩
    · have same : ¬ (g.1 ≠ 0 ∨ g.2 = []) → ∃ vs, [some (V.ref t), some (V.ref l), none, none, none] = [some (.ref t), some (.ref l), none, none, none] ∧ Same H (upd H l (.lst xs)) ∧ upd H l (.lst xs) l = some (.lst vs) ∧ Ims K (upd H l (.lst xs)) vs ((terms g).map pD) := fun hc => by
        refine ⟨xs, rfl, s0, upd_same, ?_⟩
        unfold terms
        rw [if_neg hc]
        exact s0.tk.ims hx
      have app : (g.1 ≠ 0 ∨ g.2 = []) → ∀ tp, upd H l (.lst xs) tp = none → ∃ vs, [some (V.ref t), some (V.ref l), none, none, none] = [some (.ref t), some (.ref l), none, none, none] ∧ Same H (upd (upd (upd H l (.lst xs)) tp (.tup [.str Str.empty, .int g.1])) l (.lst (xs ++ [.ref tp]))) ∧ (upd (upd (upd H l (.lst xs)) tp (.tup [.str Str.empty, .int g.1])) l (.lst (xs ++ [.ref tp]))) l = some (.lst vs) ∧ Ims K (upd (upd (upd H l (.lst xs)) tp (.tup [.str Str.empty, .int g.1])) l (.lst (xs ++ [.ref tp]))) vs ((terms g).map pD) := fun hc tp ntp => by
        have nlt : l ≠ tp := ne_of_none upd_same ntp
        have tk1 : TK (upd (upd H l (.lst xs)) tp (.tup [.str Str.empty, .int g.1])) (upd (upd (upd H l (.lst xs)) tp (.tup [.str Str.empty, .int g.1])) l (.lst (xs ++ [.ref tp]))) := TK.lst (xs := xs) (by rw [upd_ne nlt, upd_same])
        refine ⟨xs ++ [.ref tp], rfl, by tm_at "same", upd_same, ?_⟩
        unfold terms
        rw [if_pos hc, List.map_append]
        refine tk1.ims (Ims.snoc ((TK.new ntp).ims (s0.tk.ims hx)) (pD_of (p := (Str.empty, g.1)) (SqT.of upd_same)))
      have nlt2 : ∀ tp, upd H l (.lst xs) tp = none → (upd (upd H l (.lst xs)) tp (.tup [.str Str.empty, .int g.1])) l = some (.lst xs) := fun tp ntp => by
        rw [upd_ne (ne_of_none upd_same ntp), upd_same]
      tm_at "go"
      refine ite2 (fun c => ?_) (fun c => ?_)
      · have c1 : g.1 ≠ 0 := fun z => by
          have := show (!decide (V.int g.1 = V.int 0)) = true from c
          rw [z] at this
          exact absurd this (by decide)
        tm_at "go"
        refine fun tp ntp => ?_
        refine ⟨_, _, _, rfl, rfl, nlt2 tp ntp, small1000 (by omega), ?_⟩
        exact app (.inl c1) tp ntp
      · have c1 : g.1 = 0 := by
          by_cases z : g.1 = 0
          · exact z
          · exact absurd (show (!decide (V.int g.1 = V.int 0)) = true by rw [decide_eq_false (fun e => z (V.int.inj e))]; rfl) c
        refine ⟨_, rfl, !xs.isEmpty, .inl ⟨xs, SqL.of upd_same, rfl⟩, ?_⟩
        cases xs with
        | nil =>
          have c2 : g.2 = [] := List.length_eq_zero_iff.mp (by
            rw [← hxl]
            rfl)
          tm_at "go"
          refine fun tp ntp => ?_
          refine ⟨_, _, _, rfl, rfl, nlt2 tp ntp, small1000 (by omega), ?_⟩
          exact app (.inr c2) tp ntp
        | cons x r =>
          tm_at "go"
          refine same (fun z => ?_)
          rcases z with z | z
          · exact z c1
          · rw [z] at hxl
            cases hxl
    · rintro σ H1 ⟨vs, rfl, s1, hl, him⟩
      have hvl := him.length
      rw [List.length_map] at hvl
      tm_at "go"
      refine ⟨⟨_, SqL.of hl⟩, ?_⟩
      refine for_it walk_list (fun i σ H' => ∃ v1 v2, σ = [some (.ref t), some (.ref l), some (.str (wterms ((terms g).take i))), v1, v2] ∧ Same H1 H') ⟨_, _, rfl, Same.refl _⟩ (fun i σ H' _ ⟨_, _, _, s2⟩ => SqL.of (s2 _ _ hl)) ?_ ?_
      · rintro i v σ H2 H3 hlt ⟨v1, v2, rfl, s2⟩ ⟨rfl, hv⟩
        obtain ⟨p, hp, hpi⟩ := ims_at him hv
        obtain ⟨t2, rfl, ht2⟩ := pD_inv (s2.tk.im hpi)
        have hpo := hPO p (List.mem_of_getElem? hp)
        have hpre : ∀ p ∈ (terms g).take i, POk p := fun p hp => hPO p (List.mem_of_mem_take hp)
        have hwl := wterms_len hpre
        rw [List.length_take] at hwl
        have hbig : (100000 : Nat) ≤ sizeLine := by decide
        have html := tm_len hpo
        have htk : (terms g).take (i + 1) = (terms g).take i ++ [p] := take_snoc hp
        have hil : i < (terms g).length := by omega
        refine ⟨_, _, rfl, ht2, rfl, ?_⟩
        tm_at "go"
        refine ⟨fun σ H' => σ = [some (.ref t), some (.ref l), some (.str (wterms ((terms g).take i) ++ (if i = 0 then sg p.2 else sp p.2))), some (.str p.1), some (.int p.2)] ∧ H' = H3, ?_, ?_⟩
        · by_cases hi0 : i = 0
          · subst hi0
            have e0 : V.str (wterms ((terms g).take 0)) = V.str (S "") := by rw [List.take_zero] <;> rfl
            tm_at "go"
            refine ite2 (fun c => ?_) (fun c => ?_)
            · have c1 : p.2 < 0 := of_decide_eq_true c
              refine ⟨?_, rfl⟩
              show _ = [_, _, some (V.str (Str.empty ++ sg p.2)), _, _]
              rw [empty_app]
              unfold sg
              rw [if_pos c1]
              rfl
            · have c1 : ¬ p.2 < 0 := fun z => c (decide_eq_true z)
              refine ⟨?_, rfl⟩
              show _ = [_, _, some (V.str (Str.empty ++ sg p.2)), _, _]
              rw [empty_app]
              unfold sg
              rw [if_neg c1]
              rfl
          · have hne : ¬ V.str (wterms ((terms g).take i)) = V.str (S "") := fun z => by
              refine wterms_ne ?_ hpre (V.str.inj z)
              intro z
              have : ((terms g).take i).length = 0 := by rw [z]; rfl
              rw [List.length_take] at this
              omega
            rw [if_neg hi0]
            generalize wterms ((terms g).take i) = T at hne hwl ⊢
            tm_at "go"
            have h3 : (S " - ").length = 3 := by decide +kernel
            have h4 : (S " + ").length = 3 := by decide +kernel
            refine ite2 (fun c => ?_) (fun c => ?_)
            · have c1 : p.2 < 0 := of_decide_eq_true c
              refine ⟨_, _, rfl, rfl, ?_, ?_, rfl⟩
              · show T.length + (S " - ").length ≤ sizeLine
                omega
              · unfold sp
                rw [if_pos c1]
                rfl
            · have c1 : ¬ p.2 < 0 := fun z => c (decide_eq_true z)
              refine ⟨_, _, rfl, rfl, ?_, ?_, rfl⟩
              · show T.length + (S " + ").length ≤ sizeLine
                omega
              · unfold sp
                rw [if_neg c1]
                rfl
        · rintro σ H4 ⟨rfl, rfl⟩
          tm_at "go"
          refine ⟨p.1, p.2.natAbs, ?_, hpo.2, hpo.name_len, fun H5 s5 => ?_⟩
          · show [V.str p.1, V.int (if p.2 < 0 then -p.2 else p.2)] = _
            rw [abs_nat]
          · refine ⟨_, _, rfl, rfl, ?_, ?_⟩
            · show (wterms ((terms g).take i) ++ (if i = 0 then sg p.2 else sp p.2)).length + (tm p.1 p.2.natAbs).length ≤ sizeLine
              rw [len_app]
              have h1 := sg_len p.2
              have h2 := sp_len p.2
              split <;> omega
            · refine ⟨some (.str p.1), some (.int p.2), ?_, s2.trans s5⟩
              show [_, _, some (V.str (wterms ((terms g).take i) ++ (if i = 0 then sg p.2 else sp p.2) ++ tm p.1 p.2.natAbs)), _, _] = _
              rw [htk]
              by_cases hi0 : i = 0
              · subst hi0
                rw [if_pos rfl, List.take_zero, List.nil_append, wterms_one]
                show [_, _, some (V.str (Str.empty ++ sg p.2 ++ tm p.1 p.2.natAbs)), _, _] = _
                rw [empty_app]
              · rw [if_neg hi0, wterms_snoc _ _ (fun z => by
                  have : ((terms g).take i).length = 0 := by rw [z]; rfl
                  rw [List.length_take] at this
                  omega)]
      · rintro σ H2 ⟨v1, v2, rfl, s2⟩
        have e : wterms ((terms g).take vs.length) = wr g := by
          rw [List.take_of_length_le (by omega)]
          rfl
        tm_at "go"
        rw [e]
        exact q _ (s1.trans s2)
end
end C
set_option Elab.async false
set_option linter.all false
set_option pp.maxSteps 1500
set_option maxRecDepth 100000
set_option maxHeartbeats 4000000
namespace C
open PySem PySem.Spec PyProof.Rows L2 Kx M TL
local macro_rules | `(tactic| tm_at "same") => `(tactic| first
  | assumption
  | exact L2.Same.refl _
  | exact L2.Same.upd (by tm_at "same") (by tm_at "free")
  | exact sameTransR (by assumption) (by tm_at "same"))
local macro_rules | `(tactic| tm_at "free") => `(tactic| first
  | assumption
  | exact sameFreeR (by assumption) (by tm_at "same"))
local macro_rules | `(tactic| tm_at "but") => `(tactic| first
  | assumption
  | exact But.refl _ _
  | exact But.transR (by assumption) (by tm_at "but")
  | exact But.upd
  | exact But.self (by tm_at "but")
  | exact But.new1 (by tm_at "but") (by assumption)
  | exact But.new (by tm_at "but") (by tm_at "free")
  | exact L2.Same.but (by assumption) _)
local macro_rules | `(tactic| tm_at "fact") => `(tactic| first
  | exact upd_same
  | assumption
  | exact SqL.of upd_same
  | exact SqT.of upd_same
  | exact SqL.of (by assumption)
  | exact SqT.of (by assumption)
  | exact But.lstR (by assumption) (by assumption) (by tm_at "but"))
local macro_rules | `(tactic| tm_at "cond") => `(tactic| first
  | rfl
  | assumption
  | decide
  | omega
  | exact ⟨by decide, by decide⟩
  | exact .inr ⟨by decide, by decide⟩
  | exact .inl ⟨by decide, by decide⟩
  | exact ⟨by decide, by decide, by decide⟩
  | exact cdivw (by assumption) (by assumption)
  | exact log2_ok (by assumption)
  | exact Or.inl ⟨rfl, _, SqL.of upd_same⟩
  | exact Or.inl ⟨rfl, _, SqL.of (by assumption)⟩
  | exact ⟨_, rfl⟩
  | exact Nat.le_of_ble_eq_true rfl
  | exact small1000 (by omega))
local macro_rules | `(tactic| tm_at "prop") => `(tactic| first
  | assumption
  | omega)
local macro_rules | `(tactic| tm_at "s") => `(tactic| first
  | refine ⟨_, rfl, ?_⟩
  | refine ⟨_, _, rfl, rfl, ?_⟩
  | refine ⟨_, _, _, rfl, rfl, (by tm_at "fact"), (by tm_at "cond"), ?_⟩
  | refine ⟨_, _, _, _, rfl, rfl, (by tm_at "fact"), rfl, ?_⟩
  | refine ⟨_, _, rfl, (by tm_at "fact"), ?_⟩
  | refine And.intro (by tm_at "cond") ?_
  | refine .inl ⟨_, rfl, ?_⟩
  | refine ⟨_, _, rfl, .inl (by tm_at "fact"), ?_⟩
  | refine dec_false (by tm_at "prop") ?_
  | refine dec_true (by tm_at "prop") ?_
  | refine decN_false (by tm_at "prop") ?_
  | refine decN_true (by tm_at "prop") ?_
  | refine iteT ?_
  | refine iteF ?_
  | refine ⟨_, _, rfl, ?_⟩)
local macro_rules | `(tactic| tm_at "go") => `(tactic| repeat tm_at "s")

section
variable {P : Program} {w : World} {K : PySem.W.Frag} {mg : Str → Option Value} {base : Heap} {aH aR : Addr}
/-! ### read_term -/
def spReadTerm (K : PySem.W.Frag) : Sp := fun vs H Q _ => ∃ (nm : Str) (a : Nat) (s : Int), vs = [.str (tm nm a), .int s] ∧ (nm = Str.empty ∨ (NameOk nm ∧ 1 ≤ a)) ∧ a < 10 ^ 60 ∧ (s = 1 ∨ s = -1) ∧
  ∀ r H', Same H H' → Im K H' r (pD (nm, s * (a : Int))) → Q r H'
theorem tl_star : tl (S "*") = [42] := by decide +kernel
theorem star_free_name {nm : Str} (h : isN nm = true) : 42 ∉ tl nm := fun m => by
  rcases isNL_mem h 42 m with q | q
  · exact absurd q (by decide +kernel)
  · exact absurd q (by decide +kernel)
theorem star_free_num (n : Nat) : 42 ∉ tl (num n) := fun m => absurd (num_mem m) (by decide +kernel)
/-- the three parts of a term -/
theorem part_term {nm : Str} {a : Nat} (h : nm = Str.empty ∨ (NameOk nm ∧ 1 ≤ a)) :
    (nm = Str.empty ∧ Txt.partition (tm nm a) (S "*") = (num a, Str.empty, Str.empty)) ∨
    (NameOk nm ∧ a = 1 ∧ Txt.partition (tm nm a) (S "*") = (nm, Str.empty, Str.empty)) ∨
    (NameOk nm ∧ Txt.partition (tm nm a) (S "*") = (num a, S "*", nm)) := by
  unfold tm
  by_cases e : nm = Str.empty
  · refine .inl ⟨e, ?_⟩
    rw [if_pos e]
    exact partition_none tl_star (star_free_num a)
  · have hn : NameOk nm := by
      rcases h with q | q
      · exact absurd q e
      · exact q.1
    rw [if_neg e]
    by_cases e1 : a = 1
    · refine .inr (.inl ⟨hn, e1, ?_⟩)
      rw [if_pos e1]
      exact partition_none tl_star (star_free_name hn.is)
    · refine .inr (.inr ⟨hn, ?_⟩)
      rw [if_neg e1]
      exact partition_app tl_star (star_free_num a)
theorem sc_read_term : FnScope ["text", "sign", "digits", "star", "name"] ["text", "sign"] (defScope s_read_term) := ⟨rfl, rfl, rfl, by decide +kernel, rfl, by decide +kernel, by decide +kernel⟩
theorem ok_read_term {k : Nat} (D : Def K mg "read_term" "read_term" s_read_term ["text", "sign"]) (B : Bi mg) (c_is_name : Cal P w K mg base CX0 k "is_name" ["text"] spIsName)
    (c_read_integer : Cal P w K mg base CX0 k "read_integer" ["text"] spReadInt) : Cal P w K mg base CX0 (k + 1) "read_term" ["text", "sign"] (spReadTerm K) := by
  refine D.cal fun f fd F => F.ok sc_read_term (fun vs H Q E h => ?_) (fun cdv A outer s H vs Q E hr h => ?_)
  · obtain ⟨nm, a, s, rfl, _⟩ := h
    rfl
  · obtain ⟨nm, a, sg, rfl, hna, ha, hsg, q⟩ := h
    have nd := sc_read_term.nd
    have hbig : (1000 : Nat) ≤ sizeLine := by decide
    have hnl := num_len ha
    have htl : (tm nm a).length ≤ sizeLine := by
      have h1 : (nm = Str.empty ∨ (NameOk nm ∧ (a : Int) ≠ 0)) := hna.imp (fun x => x) fun x => ⟨x.1, by omega⟩
      have := tm_len (p := (nm, (a : Int))) ⟨h1, ha⟩
      have this : (tm nm a).length ≤ 161 := this
      omega
    have hmul : ∀ z : Int, CMul sg z := fun z => .inl (by rcases hsg with e | e <;> subst e <;> exact ⟨by decide, by decide⟩)
    have part := part_term hna
    have hnn := num_noname a
    refine ⟨_, (pss_cons (ps_asg (pe_partition (pv 0) pe_str) (pg_tup rfl (pgs_cons (pg_name (i := 2) nd rfl (Or.inl rfl)) (pgs_cons (pg_name (i := 3) nd rfl (Or.inl rfl)) (pgs_cons (pg_name (i := 4) nd rfl (Or.inl rfl)) pgs_nil)))))
      (pss_cons (ps_if (PW.pt (pw_and (pt_cmpR op_eq (pv 3) pe_str (nomark _)) (pw_and1 (pt_val (pe_cal c_is_name (Room.mono hr (by omega)) (by rfl) (pa_cons (pv 2) pa_nil))))))
        (pss_one (ps_ret (pe_tup (pa_cons (pv 2) (pa_cons (pv 1) pa_nil)))))
        pss_nil)
      (pss_cons (ps_if (PW.pt (pw_and (pt_cmpR op_ne (pv 3) pe_str (nomark _)) (pw_and1 (pt_not (pt_val (pe_cal c_is_name (Room.mono hr (by omega)) (by rfl) (pa_cons (pv 4) pa_nil)))))))
        (pss_one ps_never)
        pss_nil)
      (pss_one (ps_ret (pe_tup (pa_cons (pv 4) (pa_cons (pe_op op_mul (pv 1) (pe_cal c_read_integer (Room.mono hr (by omega)) (by rfl) (pa_cons (pv 2) pa_nil))) pa_nil)))))))), ?_⟩
    generalize tm nm a = T at htl part ⊢
    generalize hX : num a = X at part hnl hnn
    tm_at "go"
    refine fun p np => ?_
    have hm1 : ∀ H1, Same H H1 → (0 : Nat) = 0 := fun _ _ => rfl
    have s0 : ∀ o, Same H (upd H p o) := fun o => same_new np
    rcases part with ⟨e, ep⟩ | ⟨hn, e, ep⟩ | ⟨hn, ep⟩
    · rw [ep]
      subst e
      tm_at "go"
      have e1 : isN (X, Str.empty, Str.empty).1 = false := hnn
      refine ⟨by show X.length ≤ 1000; omega, fun H1 s1 => ?_⟩
      rw [e1]
      tm_at "go"
      refine ⟨a, congrArg (fun z => [V.str z]) hX.symm, ha, fun H2 s2 => ?_⟩
      refine ⟨_, _, rfl, rfl, hmul _, ?_⟩
      tm_at "go"
      refine fun t nt => ?_
      exact q _ _ (Same.upd (((s0 _).trans s1).trans s2) (((s0 _).trans s1).trans s2 |>.free nt)) (pD_of (SqT.of upd_same))
    · rw [ep]
      subst e
      have hl := hn.len
      tm_at "go"
      have e1 : isN (nm, Str.empty, Str.empty).1 = true := hn.is
      refine ⟨by show nm.length ≤ 1000; omega, fun H1 s1 => ?_⟩
      rw [e1]
      tm_at "go"
      refine fun t nt => ?_
      refine q _ _ (Same.upd ((s0 _).trans s1) (((s0 _).trans s1).free nt)) (pD_of (SqT.of ?_))
      rw [upd_same]
      show some (HO.tup [V.str nm, V.int sg]) = some (HO.tup [V.str nm, V.int (sg * ((1 : Nat) : Int))])
      have e2 : sg * ((1 : Nat) : Int) = sg := by omega
      rw [e2]
    · rw [ep]
      have hl := hn.len
      tm_at "go"
      have e1 : isN (X, S "*", nm).2.2 = true := hn.is
      refine ⟨by show nm.length ≤ 1000; omega, fun H1 s1 => ?_⟩
      rw [e1]
      tm_at "go"
      refine ⟨a, congrArg (fun z => [V.str z]) hX.symm, ha, fun H2 s2 => ?_⟩
      refine ⟨_, _, rfl, rfl, hmul _, ?_⟩
      tm_at "go"
      refine fun t nt => ?_
      exact q _ _ (Same.upd (((s0 _).trans s1).trans s2) (((s0 _).trans s1).trans s2 |>.free nt)) (pD_of (SqT.of upd_same))
end
end C
set_option Elab.async false
set_option linter.all false
set_option pp.maxSteps 1500
set_option maxRecDepth 100000
set_option maxHeartbeats 4000000
namespace C
open PySem PySem.Spec PyProof.Rows L2 Kx M TL
local macro_rules | `(tactic| tm_at "same") => `(tactic| first
  | assumption
  | exact L2.Same.refl _
  | exact L2.Same.upd (by tm_at "same") (by tm_at "free")
  | exact sameTransR (by assumption) (by tm_at "same"))
local macro_rules | `(tactic| tm_at "free") => `(tactic| first
  | assumption
  | exact sameFreeR (by assumption) (by tm_at "same"))
local macro_rules | `(tactic| tm_at "but") => `(tactic| first
  | assumption
  | exact But.refl _ _
  | exact But.transR (by assumption) (by tm_at "but")
  | exact But.upd
  | exact But.self (by tm_at "but")
  | exact But.new1 (by tm_at "but") (by assumption)
  | exact But.new (by tm_at "but") (by tm_at "free")
  | exact L2.Same.but (by assumption) _)
local macro_rules | `(tactic| tm_at "fact") => `(tactic| first
  | exact upd_same
  | assumption
  | exact SqL.of upd_same
  | exact SqT.of upd_same
  | exact SqL.of (by assumption)
  | exact SqT.of (by assumption)
  | exact But.lstR (by assumption) (by assumption) (by tm_at "but"))
local macro_rules | `(tactic| tm_at "cond") => `(tactic| first
  | rfl
  | assumption
  | decide
  | omega
  | exact ⟨by decide, by decide⟩
  | exact .inr ⟨by decide, by decide⟩
  | exact .inl ⟨by decide, by decide⟩
  | exact ⟨by decide, by decide, by decide⟩
  | exact cdivw (by assumption) (by assumption)
  | exact log2_ok (by assumption)
  | exact Or.inl ⟨rfl, _, SqL.of upd_same⟩
  | exact Or.inl ⟨rfl, _, SqL.of (by assumption)⟩
  | exact ⟨_, rfl⟩
  | exact Nat.le_of_ble_eq_true rfl
  | exact small1000 (by omega))
local macro_rules | `(tactic| tm_at "prop") => `(tactic| first
  | assumption
  | omega)
local macro_rules | `(tactic| tm_at "s") => `(tactic| first
  | refine ⟨_, rfl, ?_⟩
  | refine ⟨_, _, rfl, rfl, ?_⟩
  | refine ⟨_, _, _, rfl, rfl, (by tm_at "fact"), (by tm_at "cond"), ?_⟩
  | refine ⟨_, _, _, _, rfl, rfl, (by tm_at "fact"), rfl, ?_⟩
  | refine ⟨_, _, rfl, (by tm_at "fact"), ?_⟩
  | refine And.intro (by tm_at "cond") ?_
  | refine .inl ⟨_, rfl, ?_⟩
  | refine ⟨_, _, rfl, .inl (by tm_at "fact"), ?_⟩
  | refine dec_false (by tm_at "prop") ?_
  | refine dec_true (by tm_at "prop") ?_
  | refine decN_false (by tm_at "prop") ?_
  | refine decN_true (by tm_at "prop") ?_
  | refine iteT ?_
  | refine iteF ?_
  | refine ⟨_, _, rfl, ?_⟩)
local macro_rules | `(tactic| tm_at "go") => `(tactic| repeat tm_at "s")

section
variable {P : Program} {w : World} {K : PySem.W.Frag} {mg : Str → Option Value} {base : Heap} {aH aR : Addr}
/-! ### read_form -/
def spReadForm (K : PySem.W.Frag) : Sp := fun vs H Q _ => ∃ (f : M.Form), vs = [.str (wr f)] ∧ FOk f ∧ ∀ r H', Same H H' → Im K H' r (fD f) → Q r H'
theorem sc_read_form : FnScope ["text", "words", "first", "sign", "pairs", "k", "found", "name", "number", "pair"] ["text"] (defScope s_read_form) := ⟨rfl, rfl, rfl, by decide +kernel, rfl, by decide +kernel, by decide +kernel⟩
theorem ok_read_form {k : Nat} (D : Def K mg "read_form" "read_form" s_read_form ["text"]) (B : Bi mg) (c_read_term : Cal P w K mg base CX0 k "read_term" ["text", "sign"] (spReadTerm K))
    (c_form : Cal P w K mg base CX0 k "form" ["constant", "pairs"] (spForm K)) (c_write_form : Cal P w K mg base CX0 k "write_form" ["f"] (spWriteForm K)) : Cal P w K mg base CX0 (k + 1) "read_form" ["text"] (spReadForm K) := by
  refine D.cal fun f fd F => F.ok sc_read_form (fun vs H Q E h => ?_) (fun cdv A outer s H vs Q E hr h => ?_)
  · obtain ⟨g, rfl, _⟩ := h
    rfl
  · obtain ⟨g, rfl, hg, q⟩ := h
    have nd := sc_read_form.nd
    have hPO := terms_ok hg
    have htl := terms_len hg
    have hwl := wr_len hg
    have hbig : (20000 : Nat) ≤ sizeLine := by decide
    have hsplit := wr_split hg
    have hcnt := wdt_count _ (terms_ne g)
    obtain ⟨p0, rest, et⟩ : ∃ p0 rest, terms g = p0 :: rest := by
      cases e : terms g with
      | nil => exact absurd e (terms_ne g)
      | cons p r => exact ⟨p, r, rfl⟩
    have hp0 : POk p0 := hPO p0 (by rw [et]; exact List.mem_cons_self ..)
    have hwd : wd g = (M.sg p0.2 ++ tm p0.1 p0.2.natAbs) :: wdl rest := by
      unfold wd
      rw [et]
      rfl
    have hrl : rest.length ≤ 50 := by
      rw [et] at htl
      have : rest.length + 1 ≤ 51 := htl
      omega
    have hwn : ((wd g).map V.str).length = 2 * rest.length + 1 := by
      rw [List.length_map, hwd, List.length_cons, wdl_count]
    have hcs := consts_sum hg
    have hnk := names_kept hg
    refine ⟨_, (pss_cons (ps_set (i := 1) nd rfl (Or.inl rfl) (pe_split (pv 0) pe_str))
      (pss_cons (ps_set (i := 2) nd rfl (Or.inl rfl) (pe_ix ix_list (pv 1) pe_int (fun _ _ => rfl)))
      (pss_cons (ps_set (i := 3) nd rfl (Or.inl rfl) pe_int)
      (C8.pss_cut (ps_if (pt_cmpR op_eq (pe_slice sl_str (pv 2) po_none (po_some pe_int)) pe_str (nomark _))
        (pss_cons (ps_set (i := 3) nd rfl (Or.inl rfl) (pe_un un_neg pe_int))
        (pss_one (ps_set (i := 2) nd rfl (Or.inl rfl) (pe_slice sl_str (pv 2) (po_some pe_int) po_none))))
        pss_nil)
      (pss_cons (ps_set (i := 4) nd rfl (Or.inl rfl) (pe_lst (pa_cons (pe_cal c_read_term (Room.mono hr (by omega)) (by rfl) (pa_cons (pv 2) (pa_cons (pv 3) pa_nil))) pa_nil)))
      (pss_cons (ps_if (pt_cmpR op_eq (pe_op op_mod (pe_callB call_len_seq (by rfl) B.len (by decide +kernel) (pa_cons (pv 1) pa_nil)) pe_int) pe_int (nomark _))
        (pss_one ps_never)
        pss_nil)
      (pss_cons (ps_for PassesOwn.never rfl (pi_range3 (by rfl) B.range (pa_cons pe_int (pa_cons (pe_callB call_len_seq (by rfl) B.len (by decide +kernel) (pa_cons (pv 1) pa_nil)) (pa_cons pe_int pa_nil)))) (pg_name (i := 5) nd rfl (Or.inl rfl))
        (pss_cons (ps_if (pt_cmpR op_notIn_seq (pe_ix ix_list (pv 1) (pv 5) (fun _ _ => rfl)) (pe_tup (pa_cons pe_str (pa_cons pe_str pa_nil))) (by rfl))
          (pss_one ps_never)
          pss_nil)
        (pss_one (ps_expr (pe_bm PySem.F.plainAttrs_list PySem.F.slot_list_append PySem.F.type_list_append mt_append (pv 4) (pa_cons (pe_cal c_read_term (Room.mono hr (by omega)) (by rfl) (pa_cons (pe_ix ix_list (pv 1) (pe_op op_add (pv 5) pe_int) (fun _ _ => rfl)) (pa_cons (pe_ifExp (pt_cmpR op_eq (pe_ix ix_list (pv 1) (pv 5) (fun _ _ => rfl)) pe_str (nomark _)) pe_int (pe_un un_neg pe_int)) pa_nil))) pa_nil))))))
      (pss_cons (ps_set (i := 6) nd rfl (Or.inl rfl) (pe_cal c_form (Room.mono hr (by omega)) (by rfl) (pa_cons (pe_callB (cr_sum rfl) (by rfl) B.sum (by decide +kernel) (pa_cons (pe_lc (own := [("name", 7), ("number", 8)]) (by rfl) nd (pi_list (pv 4)) (blkOk_by (own := [("name", 7), ("number", 8)]) (N := ["text", "words", "first", "sign", "pairs", "k", "found", "name", "number", "pair"]) (sc := defScope s_read_form) (by decide +kernel)) (fun _ _ _ _ _ => (pg_tupK (K := K) (n := 2) rfl rfl (pgs_cons (pg_name (i := 7) nd rfl (Or.inl rfl)) (pgs_cons (pg_name (i := 8) nd rfl (Or.inl rfl)) pgs_nil)))) (fun _ _ _ _ _ => (pts_one (pt_cmpR op_eq (pv 7) pe_str (nomark _)))) (fun _ _ _ _ _ => (pv 8))) pa_nil)) (pa_cons (pe_lc (own := [("pair", 9)]) (by rfl) nd (pi_list (pv 4)) (blkOk_by (own := [("pair", 9)]) (N := ["text", "words", "first", "sign", "pairs", "k", "found", "name", "number", "pair"]) (sc := defScope s_read_form) (by decide +kernel)) (fun _ _ _ _ _ => (pg_name (i := 9) nd rfl (Or.inl rfl))) (fun _ _ _ _ _ => (pts_one (pt_cmpR op_ne (pe_ix (ix_tupK (K := K) rfl) (pv 9) pe_int (fun _ _ => rfl)) pe_str (nomark _)))) (fun _ _ _ _ _ => (pv 9))) pa_nil))))
      (pss_cons (ps_if (pt_cmpR op_ne (pe_cal c_write_form (Room.mono hr (by omega)) (by rfl) (pa_cons (pv 6) pa_nil)) (pv 0) (nomark _))
        (pss_one ps_never)
        pss_nil)
      (pss_one (ps_ret (pv 6)))))))))))), ?_⟩
    generalize hTT : wr g = T at hwl hsplit ⊢
    tm_at "go"
    refine fun lw nlw => ?_
    have e1 : Txt.split T (Str.ofString " ") = wd g := hsplit
    rw [e1]
    have s0 : Same H (upd H lw (.lst ((wd g).map V.str))) := same_new nlw
    tm_at "go"
    refine ⟨_, _, _, V.str (M.sg p0.2 ++ tm p0.1 p0.2.natAbs), rfl, rfl, SqL.of upd_same, atI_nat (j := 0) (by rw [hwd]; rfl), ?_⟩
    have hT0 := tm_len hp0
    have hhd := tm_head hp0
    generalize hT0' : tm p0.1 p0.2.natAbs = T0 at hT0 hhd ⊢
    refine ⟨fun σ H1 => σ = [some (.str T), some (.ref lw), some (.str T0), some (.int (if p0.2 < 0 then -1 else 1)), none, none, none, none, none, none] ∧ H1 = upd H lw (.lst ((wd g).map V.str)), ?_, ?_⟩
    · by_cases hz : p0.2 < 0
      · rw [if_pos hz]
        have hsg : M.sg p0.2 = S "-" := by
          unfold M.sg
          rw [if_pos hz]
        rw [hsg]
        have hl1 : (S "-" ++ T0).length ≤ sizeLine := by
          rw [len_app]
          have : (S "-").length = 1 := by decide +kernel
          omega
        have h1 : V.str (cutS (S "-" ++ T0) none (some 1)) = V.str (S "-") := by
          refine congrArg V.str (ext_tl ?_)
          refine (cut_to (S "-" ++ T0) 1).trans ?_
          rw [tl_append, tl_minus]
          rfl
        have h2 : cutS (S "-" ++ T0) (some 1) none = T0 := by
          refine ext_tl ?_
          refine (cut_from (S "-" ++ T0) 1).trans ?_
          rw [tl_append, tl_minus]
          rfl
        tm_at "go"
        rw [h2]
        first | rfl | exact ⟨rfl, rfl⟩
      · rw [if_neg hz]
        have hsg : M.sg p0.2 = Str.empty := by
          unfold M.sg
          rw [if_neg hz]
        rw [hsg, empty_app]
        have h1 : ¬ V.str (cutS T0 none (some 1)) = V.str (S "-") := fun z => by
          have z2 : tl (cutS T0 none (some ((1 : Nat) : Int))) = tl (S "-") := congrArg tl (V.str.inj z)
          rw [cut_to, tl_minus] at z2
          exact hhd z2
        have hl1 : T0.length ≤ sizeLine := by omega
        tm_at "go"
        first | rfl | exact ⟨rfl, rfl⟩
    · rintro σ H1 ⟨rfl, rfl⟩
      have hnm0 : p0.1 = Str.empty ∨ (NameOk p0.1 ∧ 1 ≤ p0.2.natAbs) := hp0.1.imp id fun x => ⟨x.1, by omega⟩
      have hsgn : (if p0.2 < 0 then (-1 : Int) else 1) = 1 ∨ (if p0.2 < 0 then (-1 : Int) else 1) = -1 := by
        split
        · exact .inr rfl
        · exact .inl rfl
      tm_at "go"
      refine ⟨p0.1, p0.2.natAbs, _, by rw [hT0'] <;> rfl, hnm0, hp0.2, hsgn, fun r0 H2 s2 im0 => ?_⟩
      rw [sign_mul] at im0
      generalize (if p0.2 < 0 then (-1 : Int) else 1) = SG
      tm_at "go"
      refine fun lp nlp => ?_
      have s3 : Same H H2 := s0.trans s2
      have s4 : Same H (upd H2 lp (.lst [r0])) := s3.upd (s3.free nlp)
      have hlw2 : H2 lw = some (.lst ((wd g).map V.str)) := s2 _ _ upd_same
      have hlw : (upd H2 lp (.lst [r0])) lw = some (.lst ((wd g).map V.str)) := by
        rw [upd_ne (ne_of_none hlw2 nlp)]
        exact hlw2
      have hodd : ¬ V.int ((((wd g).map V.str).length : Int) % 2) = V.int 0 := fun z => by
        have := V.int.inj z
        rw [hwn] at this
        omega
      tm_at "go"
      refine ⟨_, _, _, rest.length, rfl, rg_odd (by rw [hwn]; omega) (by omega), ?_⟩
      refine for_it walk_rangeC (fun i σ H' => ∃ v vs, σ = [some (.str T), some (.ref lw), some (.str T0), some (.int SG), some (.ref lp), v, none, none, none, none] ∧ Same H H' ∧ H' lw = some (.lst ((wd g).map V.str)) ∧ H' lp = some (.lst vs) ∧ Ims K H' vs ((p0 :: rest.take i).map pD))
        ⟨_, _, rfl, s4, hlw, upd_same, .cons ((TK.new nlp).im im0) .nil⟩ (fun _ _ _ _ _ => trivial) ?_ ?_
      · rintro i v σ H3 H4 hi ⟨v0, vs, rfl, s5, hw5, hp5, im5⟩ ⟨rfl, rfl⟩
        obtain ⟨z, hz⟩ : ∃ z, rest[i]? = some z := ⟨rest[i], List.getElem?_eq_getElem hi⟩
        have hzo : POk z := hPO z (by rw [et]; exact List.mem_cons_of_mem _ (List.mem_of_getElem? hz))
        obtain ⟨w1, w2⟩ := wdl_at rest i z hz
        have a1 : atI ((wd g).map V.str) (1 + ((i : Nat) : Int) * 2) = some (V.str (pm z.2)) := at_of (j := 2 * i + 1) (by omega) (by
          rw [hwd, List.map_cons, List.getElem?_cons_succ, List.getElem?_map, w1]
          rfl)
        have a2 : atI ((wd g).map V.str) (1 + ((i : Nat) : Int) * 2 + 1) = some (V.str (tm z.1 z.2.natAbs)) := at_of (j := 2 * i + 1 + 1) (by omega) (by
          rw [hwd, List.map_cons, List.getElem?_cons_succ, List.getElem?_map, w2]
          rfl)
        have hvl := im5.length
        have hvl2 : vs.length ≤ 51 := by
          rw [hvl, List.length_map, List.length_cons, List.length_take]
          omega
        have hnmz : z.1 = Str.empty ∨ (NameOk z.1 ∧ 1 ≤ z.2.natAbs) := hzo.1.imp id fun x => ⟨x.1, by omega⟩
        have hin := pm_in z.2
        have hpl := pm_plus z.2
        tm_at "go"
        refine ⟨_, _, _, _, rfl, rfl, SqL.of hw5, a1, ?_⟩
        tm_at "go"
        refine fun t nt => ⟨t, _, rfl, .inr (SqT.of upd_same), rfl, rfl, ?_⟩
        have s6 : Same H4 (upd H4 t (.tup [V.str (S "+"), V.str (S "-")])) := same_new nt
        have hw6 : (upd H4 t (.tup [V.str (S "+"), V.str (S "-")])) lw = some (.lst ((wd g).map V.str)) := s6 _ _ hw5
        have hp6 : (upd H4 t (.tup [V.str (S "+"), V.str (S "-")])) lp = some (.lst vs) := s6 _ _ hp5
        refine ⟨_, rfl, ?_⟩
        show if (!inV (V.str (pm z.2)) [V.str (S "+"), V.str (S "-")]) = true then _ else _
        rw [hin]
        refine iteF ?_
        refine ⟨_, rfl, .inl ⟨rfl, _, SqL.of hp6⟩, ?_⟩
        refine ⟨_, rfl, _, rfl, _, _, rfl, rfl, _, _, _, _, rfl, rfl, SqL.of hw6, a2, ?_⟩
        refine ⟨_, rfl, _, rfl, _, _, _, _, rfl, rfl, SqL.of hw6, a1, ?_⟩
        refine ⟨rfl, _, rfl, ?_⟩
        show if decide (V.str (pm z.2) = V.str (S "+")) = true then _ else _
        rw [hpl]
        have fin : ∀ sgz : Int, sgz * ((z.2.natAbs : Nat) : Int) = z.2 → ∀ (r : V) (H' : Hp), Same (upd H4 t (.tup [V.str (S "+"), V.str (S "-")])) H' → Im K H' r (pD (z.1, sgz * ((z.2.natAbs : Nat) : Int))) →
            ∃ l xs y, V.ref lp = .ref l ∧ [r] = [y] ∧ H' l = some (.lst xs) ∧ xs.length < sizeLine ∧
              ∃ v vs', [some (V.str T), some (.ref lw), some (.str T0), some (.int SG), some (.ref lp), some (.int (1 + ((i : Nat) : Int) * 2)), none, none, none, none] = [some (.str T), some (.ref lw), some (.str T0), some (.int SG), some (.ref lp), v, none, none, none, none] ∧
                Same H (upd H' l (.lst (xs ++ [y]))) ∧ (upd H' l (.lst (xs ++ [y]))) lw = some (.lst ((wd g).map V.str)) ∧ (upd H' l (.lst (xs ++ [y]))) lp = some (.lst vs') ∧ Ims K (upd H' l (.lst (xs ++ [y]))) vs' ((p0 :: rest.take (i + 1)).map pD) := fun sgz e r H' sr imr => by
          rw [e] at imr
          have hp7 : H' lp = some (.lst vs) := sr _ _ hp6
          have nlwp : lw ≠ lp := ne_of_none hlw2 nlp
          refine ⟨lp, vs, r, rfl, rfl, hp7, small1000 (by omega), _, vs ++ [r], rfl, ?_, ?_, upd_same, ?_⟩
          · exact ((s5.trans s6).trans sr).upd (s3.free nlp)
          · rw [upd_ne nlwp]
            exact sr _ _ hw6
          · rw [take_snoc hz, List.map_cons, List.map_append]
            exact (TK.lst hp7).ims (Ims.snoc (sr.tk.ims (s6.tk.ims im5)) imr)
        by_cases hneg : z.2 < 0
        · rw [decide_eq_true hneg]
          tm_at "go"
          refine ⟨z.1, z.2.natAbs, -1, rfl, hnmz, hzo.2, .inr rfl, fun r H' sr imr => ?_⟩
          exact fin (-1) (by omega) r H' sr imr
        · rw [decide_eq_false hneg]
          tm_at "go"
          refine ⟨z.1, z.2.natAbs, 1, rfl, hnmz, hzo.2, .inl rfl, fun r H' sr imr => ?_⟩
          exact fin 1 (by omega) r H' sr imr
      · rintro σ H3 ⟨v0, vs, rfl, s5, hw5, hp5, im5⟩
        rw [List.take_of_length_le (Nat.le_refl _), ← et] at im5
        tm_at "go"
        have hvl := im5.length
        rw [List.length_map] at hvl
        refine ⟨⟨_, SqL.of hp5⟩, fun D nD => ?_⟩
        refine lc_it walk_list (fun i H' => Same H3 H' ∧ H' D = some (.lst (((((terms g).take i).filter fun p => decide (p.1 = Str.empty)).map (·.2)).map V.int))) ⟨same_new nD, upd_same⟩ (fun i H' _ ⟨s, _⟩ => SqL.of (s _ _ hp5)) ?_ ?_
        · rintro i v Hx Hy hlt ⟨sx, hDx⟩ ⟨rfl, hv⟩
          obtain ⟨p, hp, hpi⟩ := ims_at im5 hv
          obtain ⟨t, rfl, ht⟩ := pD_inv (sx.tk.im hpi)
          have hbl : (((((terms g).take i).filter fun p => decide (p.1 = Str.empty)).map (·.2)).map V.int).length < sizeLine := by
            rw [List.length_map, List.length_map]
            have h1 := List.length_filter_le (fun p : Str × Int => decide (p.1 = Str.empty)) ((terms g).take i)
            rw [List.length_take] at h1
            exact small1000 (by omega)
          refine ⟨t, _, rfl, ht, rfl, _, _, rfl, _, _, rfl, rfl, rfl, ?_⟩
          tm_at "go"
          refine ite2 (fun c => ?_) (fun c => ?_)
          · have c1 : p.1 = Str.empty := V.str.inj (of_decide_eq_true (show decide (V.str p.1 = V.str Str.empty) = true from c))
            tm_at "go"
            refine ⟨_, hDx, hbl, sx.upd nD, ?_⟩
            · rw [upd_same, take_snoc hp, List.filter_append, List.map_append, List.map_append]
              have : [p].filter (fun p => decide (p.1 = Str.empty)) = [p] := List.filter_cons_of_pos (decide_eq_true c1)
              rw [this]
              rfl
          · have c1 : ¬ p.1 = Str.empty := fun z => c (decide_eq_true (congrArg V.str z))
            refine ⟨sx, ?_⟩
            rw [hDx, take_snoc hp, List.filter_append]
            have : [p].filter (fun p => decide (p.1 = Str.empty)) = [] := List.filter_cons_of_neg (by rw [decide_eq_false c1]; exact Bool.false_ne_true)
            rw [this, List.append_nil]
        · rintro H4 ⟨s6, hD⟩
          rw [hvl, List.take_of_length_le (Nat.le_refl _)] at hD
          have hp6 : H4 lp = some (.lst vs) := s6 _ _ hp5
          refine ⟨D, _, rfl, SqL.of hD, ?_⟩
          rw [hcs]
          refine ⟨_, rfl, lp, rfl, ⟨_, SqL.of hp6⟩, fun D2 nD2 => ?_⟩
          refine lc_it walk_list (fun i H' => Same H4 H' ∧ ∃ ws, H' D2 = some (.lst ws) ∧ ws.length ≤ i ∧ Ims K H' ws ((((terms g).take i).filter fun p => !decide (p.1 = Str.empty)).map pD)) ⟨same_new nD2, [], upd_same, Nat.le_refl _, .nil⟩ (fun i H' _ ⟨s, _⟩ => SqL.of (s _ _ hp6)) ?_ ?_
          · rintro i v Hx Hy hlt ⟨sx, ws, hDx, hwl2, imx⟩ ⟨rfl, hv⟩
            obtain ⟨p, hp, hpi⟩ := ims_at im5 hv
            obtain ⟨t, rfl, ht⟩ := pD_inv (sx.tk.im (s6.tk.im hpi))
            refine ⟨rfl, ?_⟩
            refine ⟨_, rfl, _, _, _, _, rfl, rfl, ht, atI_nat (j := 0) rfl, ?_⟩
            refine ⟨rfl, _, rfl, ?_⟩
            show if (!decide (V.str p.1 = V.str Str.empty)) = true then _ else _
            by_cases c1 : p.1 = Str.empty
            · rw [decide_eq_true (congrArg V.str c1)]
              refine iteF ⟨sx, ws, hDx, by omega, ?_⟩
              rw [take_snoc hp, List.filter_append]
              have : [p].filter (fun p => !decide (p.1 = Str.empty)) = [] := List.filter_cons_of_neg (by rw [decide_eq_true c1]; exact Bool.false_ne_true)
              rw [this, List.append_nil]
              exact imx
            · rw [decide_eq_false (fun z => c1 (V.str.inj z))]
              refine iteT ?_
              refine ⟨_, rfl, ws, hDx, small1000 (by omega), sx.upd nD2, _, upd_same, ?_, ?_⟩
              · rw [List.length_append]
                show ws.length + 1 ≤ i + 1
                omega
              · rw [take_snoc hp, List.filter_append, List.map_append]
                have : [p].filter (fun p => !decide (p.1 = Str.empty)) = [p] := List.filter_cons_of_pos (by rw [decide_eq_false c1]; rfl)
                rw [this]
                exact (TK.lst hDx).ims (Ims.snoc imx (pD_of ht))
          · rintro H5 ⟨s7, ws, hD2, hwl2, imx⟩
            rw [hvl, List.take_of_length_le (Nat.le_refl _), hnk] at imx
            have hg2 := hg.len
            have hgs := hg.srt
            refine ⟨g.1, D2, ws, g.2, rfl, SqL.of hD2, imx, by omega, fun r H6 ys py sy s8 imr => ?_⟩
            rw [tms_self hg py sy] at imr
            have s9 : Same H H6 := ((s5.trans s6).trans s7).trans s8
            tm_at "go"
            refine fun H7 s10 => ?_
            have hne : V.str (wr g) = V.str T := congrArg V.str hTT
            refine ⟨_, rfl, rfl, _, rfl, ?_⟩
            refine decN_false hne ?_
            tm_at "go"
            exact q _ _ (s9.trans s10) (s10.tk.im imr)
end
end C
set_option Elab.async false
set_option linter.all false
set_option pp.maxSteps 1500
set_option maxRecDepth 100000
set_option maxHeartbeats 4000000
namespace C
open PySem PySem.Spec PyProof.Rows L2 Kx M TL
local macro_rules | `(tactic| tm_at "same") => `(tactic| first
  | assumption
  | exact L2.Same.refl _
  | exact L2.Same.upd (by tm_at "same") (by tm_at "free")
  | exact sameTransR (by assumption) (by tm_at "same"))
local macro_rules | `(tactic| tm_at "free") => `(tactic| first
  | assumption
  | exact sameFreeR (by assumption) (by tm_at "same"))
local macro_rules | `(tactic| tm_at "but") => `(tactic| first
  | assumption
  | exact But.refl _ _
  | exact But.transR (by assumption) (by tm_at "but")
  | exact But.upd
  | exact But.self (by tm_at "but")
  | exact But.new1 (by tm_at "but") (by assumption)
  | exact But.new (by tm_at "but") (by tm_at "free")
  | exact L2.Same.but (by assumption) _)
local macro_rules | `(tactic| tm_at "fact") => `(tactic| first
  | exact upd_same
  | assumption
  | exact SqL.of upd_same
  | exact SqT.of upd_same
  | exact SqL.of (by assumption)
  | exact SqT.of (by assumption)
  | exact But.lstR (by assumption) (by assumption) (by tm_at "but"))
local macro_rules | `(tactic| tm_at "cond") => `(tactic| first
  | rfl
  | assumption
  | decide
  | omega
  | exact ⟨by decide, by decide⟩
  | exact .inr ⟨by decide, by decide⟩
  | exact .inl ⟨by decide, by decide⟩
  | exact ⟨by decide, by decide, by decide⟩
  | exact cdivw (by assumption) (by assumption)
  | exact log2_ok (by assumption)
  | exact Or.inl ⟨rfl, _, SqL.of upd_same⟩
  | exact Or.inl ⟨rfl, _, SqL.of (by assumption)⟩
  | exact ⟨_, rfl⟩
  | exact Nat.le_of_ble_eq_true rfl
  | exact small1000 (by omega))
local macro_rules | `(tactic| tm_at "prop") => `(tactic| first
  | assumption
  | omega)
local macro_rules | `(tactic| tm_at "s") => `(tactic| first
  | refine ⟨_, rfl, ?_⟩
  | refine ⟨_, _, rfl, rfl, ?_⟩
  | refine ⟨_, _, _, rfl, rfl, (by tm_at "fact"), (by tm_at "cond"), ?_⟩
  | refine ⟨_, _, _, _, rfl, rfl, (by tm_at "fact"), rfl, ?_⟩
  | refine ⟨_, _, rfl, (by tm_at "fact"), ?_⟩
  | refine And.intro (by tm_at "cond") ?_
  | refine .inl ⟨_, rfl, ?_⟩
  | refine ⟨_, _, rfl, .inl (by tm_at "fact"), ?_⟩
  | refine dec_false (by tm_at "prop") ?_
  | refine dec_true (by tm_at "prop") ?_
  | refine decN_false (by tm_at "prop") ?_
  | refine decN_true (by tm_at "prop") ?_
  | refine iteT ?_
  | refine iteF ?_
  | refine ⟨_, _, rfl, ?_⟩)
local macro_rules | `(tactic| tm_at "go") => `(tactic| repeat tm_at "s")

section
variable {P : Program} {w : World} {K : PySem.W.Frag} {mg : Str → Option Value} {base : Heap} {aH aR : Addr}
/-! ### _law_is_int, _law_same -/
theorem SqT.ty {K : PySem.W.Frag} {H : Hp} {a : Addr} {xs : List V} (h : SqT K H a xs) : TyX K H (.ref a) (.type "tuple") := by
  rcases h with (h | ⟨o, h⟩) | ⟨o, its, n, h, c, _⟩
  · exact .base (.tup h)
  · exact .fTuple h
  · exact .kTuple h c
theorem kT (a b : String) (r : Bool) (h : kitB a b = some r) : PySem.W.kitOne K (.type a) (.type b) = some r := kit_ty h
def spIsInt : Sp := fun vs H Q _ => ∃ i : Int, vs = [.int i] ∧ ∀ H', Same H H' → Q (.bl true) H'
theorem sc__law_is_int : FnScope ["x"] ["x"] (defScope s__law_is_int) := ⟨rfl, rfl, rfl, by decide +kernel, rfl, by decide +kernel, by decide +kernel⟩
theorem ok__law_is_int {k : Nat} (D : Def K mg "_law_is_int" "_law_is_int" s__law_is_int ["x"]) (B : Bi mg) : Cal P w K mg base CX0 (k + 1) "_law_is_int" ["x"] spIsInt := by
  refine D.cal fun f fd F => F.ok sc__law_is_int (fun vs H Q E h => ?_) (fun cdv A outer s H vs Q E hr h => ?_)
  · obtain ⟨i, rfl, _⟩ := h
    rfl
  · obtain ⟨i, rfl, q⟩ := h
    refine ⟨_, (pss_one (ps_ret (pe_and (pe_callB call_isi (by rfl) B.isinstance (by decide +kernel) (pa_cons (pv 0) (pa_cons (pe_bltn (v := .ty "int") (by rfl) B.int (by decide +kernel) rfl) pa_nil))) (pe_one (pe_not (pe_callB call_isi (by rfl) B.isinstance (by decide +kernel) (pa_cons (pv 0) (pa_cons (pe_bltn (v := .ty "bool") (by rfl) B.bool (by decide +kernel) rfl) pa_nil)))))))), ?_⟩
    refine ⟨_, rfl, ⟨_, _, _, _, true, rfl, .ty _, .base (.int i), kT "int" "int" true (by decide +kernel), _, rfl, ?_⟩⟩
    refine iteT ?_
    refine ⟨_, rfl, ⟨_, _, _, _, false, rfl, .ty _, .base (.int i), kT "int" "bool" false (by decide +kernel), _, rfl, ?_⟩⟩
    exact q _ (Same.refl _)
mutual
/-- ints, texts and tuples of such -/
def sok : PyData → Bool
  | .int _ => true
  | .str _ => true
  | .tuple ds => soks ds
  | _ => false
def soks : List PyData → Bool
  | [] => true
  | d :: ds => sok d && soks ds
end
theorem soks_get : ∀ {ds : List PyData} {i : Nat} {d : PyData}, soks ds = true → ds[i]? = some d → sok d = true
  | [], _, _, _, e => by simp at e
  | d :: ds, 0, _, h, e => by
    cases e
    unfold soks at h
    rw [Bool.and_eq_true] at h
    exact h.1
  | d :: ds, i + 1, _, h, e => by
    unfold soks at h
    rw [Bool.and_eq_true] at h
    exact soks_get h.2 (i := i) e
theorem depth_get : ∀ {ds : List PyData} {i : Nat} {d : PyData}, ds[i]? = some d → d.depth ≤ PyData.depthAll ds
  | [], _, _, e => by simp at e
  | d :: ds, 0, _, e => by
    cases e
    unfold PyData.depthAll
    exact Nat.le_max_left _ _
  | d :: ds, i + 1, _, e => by
    have := depth_get (ds := ds) (i := i) e
    unfold PyData.depthAll
    exact Nat.le_trans this (Nat.le_max_right _ _)
mutual
/-- no tuple has a thousand items -/
def few : PyData → Bool
  | .tuple ds => decide (ds.length < 1000) && fews ds
  | _ => true
def fews : List PyData → Bool
  | [] => true
  | d :: ds => few d && fews ds
end
theorem fews_get : ∀ {ds : List PyData} {i : Nat} {d : PyData}, fews ds = true → ds[i]? = some d → few d = true
  | [], _, _, _, e => by simp at e
  | d :: ds, 0, _, h, e => by
    cases e
    unfold fews at h
    rw [Bool.and_eq_true] at h
    exact h.1
  | d :: ds, i + 1, _, h, e => by
    unfold fews at h
    rw [Bool.and_eq_true] at h
    exact fews_get h.2 (i := i) e
def spSame (K : PySem.W.Frag) (n : Nat) : Sp := fun vs H Q _ => ∃ (x y : V) (d : PyData), vs = [x, y] ∧ Im K H x d ∧ Im K H y d ∧ sok d = true ∧ few d = true ∧ d.depth ≤ n ∧ ∀ H', Same H H' → Q (.bl true) H'
theorem all_rep : ∀ n : Nat, (List.replicate n true).all id = true
  | 0 => rfl
  | n + 1 => by
    rw [List.replicate_succ, List.all_cons, all_rep n]
    rfl
theorem sc__law_same : FnScope ["x", "y", "k"] ["x", "y"] (defScope s__law_same) := ⟨rfl, rfl, rfl, by decide +kernel, rfl, by decide +kernel, by decide +kernel⟩
theorem same_step {n k : Nat} (D : Def K mg "_law_same" "_law_same" s__law_same ["x", "y"]) (B : Bi mg) (c__law_is_int : Cal P w K mg base CX0 k "_law_is_int" ["x"] spIsInt) {spS : Sp} (c__law_same : Cal P w K mg base CX0 k "_law_same" ["x", "y"] spS)
    (hs : ∀ vs H Q E, n ≠ 0 → spSame K (n - 1) vs H Q E → spS vs H Q E) : Cal P w K mg base CX0 (k + 1) "_law_same" ["x", "y"] (spSame K n) := by
  refine D.cal fun f fd F => F.ok sc__law_same (fun vs H Q E h => ?_) (fun cdv A outer s H vs Q E hr h => ?_)
  · obtain ⟨x, y, d, rfl, _⟩ := h
    rfl
  · obtain ⟨x, y, d, rfl, hx, hy, hk, hf, hd, q⟩ := h
    have nd := sc__law_same.nd
    refine ⟨_, (pss_cons (ps_if (pt_val (pe_callB call_isi (by rfl) B.isinstance (by decide +kernel) (pa_cons (pv 1) (pa_cons (pe_bltn (v := .ty "tuple") (by rfl) B.tuple (by decide +kernel) rfl) pa_nil))))
        (pss_cons (ps_if (PW.pt (pw_or (pt_not (pt_val (pe_callB call_isi (by rfl) B.isinstance (by decide +kernel) (pa_cons (pv 0) (pa_cons (pe_bltn (v := .ty "tuple") (by rfl) B.tuple (by decide +kernel) rfl) pa_nil))))) (pw_or1 (pt_cmpR op_ne (pe_callB call_len_seq (by rfl) B.len (by decide +kernel) (pa_cons (pv 0) pa_nil)) (pe_callB call_len_seq (by rfl) B.len (by decide +kernel) (pa_cons (pv 1) pa_nil)) (nomark _)))))
          (pss_one (ps_ret pe_bl))
          pss_nil)
        (pss_one (ps_ret (pe_callB (cr_all rfl) (by rfl) B.all (by decide +kernel) (pa_cons (pe_lc (own := [("k", 2)]) (by rfl) nd (pi_range1 (by rfl) B.range (pa_cons (pe_callB call_len_seq (by rfl) B.len (by decide +kernel) (pa_cons (pv 1) pa_nil)) pa_nil)) (blkOk_by (own := [("k", 2)]) (N := ["x", "y", "k"]) (sc := defScope s__law_same) (by decide +kernel)) (fun _ _ _ _ _ => (pg_name (i := 2) nd rfl (Or.inl rfl))) (fun _ _ _ _ _ => pts_nil) (fun _ _ _ _ _ => (pe_cal c__law_same (Room.mono hr (by omega)) (by rfl) (pa_cons (pe_ix (ix_tupK (K := K) rfl) (pv 0) (pv 2) (fun _ _ => rfl)) (pa_cons (pe_ix (ix_tupK (K := K) rfl) (pv 1) (pv 2) (fun _ _ => rfl)) pa_nil))))) pa_nil)))))
        pss_nil)
      (pss_cons (ps_if (pt_val (pe_callB call_isi (by rfl) B.isinstance (by decide +kernel) (pa_cons (pv 1) (pa_cons (pe_bltn (v := .ty "str") (by rfl) B.str (by decide +kernel) rfl) pa_nil))))
        (pss_one (ps_ret (pe_and (pe_callB call_isi (by rfl) B.isinstance (by decide +kernel) (pa_cons (pv 0) (pa_cons (pe_bltn (v := .ty "str") (by rfl) B.str (by decide +kernel) rfl) pa_nil))) (pe_one (pe_cmpR op_eq (pv 0) (pv 1) (nomark _))))))
        pss_nil)
      (pss_one (ps_ret (pe_and (pe_cal c__law_is_int (Room.mono hr (by omega)) (by rfl) (pa_cons (pv 0) pa_nil)) (pe_one (pe_cmpR op_eq (pv 0) (pv 1) (nomark _)))))))), ?_⟩
    cases d with
    | int i =>
      obtain rfl := Im.int_inv hx
      obtain rfl := Im.int_inv hy
      refine ⟨_, rfl, ⟨_, _, _, _, false, rfl, .ty _, .base (.int i), kT "int" "tuple" false (by decide +kernel), _, rfl, ?_⟩⟩
      refine iteF ?_
      refine ⟨_, rfl, ⟨_, _, _, _, false, rfl, .ty _, .base (.int i), kT "int" "str" false (by decide +kernel), _, rfl, ?_⟩⟩
      refine iteF ?_
      refine ⟨_, rfl, i, rfl, fun H1 s1 => ⟨_, rfl, ?_⟩⟩
      refine iteT ?_
      refine ⟨_, rfl, _, rfl, rfl, ?_⟩
      rw [decide_eq_true rfl]
      exact q _ s1
    | str i =>
      obtain rfl := Im.str_inv hx
      obtain rfl := Im.str_inv hy
      refine ⟨_, rfl, ⟨_, _, _, _, false, rfl, .ty _, .base (.str i), kT "str" "tuple" false (by decide +kernel), _, rfl, ?_⟩⟩
      refine iteF ?_
      refine ⟨_, rfl, ⟨_, _, _, _, true, rfl, .ty _, .base (.str i), kT "str" "str" true (by decide +kernel), _, rfl, ?_⟩⟩
      refine iteT ?_
      refine ⟨_, rfl, ⟨_, _, _, _, true, rfl, .ty _, .base (.str i), kT "str" "str" true (by decide +kernel), _, rfl, ?_⟩⟩
      refine iteT ?_
      refine ⟨_, rfl, _, rfl, rfl, ?_⟩
      rw [decide_eq_true rfl]
      exact q _ (Same.refl _)
    | tuple ds =>
      obtain ⟨a, xs, rfl, ha, hxs⟩ := Im.tup_inv hx
      obtain ⟨b, ys, rfl, hb, hys⟩ := Im.tup_inv hy
      have l1 := hxs.length
      have l2 := hys.length
      have hk : soks ds = true := hk
      have hf : (decide (ds.length < 1000) && fews ds) = true := hf
      rw [Bool.and_eq_true] at hf
      have hlen := of_decide_eq_true hf.1
      have hd : PyData.depthAll ds + 1 ≤ n := hd
      refine ⟨_, rfl, ⟨_, _, _, _, true, rfl, .ty _, SqT.ty hb, kT "tuple" "tuple" true (by decide +kernel), _, rfl, ?_⟩⟩
      refine iteT ?_
      refine ⟨_, rfl, ⟨_, _, _, _, true, rfl, .ty _, SqT.ty ha, kT "tuple" "tuple" true (by decide +kernel), _, rfl, ?_⟩⟩
      refine iteF ?_
      refine ⟨_, rfl, a, xs, rfl, .inr ha, _, rfl, b, ys, rfl, .inr hb, rfl, _, rfl, ?_⟩
      refine decN_false (show V.int (xs.length : Int) = V.int (ys.length : Int) by rw [l1, l2]) ?_
      refine ⟨_, rfl, b, ys, rfl, .inr hb, ?_⟩
      refine ⟨_, rfl, by omega, by omega, fun D nD => ?_⟩
      refine lc_it walk_range (fun i H' => Same H H' ∧ H' D = some (.lst ((List.replicate i true).map V.bl))) ⟨same_new nD, upd_same⟩ (fun _ _ _ _ => trivial) ?_ ?_
      · rintro i v Hx Hy hlt ⟨sx, hDx⟩ ⟨rfl, rfl⟩
        have hi : i < ds.length := by omega
        obtain ⟨u, hu, iu⟩ := hxs.get' (List.getElem?_eq_getElem hi)
        obtain ⟨z, hz, iz⟩ := hys.get' (List.getElem?_eq_getElem hi)
        refine ⟨rfl, ?_⟩
        refine ⟨_, rfl, _, rfl, _, _, _, u, rfl, rfl, sx.tk.tup ha, at_of (j := i) (by omega) hu, ?_⟩
        refine ⟨_, rfl, _, rfl, _, _, _, z, rfl, rfl, sx.tk.tup hb, at_of (j := i) (by omega) hz, ?_⟩
        refine hs _ _ _ _ (by omega) ⟨u, z, ds[i], rfl, sx.tk.im iu, sx.tk.im iz, soks_get hk (List.getElem?_eq_getElem hi), fews_get hf.2 (List.getElem?_eq_getElem hi), ?_, fun H1 s1 => ?_⟩
        · have := depth_get (List.getElem?_eq_getElem hi)
          omega
        · refine ⟨_, s1 _ _ hDx, ?_, (sx.trans s1).upd nD, ?_⟩
          · rw [List.length_map, List.length_replicate]
            exact small1000 (by omega)
          · rw [upd_same, List.replicate_succ', List.map_append]
            rfl
      · rintro H1 ⟨s1, hD⟩
        refine ⟨D, _, rfl, SqL.of hD, ?_⟩
        rw [all_rep]
        exact q _ s1
    | _ => cases hk
/-- at any depth -/
theorem ok__law_same {k : Nat} (D : Def K mg "_law_same" "_law_same" s__law_same ["x", "y"]) (B : Bi mg) (c__law_is_int : Cal P w K mg base CX0 k "_law_is_int" ["x"] spIsInt) : ∀ n, Cal P w K mg base CX0 (k + 1 + n) "_law_same" ["x", "y"] (spSame K n)
  | 0 => by
    have c : Cal P w K mg base CX0 k "_law_same" ["x", "y"] (fun _ _ _ _ => False) := by
      obtain ⟨f, fd, F, m, b⟩ := D.ex
      exact ⟨f, fd, ⟨fun _ _ _ _ h => h.elim, fun _ _ _ _ _ _ _ _ _ _ _ _ _ h => h.elim⟩, m, F.kp, b⟩
    exact same_step D B c__law_is_int c fun _ _ _ _ h _ => h rfl
  | n + 1 => by
    have ih := ok__law_same D B c__law_is_int n
    exact same_step (k := k + 1 + n) D B (c__law_is_int.mono (by omega)) ih fun _ _ _ _ _ h => h
end
end C
set_option Elab.async false
set_option linter.all false
set_option pp.maxSteps 1500
set_option maxRecDepth 100000
set_option maxHeartbeats 4000000
namespace C
open PySem PySem.Spec PyProof.Rows L2 Kx M TL
local macro_rules | `(tactic| tm_at "same") => `(tactic| first
  | assumption
  | exact L2.Same.refl _
  | exact L2.Same.upd (by tm_at "same") (by tm_at "free")
  | exact sameTransR (by assumption) (by tm_at "same"))
local macro_rules | `(tactic| tm_at "free") => `(tactic| first
  | assumption
  | exact sameFreeR (by assumption) (by tm_at "same"))
local macro_rules | `(tactic| tm_at "but") => `(tactic| first
  | assumption
  | exact But.refl _ _
  | exact But.transR (by assumption) (by tm_at "but")
  | exact But.upd
  | exact But.self (by tm_at "but")
  | exact But.new1 (by tm_at "but") (by assumption)
  | exact But.new (by tm_at "but") (by tm_at "free")
  | exact L2.Same.but (by assumption) _)
local macro_rules | `(tactic| tm_at "fact") => `(tactic| first
  | exact upd_same
  | assumption
  | exact SqL.of upd_same
  | exact SqT.of upd_same
  | exact SqL.of (by assumption)
  | exact SqT.of (by assumption)
  | exact But.lstR (by assumption) (by assumption) (by tm_at "but"))
local macro_rules | `(tactic| tm_at "cond") => `(tactic| first
  | rfl
  | assumption
  | decide
  | omega
  | exact ⟨by decide, by decide⟩
  | exact .inr ⟨by decide, by decide⟩
  | exact .inl ⟨by decide, by decide⟩
  | exact ⟨by decide, by decide, by decide⟩
  | exact cdivw (by assumption) (by assumption)
  | exact log2_ok (by assumption)
  | exact Or.inl ⟨rfl, _, SqL.of upd_same⟩
  | exact Or.inl ⟨rfl, _, SqL.of (by assumption)⟩
  | exact ⟨_, rfl⟩
  | exact Nat.le_of_ble_eq_true rfl
  | exact small1000 (by omega))
local macro_rules | `(tactic| tm_at "prop") => `(tactic| first
  | assumption
  | omega)
local macro_rules | `(tactic| tm_at "s") => `(tactic| first
  | refine ⟨_, rfl, ?_⟩
  | refine ⟨_, _, rfl, rfl, ?_⟩
  | refine ⟨_, _, _, rfl, rfl, (by tm_at "fact"), (by tm_at "cond"), ?_⟩
  | refine ⟨_, _, _, _, rfl, rfl, (by tm_at "fact"), rfl, ?_⟩
  | refine ⟨_, _, rfl, (by tm_at "fact"), ?_⟩
  | refine And.intro (by tm_at "cond") ?_
  | refine .inl ⟨_, rfl, ?_⟩
  | refine ⟨_, _, rfl, .inl (by tm_at "fact"), ?_⟩
  | refine dec_false (by tm_at "prop") ?_
  | refine dec_true (by tm_at "prop") ?_
  | refine decN_false (by tm_at "prop") ?_
  | refine decN_true (by tm_at "prop") ?_
  | refine iteT ?_
  | refine iteF ?_
  | refine ⟨_, _, rfl, ?_⟩)
local macro_rules | `(tactic| tm_at "go") => `(tactic| repeat tm_at "s")

section
variable {P : Program} {w : World} {K : PySem.W.Frag} {mg : Str → Option Value} {base : Heap} {aH aR : Addr}
/-! ### _law_form -/
theorem sc__law_form : FnScope ["constant", "pairs", "sums", "name", "number"] ["constant", "pairs"] (defScope s__law_form) := ⟨rfl, rfl, rfl, by decide +kernel, rfl, by decide +kernel, by decide +kernel⟩
theorem ok__law_form {k : Nat} (D : Def K mg "_law_form" "_law_form" s__law_form ["constant", "pairs"]) (B : Bi mg) : Cal P w K mg base CX0 (k + 1) "_law_form" ["constant", "pairs"] (spForm K) := by
  refine D.cal fun f fd F => F.ok sc__law_form (fun vs H Q E h => ?_) (fun cdv A outer s H vs Q E hr h => ?_)
  · obtain ⟨c, a, xs, ps, rfl, _⟩ := h
    rfl
  · obtain ⟨c, a, xs, ps, rfl, ha, hi, hl, q⟩ := h
    have nd := sc__law_form.nd
    have hlx := hi.length
    rw [List.length_map] at hlx
    refine ⟨_, (pss_cons (ps_set (i := 2) nd rfl (Or.inr rfl) pe_dnewK)
      (pss_cons (ps_for PassesOwn.never rfl (pi_list (pv 1)) (pg_tup rfl (pgs_cons (pg_name (i := 3) nd rfl (Or.inl rfl)) (pgs_cons (pg_name (i := 4) nd rfl (Or.inl rfl)) pgs_nil)))
        (pss_one (ps_dput (hu_of hr) (pv 2) (pv 3) (pe_op op_add (pe_dget2 (hu_of hr) (pv 2) (pv 3) pe_int ⟨rfl, rfl, rfl, rfl⟩) (pv 4)) rfl)))
      (pss_one (ps_ret (pe_tup (pa_cons (pv 0) (pa_cons (pe_callTy call_tuple_of (by rfl) B.tuple (by decide +kernel) (pa_cons (pe_lc (own := [("name", 3)]) (by rfl) nd (pi_list (pe_callB (call_sortedD rfl) (by rfl) B.sorted (by decide +kernel) (pa_cons (pv 2) pa_nil))) (blkOk_by (own := [("name", 3)]) (N := ["constant", "pairs", "sums", "name", "number"]) (sc := defScope s__law_form) (by decide +kernel)) (fun _ _ _ _ _ => (pg_name (i := 3) nd rfl (Or.inl rfl))) (fun _ _ _ _ _ => (pts_one (pt_cmpR op_ne (pe_dget (hu_of hr) (pv 2) (pv 3) (fun _ _ => rfl)) pe_int (nomark _)))) (fun _ _ _ _ _ => (pe_tup (pa_cons (pv 3) (pa_cons (pe_dget (hu_of hr) (pv 2) (pv 3) (fun _ _ => rfl)) pa_nil))))) pa_nil)) pa_nil))))))), ?_⟩
    tm_at "go"
    intro d nd0
    have s0 : Same H (upd H d (.dK [])) := by tm_at "same"
    refine ⟨_, rfl, a, rfl, ⟨_, s0.seq ha⟩, ?_⟩
    refine for_it walk_list (fun i σ H' => ∃ v1 v2, σ = [some (.int c), some (.ref a), some (.ref d), v1, v2] ∧ Same H H' ∧ H' d = some (.dK (kvP (totals (ps.take i))))) ⟨_, _, rfl, s0, upd_same⟩ (fun i σ H' _ ⟨_, _, _, s1, _⟩ => s1.seq ha) ?_ ?_
    · rintro i v σ H1 H2 hlt ⟨v1, v2, rfl, s1, hd⟩ ⟨rfl, hv⟩
      obtain ⟨p, hp, him⟩ := ims_at hi hv
      obtain ⟨t, rfl, ht⟩ := pD_inv (s1.tk.im him)
      have hlen : (kvP (totals (ps.take i))).length < sizeLine := by
        unfold kvP
        rw [List.length_map]
        have h1 := totals_len (ps.take i)
        rw [List.length_take] at h1
        exact small1000 (by omega)
      tm_at "go"
      refine ⟨.inl ⟨_, .inl hd⟩, ?_⟩
      tm_at "go"
      refine ⟨_, DGet.k (k := Sum.inr p.1) hd, ?_⟩
      rw [kv_val]
      tm_at "go"
      refine ⟨d, _, rfl, DPut.k (k := Sum.inr p.1) hd hlen, ?_⟩
      refine ⟨_, _, rfl, by tm_at "same", ?_⟩
      rw [upd_same, kv_put _ _ _ (totals_nodup _), take_snoc hp, totals_snoc]
    · rintro σ H1 ⟨v1, v2, rfl, s1, hd⟩
      rw [List.take_of_length_le (by omega)] at hd
      have hkl := totals_len ps
      tm_at "go"
      refine ⟨d, _, (totals ps).map (·.1), rfl, .inl hd, kvP_keys _, by rw [List.length_map]; omega, fun ys p pm so np => ?_⟩
      have s2 : Same H1 (upd H1 p (.lst (ys.map V.str))) := same_new np
      have hyl : ys.length < 64 := by
        rw [pm.length_eq, List.length_map]
        omega
      refine ⟨p, rfl, ⟨_, SqL.of upd_same⟩, fun D nD => ?_⟩
      refine lc_it walk_list (fun i H' => Same H1 H' ∧ H' p = some (.lst (ys.map V.str)) ∧ ∃ vs, H' D = some (.lst vs) ∧ vs.length ≤ i ∧ Ims K H' vs ((((ys.take i).map fun n => (n, look (totals ps) n)).filter nzp).map pD)) ?_ (fun i H' _ ⟨_, h, _⟩ => SqL.of h) ?_ ?_
      · have npD : p ≠ D := ne_of_none upd_same nD
        refine ⟨by tm_at "same", ?_, [], upd_same, Nat.le_refl _, ?_⟩
        · rw [upd_ne npD, upd_same]
        · rw [List.take_zero]
          exact .nil
      · rintro i v Hx Hy hlt ⟨sx, hp, vs, hDv, hlv, him⟩ ⟨rfl, hv⟩
        have npD : p ≠ D := ne_of_none upd_same nD
        obtain ⟨n, hn, rfl⟩ : ∃ n, ys[i]? = some n ∧ V.str n = v := by
          rw [List.getElem?_map] at hv
          cases e : ys[i]? with
          | none => rw [e] at hv; cases hv
          | some z => rw [e] at hv; exact ⟨z, rfl, Option.some.inj hv⟩
        have hmem : n ∈ (totals ps).map (·.1) := pm.subset (List.mem_of_getElem? hn)
        have hg := kv_has (totals ps) n hmem
        have hd2 : Hy d = some (.dK (kvP (totals ps))) := sx _ _ hd
        have dg : DGet Hy d (.str n) (some (.int (look (totals ps) n))) := by
          rw [← hg]
          exact DGet.k (k := Sum.inr n) hd2
        have hil : i < 64 := by
          rw [List.length_map] at hlt
          omega
        have cons : (((ys.take (i + 1)).map fun n => (n, look (totals ps) n)).filter nzp).map pD = (((ys.take i).map fun n => (n, look (totals ps) n)).filter nzp).map pD ++ (if look (totals ps) n = 0 then [] else [pD (n, look (totals ps) n)]) := by
          rw [take_snoc hn, List.map_append, List.filter_append, List.map_append]
          congr 1
          show List.map pD (List.filter nzp [(n, look (totals ps) n)]) = _
          by_cases z : look (totals ps) n = 0
          · rw [if_pos z, List.filter_cons_of_neg (by unfold nzp; rw [decide_eq_true z]; exact Bool.false_ne_true)]
            rfl
          · rw [if_neg z, List.filter_cons_of_pos (by unfold nzp; rw [decide_eq_false z]; rfl)]
            rfl
        rw [cons]
        tm_at "go"
        refine ite2 (fun c => ?_) (fun c => ?_)
        · have c1 : ¬ look (totals ps) n = 0 := fun z => by
            have := show (!decide (V.int (look (totals ps) n) = V.int 0)) = true from c
            rw [z] at this
            exact absurd this (by decide)
          rw [if_neg c1]
          tm_at "go"
          refine fun t nt => ⟨vs, ?_, small1000 (by omega), ?_, ?_, _, upd_same, ?_, ?_⟩
          · rw [upd_ne (ne_of_none hDv nt)]
            exact hDv
          · tm_at "same"
          · rw [upd_ne npD, upd_ne (ne_of_none hp nt)]
            exact hp
          · rw [List.length_append]
            show vs.length + 1 ≤ i + 1
            omega
          · refine Ims.snoc (TK.ims ?_ him) (pD_of (SqT.of ?_))
            · exact (TK.new nt).trans (TK.lst (xs := vs) (by rw [upd_ne (ne_of_none hDv nt)]; exact hDv))
            · rw [upd_ne (ne_of_none hDv nt).symm, upd_same]
        · have c1 : look (totals ps) n = 0 := by
            have := show ¬ (!decide (V.int (look (totals ps) n) = V.int 0)) = true from c
            by_cases z : look (totals ps) n = 0
            · exact z
            · rw [decide_eq_false (fun e => z (V.int.inj e))] at this
              exact absurd rfl this
          rw [if_pos c1, List.append_nil]
          exact ⟨sx, hp, vs, hDv, by omega, him⟩
      · rintro H5 ⟨sx, hp, vs, hDv, hlv, him⟩
        rw [List.length_map, List.take_of_length_le (Nat.le_refl _)] at him
        rw [List.length_map] at hlv
        refine ⟨D, vs, rfl, .inl ⟨SqL.of hDv, fun u nu => ?_⟩⟩
        tm_at "go"
        refine fun t nt => ?_
        refine q _ _ ys pm (sorted_pair so) (by tm_at "same") (fD_of (u := u) (xs := vs) (SqT.of upd_same) (SqT.of ?_) ?_)
        · rw [upd_ne (ne_of_none upd_same nt), upd_same]
        · exact (TK.new nt).ims ((TK.new nu).ims him)
end
end C
set_option Elab.async false
set_option linter.all false
set_option maxRecDepth 100000
set_option maxHeartbeats 4000000
namespace C
open PySem PySem.Spec PyProof.Rows L2 Kx
local macro_rules | `(tactic| tm_at "same") => `(tactic| first
  | assumption
  | exact L2.Same.refl _
  | exact L2.Same.upd (by tm_at "same") (by tm_at "free")
  | exact sameTransR (by assumption) (by tm_at "same"))
local macro_rules | `(tactic| tm_at "free") => `(tactic| first
  | assumption
  | exact sameFreeR (by assumption) (by tm_at "same"))
local macro_rules | `(tactic| tm_at "but") => `(tactic| first
  | assumption
  | exact But.refl _ _
  | exact But.transR (by assumption) (by tm_at "but")
  | exact But.upd
  | exact But.self (by tm_at "but")
  | exact But.new1 (by tm_at "but") (by assumption)
  | exact But.new (by tm_at "but") (by tm_at "free")
  | exact L2.Same.but (by assumption) _)
local macro_rules | `(tactic| tm_at "fact") => `(tactic| first
  | exact upd_same
  | assumption
  | exact SqL.of upd_same
  | exact SqT.of upd_same
  | exact SqL.of (by assumption)
  | exact SqT.of (by assumption)
  | exact But.lstR (by assumption) (by assumption) (by tm_at "but"))
local macro_rules | `(tactic| tm_at "cond") => `(tactic| first
  | rfl
  | assumption
  | decide
  | omega
  | exact ⟨by decide, by decide⟩
  | exact .inr ⟨by decide, by decide⟩
  | exact .inl ⟨by decide, by decide⟩
  | exact ⟨by decide, by decide, by decide⟩
  | exact cdivw (by assumption) (by assumption)
  | exact log2_ok (by assumption)
  | exact Or.inl ⟨rfl, _, SqL.of upd_same⟩
  | exact Or.inl ⟨rfl, _, SqL.of (by assumption)⟩
  | exact ⟨_, rfl⟩
  | exact Nat.le_of_ble_eq_true rfl
  | exact small1000 (by omega))
local macro_rules | `(tactic| tm_at "prop") => `(tactic| first
  | assumption
  | omega)
local macro_rules | `(tactic| tm_at "s") => `(tactic| first
  | refine ⟨_, rfl, ?_⟩
  | refine ⟨_, _, rfl, rfl, ?_⟩
  | refine ⟨_, _, _, rfl, rfl, (by tm_at "fact"), (by tm_at "cond"), ?_⟩
  | refine ⟨_, _, _, _, rfl, rfl, (by tm_at "fact"), rfl, ?_⟩
  | refine ⟨_, _, rfl, (by tm_at "fact"), ?_⟩
  | refine And.intro (by tm_at "cond") ?_
  | refine .inl ⟨_, rfl, ?_⟩
  | refine ⟨_, _, rfl, .inl (by tm_at "fact"), ?_⟩
  | refine dec_false (by tm_at "prop") ?_
  | refine dec_true (by tm_at "prop") ?_
  | refine decN_false (by tm_at "prop") ?_
  | refine decN_true (by tm_at "prop") ?_
  | refine iteT ?_
  | refine iteF ?_
  | refine ⟨_, _, rfl, ?_⟩)
local macro_rules | `(tactic| tm_at "go") => `(tactic| repeat tm_at "s")
section
variable {P : Program} {w : World} {K : PySem.W.Frag} {mg : Str → Option Value} {base : Heap}
theorem sc__law_draw : FnScope ["state", "most", "found", "cell", "mixed"] ["state", "most"] (defScope s__law_draw) := ⟨rfl, rfl, rfl, by decide +kernel, rfl, by decide +kernel, by decide +kernel⟩
theorem ok__law_draw {k : Nat} (D : Def K mg "_law_draw" "_law_draw" s__law_draw ["state", "most"]) (B : Bi mg) : Cal P w K mg base CX0 (k + 1) "_law_draw" ["state", "most"] (spDraw K) := by
  refine D.cal fun f fd F => F.ok sc__law_draw (fun vs H Q E h => ?_) (fun cdv A outer s H vs Q E hr h => ?_)
  · obtain ⟨st, l, m, rfl, _⟩ := h
    rfl
  · obtain ⟨st, l, m, rfl, ⟨i, j, k, ns, hst, hl, nl⟩, hm, hmb, q⟩ := h
    have nd := sc__law_draw.nd
    refine ⟨_, (pss_cons (ps_asg (pe_op op_add (pe_ix ix_list (pv 0) pe_int (fun _ _ => rfl)) pe_int) (pg_sub (pv 0) pe_int set_list))
      (pss_cons (ps_if (pt_cmpR op_gt (pe_ix ix_list (pv 0) pe_int (fun _ _ => rfl)) pe_int (nomark _))
        (pss_cons (ps_set (i := 2) nd rfl (Or.inl rfl) (pe_op op_mod (pe_callTy call_int1 (by rfl) B.int (by decide +kernel) (pa_cons (pe_ix ix_list (pv 0) pe_int (fun _ _ => rfl)) pa_nil)) (pv 1)))
        (pss_cons (ps_asg (pe_op op_fdivW (pe_ix ix_list (pv 0) pe_int (fun _ _ => rfl)) (pv 1)) (pg_sub (pv 0) pe_int set_list))
        (pss_one (ps_ret (pv 2)))))
        pss_nil)
      (pss_cons (ps_set (i := 3) nd rfl (Or.inl rfl) pe_int)
      (pss_cons (ps_if (pt_cmpR op_gt (pe_callB call_len_seq (by rfl) B.len (by decide +kernel) (pa_cons (pe_ix ix_list (pv 0) pe_int (fun _ _ => rfl)) pa_nil)) pe_int (nomark _))
        (pss_one (ps_set (i := 3) nd rfl (Or.inl rfl) (pe_callB call_abs (by rfl) B.abs (by decide +kernel) (pa_cons (pe_ix ix_list (pe_ix ix_list (pv 0) pe_int (fun _ _ => rfl)) (pe_op op_mod (pe_callTy call_int1 (by rfl) B.int (by decide +kernel) (pa_cons (pe_ix ix_list (pv 0) pe_int (fun _ _ => rfl)) pa_nil)) (pe_callB call_len_seq (by rfl) B.len (by decide +kernel) (pa_cons (pe_ix ix_list (pv 0) pe_int (fun _ _ => rfl)) pa_nil))) (fun _ _ => rfl)) pa_nil))))
        pss_nil)
      (pss_cons (ps_asg (pe_op op_add (pe_ix ix_list (pv 0) pe_int (fun _ _ => rfl)) pe_int) (pg_sub (pv 0) pe_int set_list))
      (pss_cons (ps_if (pt_cmpR op_ge (pv 3) (pe_op op_pow pe_int pe_int) (nomark _))
        (pss_cons (ps_asg (pe_op op_fdivW (pv 3) (pv 1)) (pg_sub (pv 0) pe_int set_list))
        (pss_one (ps_ret (pe_op op_mod (pe_callTy call_int1 (by rfl) B.int (by decide +kernel) (pa_cons (pv 3) pa_nil)) (pv 1)))))
        pss_nil)
      (pss_cons (ps_set (i := 4) nd rfl (Or.inl rfl) (pe_op op_mod (pe_callTy call_int1 (by rfl) B.int (by decide +kernel) (pa_cons (pe_op op_add (pe_op op_mul (pe_op op_add (pv 3) pe_int) pe_int) (pe_op op_mul (pe_ix ix_list (pv 0) pe_int (fun _ _ => rfl)) pe_int)) pa_nil)) pe_int))
      (pss_cons (ps_set (i := 4) nd rfl (Or.inl rfl) (pe_op op_mod (pe_callTy call_int1 (by rfl) B.int (by decide +kernel) (pa_cons (pe_op op_add (pe_op op_add (pe_op op_mul (pv 4) pe_int) (pe_op op_fdivW (pv 3) pe_int)) (pe_ix ix_list (pv 0) pe_int (fun _ _ => rfl))) pa_nil)) pe_int))
      (pss_one (ps_ret (pe_op op_mod (pe_op op_fdivW (pv 4) pe_int) (pv 1)))))))))))), ?_⟩
    tm_at "go"
    refine ite2 (fun c => ?_) (fun c => ?_)
    · tm_at "go"
      exact q _ _ (mod_lt hm).1 (mod_lt hm).2 (by tm_at "but") ⟨i, _, _, ns, upd_same, by tm_at "fact", nl⟩
    tm_at "go"
    refine ite2 (fun c => ?_) (fun c => ?_)
    · have c1 : 0 < ((ns.map V.int).length : Int) := of_decide_eq_true c
      obtain ⟨z, ez⟩ := at_mod i c1
      tm_at "go"
      refine ⟨_, _, _, _, rfl, rfl, by tm_at "fact", ez, ?_⟩
      tm_at "go"
      refine ite2 (fun c => ?_) (fun c => ?_)
      · tm_at "go"
        exact q _ _ (mod_lt hm).1 (mod_lt hm).2 (by tm_at "but") ⟨_, _, _, ns, upd_same, by tm_at "fact", nl⟩
      · tm_at "go"
        exact q _ _ (mod_lt hm).1 (mod_lt hm).2 (by tm_at "but") ⟨_, _, _, ns, upd_same, by tm_at "fact", nl⟩
    · tm_at "go"
      exact q _ _ (mod_lt hm).1 (mod_lt hm).2 (by tm_at "but") ⟨_, _, _, ns, upd_same, by tm_at "fact", nl⟩
end
end C
set_option Elab.async false
set_option linter.all false
set_option pp.maxSteps 1500
set_option maxRecDepth 100000
set_option maxHeartbeats 4000000
namespace C
open PySem PySem.Spec PyProof.Rows L2 Kx M TL
local macro_rules | `(tactic| tm_at "same") => `(tactic| first
  | assumption
  | exact L2.Same.refl _
  | exact L2.Same.upd (by tm_at "same") (by tm_at "free")
  | exact sameTransR (by assumption) (by tm_at "same"))
local macro_rules | `(tactic| tm_at "free") => `(tactic| first
  | assumption
  | exact sameFreeR (by assumption) (by tm_at "same"))
local macro_rules | `(tactic| tm_at "but") => `(tactic| first
  | assumption
  | exact But.refl _ _
  | exact But.transR (by assumption) (by tm_at "but")
  | exact But.upd
  | exact But.self (by tm_at "but")
  | exact But.new1 (by tm_at "but") (by assumption)
  | exact But.new (by tm_at "but") (by tm_at "free")
  | exact L2.Same.but (by assumption) _)
local macro_rules | `(tactic| tm_at "fact") => `(tactic| first
  | exact upd_same
  | assumption
  | exact SqL.of upd_same
  | exact SqT.of upd_same
  | exact SqL.of (by assumption)
  | exact SqT.of (by assumption)
  | exact But.lstR (by assumption) (by assumption) (by tm_at "but"))
local macro_rules | `(tactic| tm_at "cond") => `(tactic| first
  | rfl
  | assumption
  | decide
  | omega
  | exact ⟨by decide, by decide⟩
  | exact .inr ⟨by decide, by decide⟩
  | exact .inl ⟨by decide, by decide⟩
  | exact ⟨by decide, by decide, by decide⟩
  | exact cdivw (by assumption) (by assumption)
  | exact log2_ok (by assumption)
  | exact Or.inl ⟨rfl, _, SqL.of upd_same⟩
  | exact Or.inl ⟨rfl, _, SqL.of (by assumption)⟩
  | exact ⟨_, rfl⟩
  | exact Nat.le_of_ble_eq_true rfl
  | exact small1000 (by omega))
local macro_rules | `(tactic| tm_at "prop") => `(tactic| first
  | assumption
  | omega)
local macro_rules | `(tactic| tm_at "s") => `(tactic| first
  | refine ⟨_, rfl, ?_⟩
  | refine ⟨_, _, rfl, rfl, ?_⟩
  | refine ⟨_, _, _, rfl, rfl, (by tm_at "fact"), (by tm_at "cond"), ?_⟩
  | refine ⟨_, _, _, _, rfl, rfl, (by tm_at "fact"), rfl, ?_⟩
  | refine ⟨_, _, rfl, (by tm_at "fact"), ?_⟩
  | refine And.intro (by tm_at "cond") ?_
  | refine .inl ⟨_, rfl, ?_⟩
  | refine ⟨_, _, rfl, .inl (by tm_at "fact"), ?_⟩
  | refine dec_false (by tm_at "prop") ?_
  | refine dec_true (by tm_at "prop") ?_
  | refine decN_false (by tm_at "prop") ?_
  | refine decN_true (by tm_at "prop") ?_
  | refine iteT ?_
  | refine iteF ?_
  | refine ⟨_, _, rfl, ?_⟩)
local macro_rules | `(tactic| tm_at "go") => `(tactic| repeat tm_at "s")

section
variable {P : Program} {w : World} {K : PySem.W.Frag} {mg : Str → Option Value} {base : Heap} {aH aR : Addr}
/-! ### drawing -/
theorem _root_.Kx.StOk.but_strs {H H' : Hp} {st l a : Addr} {ss : List Str} (o : StOk K H st l) (b : But st H H') (h : SqL K H a (ss.map V.str)) : SqL K H' a (ss.map V.str) := by
  obtain ⟨i, j, k, ns, hst, _⟩ := o
  have ne : ∀ xs, xs = ss.map V.str → xs ≠ [V.ref l, V.int i, V.int j, V.int k] := fun xs e z => by
    subst e
    cases ss with
    | nil => cases z
    | cons x r => cases z
  rcases h with (h | ⟨o, h⟩) | h
  · refine .inl (.inl (b _ _ (fun e => ?_) h))
    subst e
    rw [hst] at h
    injection h with h
    injection h with h
    exact ne _ rfl h.symm
  · refine .inl (.inr ⟨o, b _ _ (fun e => ?_) h⟩)
    subst e
    rw [hst] at h
    cases h
  · exact .inr h
theorem _root_.Kx.StOk.tk {H H' : Hp} {st l : Addr} (o : StOk K H st l) (b : But st H H') : TK H H' := by
  obtain ⟨i, j, k, ns, hst, _⟩ := o
  exact b.tk hst
theorem _root_.Kx.StOk.same {H H' : Hp} {st l : Addr} (o : StOk K H st l) (s : Same H H') : StOk K H' st l := by
  obtain ⟨i, j, k, ns, hst, hl, nl⟩ := o
  exact ⟨i, j, k, ns, s _ _ hst, s.seq hl, nl⟩
/-- a new object beside the state -/
theorem _root_.Kx.StOk.new {H : Hp} {st l p : Addr} {x : HO} (o : StOk K H st l) (h : H p = none) : StOk K (upd H p x) st l := o.same (same_new h)
theorem _root_.Kx.StOk.ne {H : Hp} {st l p : Addr} (o : StOk K H st l) (h : H p = none) : st ≠ p := by
  obtain ⟨i, j, k, ns, hst, hl, nl⟩ := o
  exact ne_of_none hst h
/-- an object that was not there at first changes -/
theorem _root_.Kx.StOk.grow {H0 H : Hp} {st l p : Addr} {x : HO} (o0 : StOk K H0 st l) (h : H0 p = none) (o : StOk K H st l) : StOk K (upd H p x) st l := by
  have n1 := o0.ne h
  obtain ⟨i, j, k, ns, hst, hl, nl⟩ := o
  obtain ⟨i0, j0, k0, ns0, hst0, hl0, nl0⟩ := o0
  by_cases e : l = p
  · subst e
    rcases hl0 with (z | ⟨o, z⟩) | ⟨o, its, n, z, z2⟩
    · rw [h] at z
      cases z
    · rw [h] at z
      cases z
    · exact ⟨i, j, k, ns0, by rw [upd_ne n1]; exact hst, .inr ⟨o, its, n, z, z2⟩, nl⟩
  · exact ⟨i, j, k, ns, by rw [upd_ne n1]; exact hst, (But.upd (a := p)).lst e hl, nl⟩
/-! ### _law_start -/
def spStart (K : PySem.W.Frag) : Sp := fun vs H Q _ => ∃ (a : Addr) (ns : List Int), vs = [.ref a] ∧ SqL K H a (ns.map V.int) ∧ ∀ st l H', Same H H' → H st = none → StOk K H' st l → Q (.ref st) H'
theorem sc__law_start : FnScope ["script"] ["script"] (defScope s__law_start) := ⟨rfl, rfl, rfl, by decide +kernel, rfl, by decide +kernel, by decide +kernel⟩
theorem ok__law_start {k : Nat} (D : Def K mg "_law_start" "_law_start" s__law_start ["script"]) (B : Bi mg) : Cal P w K mg base CX0 (k + 1) "_law_start" ["script"] (spStart K) := by
  refine D.cal fun f fd F => F.ok sc__law_start (fun vs H Q E h => ?_) (fun cdv A outer s H vs Q E hr h => ?_)
  · obtain ⟨a, ns, rfl, _⟩ := h
    rfl
  · obtain ⟨a, ns, rfl, ha, q⟩ := h
    have nd := sc__law_start.nd
    refine ⟨_, (pss_one (ps_ret (pe_lst (pa_cons (pe_callTy call_list_of (by rfl) B.list (by decide +kernel) (pa_cons (pv 0) pa_nil)) (pa_cons pe_int (pa_cons pe_int (pa_cons pe_int pa_nil))))))), ?_⟩
    tm_at "go"
    refine fun l nl => ?_
    tm_at "go"
    refine fun st nst => ?_
    have nls : l ≠ st := ne_of_none upd_same nst
    refine q st l _ (by tm_at "same") (by tm_at "free") ⟨0, 0, 0, ns, upd_same, SqL.of ?_, nls⟩
    rw [upd_ne nls, upd_same]
/-! ### _law_one_of -/
def spOneOf (K : PySem.W.Frag) : Sp := fun vs H Q _ => ∃ (st l a : Addr) (ss : List Str), vs = [.ref st, .ref a] ∧ StOk K H st l ∧ SqL K H a (ss.map V.str) ∧ 0 < ss.length ∧ ss.length ≤ 1000 ∧ ∀ z H', z ∈ ss → But st H H' → StOk K H' st l → Q (.str z) H'
theorem pow30 {n : Nat} (h : n ≤ 1000) : (n : Int) ≤ 10 ^ 30 := by
  have e : (10 : Int) ^ 30 = 1000000000000000000000000000000 := by decide
  rw [e]
  omega
theorem sc__law_one_of : FnScope ["state", "items"] ["state", "items"] (defScope s__law_one_of) := ⟨rfl, rfl, rfl, by decide +kernel, rfl, by decide +kernel, by decide +kernel⟩
theorem ok__law_one_of {k : Nat} (D : Def K mg "_law_one_of" "_law_one_of" s__law_one_of ["state", "items"]) (B : Bi mg) (c__law_draw : Cal P w K mg base CX0 k "_law_draw" ["state", "most"] (spDraw K)) : Cal P w K mg base CX0 (k + 1) "_law_one_of" ["state", "items"] (spOneOf K) := by
  refine D.cal fun f fd F => F.ok sc__law_one_of (fun vs H Q E h => ?_) (fun cdv A outer s H vs Q E hr h => ?_)
  · obtain ⟨a, b, c, ss, rfl, _⟩ := h
    rfl
  · obtain ⟨st, l, a, ss, rfl, so, ha, h0, h1, q⟩ := h
    have nd := sc__law_one_of.nd
    refine ⟨_, (pss_one (ps_ret (pe_ix ix_list (pv 1) (pe_cal c__law_draw (Room.mono hr (by omega)) (by rfl) (pa_cons (pv 0) (pa_cons (pe_callB call_len_seq (by rfl) B.len (by decide +kernel) (pa_cons (pv 1) pa_nil)) pa_nil))) (fun _ _ => rfl)))), ?_⟩
    tm_at "go"
    refine ⟨st, l, _, rfl, so, ?_, ?_, fun r H1 r0 r1 b1 so1 => ?_⟩
    · rw [List.length_map]
      omega
    · rw [List.length_map]
      exact pow30 h1
    · rw [List.length_map] at r1
      obtain ⟨j, rfl⟩ : ∃ j : Nat, r = (j : Int) := ⟨r.toNat, by omega⟩
      have hj : j < ss.length := by omega
      have hg : (ss.map V.str)[j]? = some (V.str ss[j]) := by
        rw [List.getElem?_map, List.getElem?_eq_getElem hj]
        rfl
      refine ⟨_, _, _, _, rfl, rfl, so.but_strs b1 ha, at_of rfl hg, ?_⟩
      exact q _ _ (List.getElem_mem hj) b1 so1
/-! ### _law_text_of -/
def spTextOf (K : PySem.W.Frag) : Sp := fun vs H Q _ => ∃ (st l : Addr) (sg : Str) (n : Nat), vs = [.ref st, .str sg, .int (n : Int)] ∧ StOk K H st l ∧ 0 < sg.length ∧ sg.length ≤ 1000 ∧ n ≤ 100 ∧
  ∀ z H', z.length = n → (∀ c ∈ tl z, c ∈ tl sg) → But st H H' → StOk K H' st l → Q (.str z) H'
theorem joinL_nil : ∀ l : List (List Nat), joinL [] l = l.flatten
  | [] => rfl
  | [p] => by
    show p = [p].flatten
    simp
  | p :: q :: r => by
    show p ++ ([] ++ joinL [] (q :: r)) = _
    rw [joinL_nil (q :: r)]
    rfl
theorem tl_join_empty (l : List Nat) : tl (Txt.join (S "") (l.map fun c => (⟨#[c]⟩ : Str))) = l := by
  rw [join_eq, tl_join, show tl (S "") = [] by decide +kernel, joinL_nil, List.map_map]
  induction l with
  | nil => rfl
  | cons c r ih =>
    rw [List.map_cons, List.flatten_cons, ih]
    rfl
theorem sc__law_text_of : FnScope ["state", "signs", "many", "k"] ["state", "signs", "many"] (defScope s__law_text_of) := ⟨rfl, rfl, rfl, by decide +kernel, rfl, by decide +kernel, by decide +kernel⟩
theorem ok__law_text_of {k : Nat} (D : Def K mg "_law_text_of" "_law_text_of" s__law_text_of ["state", "signs", "many"]) (B : Bi mg) (c__law_draw : Cal P w K mg base CX0 k "_law_draw" ["state", "most"] (spDraw K)) : Cal P w K mg base CX0 (k + 1) "_law_text_of" ["state", "signs", "many"] (spTextOf K) := by
  refine D.cal fun f fd F => F.ok sc__law_text_of (fun vs H Q E h => ?_) (fun cdv A outer s H vs Q E hr h => ?_)
  · obtain ⟨a, b, c, ss, rfl, _⟩ := h
    rfl
  · obtain ⟨st, sl, sg, n, rfl, so, h0, h1, hn, q⟩ := h
    have nd := sc__law_text_of.nd
    have hbig : (1000 : Nat) ≤ sizeLine := by decide
    refine ⟨_, (pss_one (ps_ret (pe_join pe_str (pe_lc (own := [("k", 3)]) (by rfl) nd (pi_range1 (by rfl) B.range (pa_cons (pv 2) pa_nil)) (blkOk_by (own := [("k", 3)]) (N := ["state", "signs", "many", "k"]) (sc := defScope s__law_text_of) (by decide +kernel)) (fun _ _ _ _ _ => (pg_name (i := 3) nd rfl (Or.inl rfl))) (fun _ _ _ _ _ => pts_nil) (fun _ _ _ _ _ => (pe_ix ix_str (pv 1) (pe_cal c__law_draw (Room.mono hr (by omega)) (by rfl) (pa_cons (pv 0) (pa_cons (pe_callB call_len_str (by rfl) B.len (by decide +kernel) (pa_cons (pv 1) pa_nil)) pa_nil))) (fun _ _ => rfl))))))), ?_⟩
    tm_at "go"
    refine fun D nD => ?_
    have nsD := so.ne nD
    refine lc_it walk_range (fun i H' => But st H H' ∧ StOk K H' st sl ∧ ∃ l : List Nat, H' D = some (.lst ((l.map fun c => (⟨#[c]⟩ : Str)).map V.str)) ∧ l.length = i ∧ ∀ c ∈ l, c ∈ tl sg) ⟨(same_new nD).but st, so.new nD, [], upd_same, rfl, fun _ h => by cases h⟩ (fun _ _ _ _ => trivial) ?_ ?_
    · rintro i v Hx Hy hlt ⟨bx, sox, l, hDx, hl, hc⟩ ⟨rfl, rfl⟩
      refine ⟨rfl, ?_⟩
      tm_at "go"
      refine ⟨st, sl, _, rfl, sox, by omega, pow30 h1, fun r H2 r0 r1 b2 so2 => ?_⟩
      obtain ⟨j, rfl⟩ : ∃ j : Nat, r = (j : Int) := ⟨r.toNat, by omega⟩
      have hj : j < (tl sg).length := by
        rw [← len_tl]
        omega
      have hD2 : H2 D = some (.lst ((l.map fun c => (⟨#[c]⟩ : Str)).map V.str)) := b2 _ _ nsD.symm hDx
      have hat : atI (tl sg) (j : Int) = some (tl sg)[j] := atI_nat (List.getElem?_eq_getElem hj)
      refine ⟨sg, _, (tl sg)[j], rfl, rfl, by omega, hat, ?_⟩
      refine ⟨_, hD2, ?_, (bx.trans b2).new nD, so.grow nD so2, l ++ [(tl sg)[j]], ?_, ?_, ?_⟩
      · rw [List.length_map, List.length_map]
        exact small1000 (by omega)
      · rw [upd_same, List.map_append, List.map_append]
        rfl
      · rw [List.length_append, hl]
        rfl
      · intro c hcm
        rcases List.mem_append.mp hcm with z | z
        · exact hc c z
        · rw [List.mem_singleton] at z
          rw [z]
          exact List.getElem_mem hj
    · rintro H1 ⟨bx, sox, l, hDx, hl, hc⟩
      have hln : l.length = n := by
        rw [hl]
        omega
      have hone : ((l.map fun c => (⟨#[c]⟩ : Str)).map (·.length)).sum ≤ l.length := by
        have := sum_le (b := 1) (l := l.map fun c => (⟨#[c]⟩ : Str)) (fun x hx => by
          obtain ⟨c, _, rfl⟩ := List.mem_map.mp hx
          exact Nat.le_refl _)
        rw [List.length_map] at this
        omega
      tm_at "go"
      refine ⟨_, D, l.map fun c => (⟨#[c]⟩ : Str), rfl, rfl, .inl (SqL.of hDx), ?_, ?_⟩
      · rw [List.length_map]
        have e : (Str.ofString "").length = 0 := by decide +kernel
        rw [e]
        omega
      · have e := tl_join_empty l
        refine q _ _ ?_ ?_ bx sox
        · rw [len_tl]
          have : tl (Txt.join (Str.ofString "") (l.map fun c => (⟨#[c]⟩ : Str))) = l := e
          rw [this]
          exact hln
        · have : tl (Txt.join (Str.ofString "") (l.map fun c => (⟨#[c]⟩ : Str))) = l := e
          rw [this]
          exact hc
end
end C
set_option Elab.async false
set_option linter.all false
set_option maxRecDepth 100000
set_option maxHeartbeats 4000000
/-! Q1: pairs of texts as data: equality, being among others. -/
namespace M
open PySem PySem.Spec PyProof.Rows L2 Kx TL
theorem beq_dec (x y : Str) : (x == y) = decide (x = y) := by
  by_cases h : x = y
  · rw [decide_eq_true h]
    exact beq_iff_eq.mpr h
  · rw [decide_eq_false h]
    cases e : x == y with
    | false => rfl
    | true => exact absurd (beq_iff_eq.mp e) h
theorem eqv_q (p r : Str × Str) : PyData.eqv (qD p) (qD r) = decide (p = r) := by
  unfold qD
  simp only [PyData.eqv, PyData.eqvAll, Bool.and_true]
  rw [beq_dec, beq_dec]
  obtain ⟨a, b⟩ := p
  obtain ⟨c, d⟩ := r
  by_cases h1 : a = c
  · by_cases h2 : b = d
    · subst h1; subst h2
      rw [decide_eq_true rfl, decide_eq_true rfl, decide_eq_true rfl]
      rfl
    · rw [decide_eq_false (show ¬ b = d from h2), Bool.and_false, decide_eq_false (fun e => h2 (Prod.mk.inj e).2)]
  · rw [decide_eq_false (show ¬ a = c from h1), Bool.false_and, decide_eq_false (fun e => h1 (Prod.mk.inj e).1)]
theorem any_q (ps : List (Str × Str)) (p : Str × Str) : ((ps.map qD).any fun z => PyData.eqv z (qD p)) = decide (p ∈ ps) := by
  induction ps with
  | nil => rfl
  | cons a r ih =>
    rw [List.map_cons, List.any_cons, ih, eqv_q]
    by_cases h1 : a = p
    · rw [decide_eq_true h1, Bool.true_or, decide_eq_true (by rw [h1]; exact List.mem_cons_self ..)]
    · by_cases h2 : p ∈ r
      · rw [decide_eq_true h2, Bool.or_true, decide_eq_true (List.mem_cons_of_mem _ h2)]
      · rw [decide_eq_false h1, decide_eq_false h2, decide_eq_false (fun z => (List.mem_cons.mp z).elim (fun e => h1 e.symm) h2)]
        rfl
def Ok (x : Str) : Prop := PyData.strOk x = true
theorem Ok.of {x : Str} (h : ∀ c ∈ tl x, c ≤ 126) : Ok x := by
  unfold Ok PyData.strOk
  rw [← Array.all_toList]
  exact List.all_eq_true.mpr fun c hc => decide_eq_true (Nat.lt_of_le_of_lt (h c hc) (by decide))
theorem shaped_q {p : Str × Str} (h : Ok p.1 ∧ Ok p.2) : SeqAt.shaped (qD p) = true := by
  unfold SeqAt.shaped qD
  simp only [PyData.canLay0, PyData.canLayAll0, PyData.depth, PyData.depthAll]
  rw [show PyData.strOk p.1 = true from h.1, show PyData.strOk p.2 = true from h.2]
  rfl
theorem lay_qs : ∀ {ps : List (Str × Str)}, (∀ p ∈ ps, Ok p.1 ∧ Ok p.2) → PyData.canLayAll0 (ps.map qD) = true
  | [], _ => by
    unfold PyData.canLayAll0
    rfl
  | p :: r, h => by
    rw [List.map_cons]
    unfold PyData.canLayAll0
    rw [lay_qs fun q hq => h q (List.mem_cons_of_mem _ hq), SeqAt.canLay_of_shaped (shaped_q (h p (List.mem_cons_self ..)))]
    rfl
theorem depth_qs : ∀ ps : List (Str × Str), PyData.depthAll (ps.map qD) ≤ 3
  | [] => by
    unfold PyData.depthAll
    exact Nat.zero_le _
  | p :: r => by
    rw [List.map_cons]
    unfold PyData.depthAll
    refine Nat.max_le.mpr ⟨?_, depth_qs r⟩
    unfold qD
    simp only [PyData.depth, PyData.depthAll]
    decide
theorem shaped_qs {ps : List (Str × Str)} (h : ∀ p ∈ ps, Ok p.1 ∧ Ok p.2) : SeqAt.shaped (.list (ps.map qD)) = true := by
  unfold SeqAt.shaped
  rw [show PyData.canLay0 (.list (ps.map qD)) = PyData.canLayAll0 (ps.map qD) by simp only [PyData.canLay0], lay_qs h]
  have h1 := depth_qs ps
  have h2 : PyData.depth (.list (ps.map qD)) = PyData.depthAll (ps.map qD) + 1 := by simp only [PyData.depth]
  rw [h2, decide_eq_true (by omega)]
  rfl
theorem eqv_qs_nil (ps : List (Str × Str)) : PyData.eqv (.list (ps.map qD)) (.list []) = decide (ps = []) := by
  cases ps with
  | nil => simp only [List.map_nil, PyData.eqv, PyData.eqvAll]; rfl
  | cons p r => simp only [List.map_cons, PyData.eqv, PyData.eqvAll]; rfl
/-! ### words and rows -/
def Wd (z : Str) : Prop := tl z ≠ [] ∧ z.length ≤ 18 ∧ ∀ c ∈ tl z, 33 ≤ c ∧ c ≤ 126
theorem Wd.ok {z : Str} (h : Wd z) : Ok z := .of fun c hc => (h.2.2 c hc).2
def rules7 : List Str := ["lockstep", "pauses alone", "left begins", "right begins", "meet at whiles", "calls alone", "left first"]
structure Row where
  a : Str
  b : Str
  gs : List Form
  ss : List (Str × Str)
  as : List Form
  ks : List (Str × Str)
  hs : List Form
  rule : Str
def cD (r : Row) : PyData := .tuple [.str r.a, .str r.b, .tuple (r.gs.map fD), .tuple (r.ss.map qD), .tuple (r.as.map fD), .tuple (r.ks.map qD)]
def rD (r : Row) : PyData := .tuple [cD r, .tuple (r.hs.map fD), .str r.rule]
structure Row.Ok (r : Row) : Prop where
  wa : Wd r.a
  wb : Wd r.b
  gl : r.gs.length ≤ 2
  g : ∀ f ∈ r.gs, FOk f
  sl : r.ss.length ≤ 3
  sn : r.ss.Nodup
  s : ∀ p ∈ r.ss, Wd p.1 ∧ Wd p.2
  al : r.as.length ≤ 2
  a' : ∀ f ∈ r.as, FOk f
  kl : r.ks.length ≤ 3
  kn : r.ks.Nodup
  k : ∀ p ∈ r.ks, Wd p.1 ∧ Wd p.2
  hl : r.hs.length ≤ 2
  h : ∀ f ∈ r.hs, FOk f
  sm : ∀ f, f ∈ r.gs ∨ f ∈ r.as ∨ f ∈ r.hs → FSm f
  ru : r.rule ∈ rules7 ++ [S "any", S "any", S "any"]
end M
set_option Elab.async false
set_option linter.all false
set_option pp.maxSteps 1500
set_option maxRecDepth 100000
set_option maxHeartbeats 4000000
namespace C
open PySem PySem.Spec PyProof.Rows L2 Kx M TL
local macro_rules | `(tactic| tm_at "same") => `(tactic| first
  | assumption
  | exact L2.Same.refl _
  | exact L2.Same.upd (by tm_at "same") (by tm_at "free")
  | exact sameTransR (by assumption) (by tm_at "same"))
local macro_rules | `(tactic| tm_at "free") => `(tactic| first
  | assumption
  | exact sameFreeR (by assumption) (by tm_at "same"))
local macro_rules | `(tactic| tm_at "but") => `(tactic| first
  | assumption
  | exact But.refl _ _
  | exact But.transR (by assumption) (by tm_at "but")
  | exact But.upd
  | exact But.self (by tm_at "but")
  | exact But.new1 (by tm_at "but") (by assumption)
  | exact But.new (by tm_at "but") (by tm_at "free")
  | exact L2.Same.but (by assumption) _)
local macro_rules | `(tactic| tm_at "fact") => `(tactic| first
  | exact upd_same
  | assumption
  | exact SqL.of upd_same
  | exact SqT.of upd_same
  | exact SqL.of (by assumption)
  | exact SqT.of (by assumption)
  | exact But.lstR (by assumption) (by assumption) (by tm_at "but"))
local macro_rules | `(tactic| tm_at "cond") => `(tactic| first
  | rfl
  | assumption
  | decide
  | omega
  | exact ⟨by decide, by decide⟩
  | exact .inr ⟨by decide, by decide⟩
  | exact .inl ⟨by decide, by decide⟩
  | exact ⟨by decide, by decide, by decide⟩
  | exact cdivw (by assumption) (by assumption)
  | exact log2_ok (by assumption)
  | exact Or.inl ⟨rfl, _, SqL.of upd_same⟩
  | exact Or.inl ⟨rfl, _, SqL.of (by assumption)⟩
  | exact ⟨_, rfl⟩
  | exact Nat.le_of_ble_eq_true rfl
  | exact small1000 (by omega))
local macro_rules | `(tactic| tm_at "prop") => `(tactic| first
  | assumption
  | omega)
local macro_rules | `(tactic| tm_at "s") => `(tactic| first
  | refine ⟨_, rfl, ?_⟩
  | refine ⟨_, _, rfl, rfl, ?_⟩
  | refine ⟨_, _, _, rfl, rfl, (by tm_at "fact"), (by tm_at "cond"), ?_⟩
  | refine ⟨_, _, _, _, rfl, rfl, (by tm_at "fact"), rfl, ?_⟩
  | refine ⟨_, _, rfl, (by tm_at "fact"), ?_⟩
  | refine And.intro (by tm_at "cond") ?_
  | refine .inl ⟨_, rfl, ?_⟩
  | refine ⟨_, _, rfl, .inl (by tm_at "fact"), ?_⟩
  | refine dec_false (by tm_at "prop") ?_
  | refine dec_true (by tm_at "prop") ?_
  | refine decN_false (by tm_at "prop") ?_
  | refine decN_true (by tm_at "prop") ?_
  | refine iteT ?_
  | refine iteF ?_
  | refine ⟨_, _, rfl, ?_⟩)
local macro_rules | `(tactic| tm_at "go") => `(tactic| repeat tm_at "s")

section
variable {P : Program} {w : World} {K : PySem.W.Frag} {mg : Str → Option Value} {base : Heap} {aH aR : Addr}
/-! ### a drawn word -/
def spGen (K : PySem.W.Frag) (R : Str → Prop) : Sp := fun vs H Q _ => ∃ (st l : Addr), vs = [.ref st] ∧ StOk K H st l ∧ ∀ z H', R z → But st H H' → StOk K H' st l → Q (.str z) H'
theorem sum_of {x y : Str} {n m : Nat} (hx : x.length = n) (hy : y.length = m) : (x ++ y).length = n + m := by
  rw [M.len_app, hx, hy]
def heads9 : List Str := ["end", "with", "claim", "given", "same", "walk", "0", "-", "any"]
def sgA : Str := "!\"#$&'()*+,-./0123456789:;<=>?@ABCDEFGHIJKLMNOPQRSTUVWXYZ"
def sgB : Str := "[\\]^_`abcdefghijklmnopqrstuvwxyz{|}~"
theorem wd_heads : ∀ z ∈ heads9, tl z ≠ [] ∧ z.length ≤ 18 ∧ ∀ c ∈ tl z, 33 ≤ c ∧ c ≤ 126 := by decide +kernel
theorem wd_sgA : ∀ c ∈ tl sgA, 33 ≤ c ∧ c ≤ 126 := by decide +kernel
theorem wd_sgB : ∀ c ∈ tl sgB, 33 ≤ c ∧ c ≤ 126 := by decide +kernel
theorem wd_sg : ∀ c ∈ tl (sgA ++ sgB), 33 ≤ c ∧ c ≤ 126 := by
  intro c hc
  rw [tl_append] at hc
  rcases List.mem_append.mp hc with z | z
  · exact wd_sgA c z
  · exact wd_sgB c z
def sgC : Str := "abcdefghijklmnopqrstuvwxyz"
def sgD : Str := "abz019_"
theorem wd_sgC : ∀ c ∈ tl sgC, 33 ≤ c ∧ c ≤ 126 := by decide +kernel
theorem wd_sgD : ∀ c ∈ tl sgD, 33 ≤ c ∧ c ≤ 126 := by decide +kernel
theorem ne_len {z : Str} {n : Nat} (h : z.length = n) (h0 : 0 < n) : tl z ≠ [] := fun e => by
  rw [len_tl, e] at h
  simp at h
  omega
theorem sc__law_any_word : FnScope ["state", "signs", "pick"] ["state"] (defScope s__law_any_word) := ⟨rfl, rfl, rfl, by decide +kernel, rfl, by decide +kernel, by decide +kernel⟩
theorem ok__law_any_word {k : Nat} (D : Def K mg "_law_any_word" "_law_any_word" s__law_any_word ["state"]) (B : Bi mg) (c__law_draw : Cal P w K mg base CX0 k "_law_draw" ["state", "most"] (spDraw K))
    (c__law_one_of : Cal P w K mg base CX0 k "_law_one_of" ["state", "items"] (spOneOf K)) (c__law_text_of : Cal P w K mg base CX0 k "_law_text_of" ["state", "signs", "many"] (spTextOf K)) :
    Cal P w K mg base CX0 (k + 1) "_law_any_word" ["state"] (spGen K Wd) := by
  refine D.cal fun f fd F => F.ok sc__law_any_word (fun vs H Q E h => ?_) (fun cdv A outer s H vs Q E hr h => ?_)
  · obtain ⟨st, l, rfl, _⟩ := h
    rfl
  · obtain ⟨st, l, rfl, so, q⟩ := h
    have nd := sc__law_any_word.nd
    refine ⟨_, (pss_cons (ps_set (i := 1) nd rfl (Or.inl rfl) pe_str)
      (pss_cons (ps_set (i := 1) nd rfl (Or.inl rfl) (pe_op op_add_str (pv 1) pe_str))
      (pss_cons (ps_set (i := 2) nd rfl (Or.inl rfl) (pe_cal c__law_draw (Room.mono hr (by omega)) (by rfl) (pa_cons (pv 0) (pa_cons pe_int pa_nil))))
      (pss_cons (ps_if (pt_cmpR op_eq (pv 2) pe_int (nomark _))
        (pss_one (ps_ret (pe_cal c__law_one_of (Room.mono hr (by omega)) (by rfl) (pa_cons (pv 0) (pa_cons (pe_lst (pa_cons pe_str (pa_cons pe_str (pa_cons pe_str (pa_cons pe_str (pa_cons pe_str (pa_cons pe_str (pa_cons pe_str (pa_cons pe_str (pa_cons pe_str pa_nil)))))))))) pa_nil)))))
        pss_nil)
      (pss_cons (ps_if (pt_cmpR op_lt (pv 2) pe_int (nomark _))
        (pss_one (ps_ret (pe_cal c__law_text_of (Room.mono hr (by omega)) (by rfl) (pa_cons (pv 0) (pa_cons (pv 1) (pa_cons (pe_op op_add pe_int (pe_cal c__law_draw (Room.mono hr (by omega)) (by rfl) (pa_cons (pv 0) (pa_cons pe_int pa_nil)))) pa_nil))))))
        pss_nil)
      (pss_one (ps_ret (pe_op op_add_str (pe_cal c__law_text_of (Room.mono hr (by omega)) (by rfl) (pa_cons (pv 0) (pa_cons pe_str (pa_cons pe_int pa_nil)))) (pe_cal c__law_text_of (Room.mono hr (by omega)) (by rfl) (pa_cons (pv 0) (pa_cons pe_str (pa_cons (pe_cal c__law_draw (Room.mono hr (by omega)) (by rfl) (pa_cons (pv 0) (pa_cons pe_int pa_nil))) pa_nil)))))))))))), ?_⟩
    tm_at "go"
    refine ⟨st, l, 8, rfl, so, by decide, by decide, fun r H1 r0 r1 b1 so1 => ?_⟩
    tm_at "go"
    refine ite2 (fun c => ?_) (fun c => ?_)
    · tm_at "go"
      refine fun p np => ?_
      refine ⟨st, l, p, heads9, rfl, so1.new np, SqL.of upd_same, by decide, by decide, fun z H2 hz b2 so2 => ?_⟩
      exact q _ _ (wd_heads z hz) (by tm_at "but") so2
    tm_at "go"
    refine ite2 (fun c => ?_) (fun c => ?_)
    · tm_at "go"
      refine ⟨st, l, 6, rfl, so1, by decide, by decide, fun r2 H2 r20 r21 b2 so2 => ?_⟩
      tm_at "go"
      obtain ⟨j, ej⟩ : ∃ j : Nat, 1 + r2 = (j : Int) := ⟨(1 + r2).toNat, by omega⟩
      refine ⟨st, l, sgA ++ sgB, j, by rw [← ej]; rfl, so2, by decide +kernel, by decide +kernel, by omega, fun z H3 hz hc b3 so3 => ?_⟩
      exact q _ _ ⟨ne_len hz (by omega), by omega, fun c hcz => wd_sg c (hc c hcz)⟩ (by tm_at "but") so3
    · tm_at "go"
      refine ⟨st, l, sgC, 1, rfl, so1, by decide +kernel, by decide +kernel, by decide, fun z H2 hz hc b2 so2 => ?_⟩
      tm_at "go"
      refine ⟨st, l, 17, rfl, so2, by decide, by decide, fun r3 H3 r30 r31 b3 so3 => ?_⟩
      obtain ⟨j, rfl⟩ : ∃ j : Nat, r3 = (j : Int) := ⟨r3.toNat, by omega⟩
      refine ⟨st, l, sgD, j, rfl, so3, by decide +kernel, by decide +kernel, by omega, fun z4 H4 hz4 hc4 b4 so4 => ?_⟩
      refine ⟨z, z4, rfl, rfl, ?_, ?_⟩
      · exact Nat.le_of_lt (small1000 (by omega))
      · refine q _ _ ⟨ne_len (sum_of hz hz4) (by omega), by rw [sum_of hz hz4]; omega, fun c hcz => ?_⟩ (by tm_at "but") so4
        rw [tl_append] at hcz
        rcases List.mem_append.mp hcz with y | y
        · exact wd_sgC c (hc c y)
        · exact wd_sgD c (hc4 c y)
end
end C
set_option Elab.async false
set_option linter.all false
set_option pp.maxSteps 1500
set_option maxRecDepth 100000
set_option maxHeartbeats 4000000
namespace C
open PySem PySem.Spec PyProof.Rows L2 Kx M TL
local macro_rules | `(tactic| tm_at "same") => `(tactic| first
  | assumption
  | exact L2.Same.refl _
  | exact L2.Same.upd (by tm_at "same") (by tm_at "free")
  | exact sameTransR (by assumption) (by tm_at "same"))
local macro_rules | `(tactic| tm_at "free") => `(tactic| first
  | assumption
  | exact sameFreeR (by assumption) (by tm_at "same"))
local macro_rules | `(tactic| tm_at "but") => `(tactic| first
  | assumption
  | exact But.refl _ _
  | exact But.transR (by assumption) (by tm_at "but")
  | exact But.upd
  | exact But.self (by tm_at "but")
  | exact But.new1 (by tm_at "but") (by assumption)
  | exact But.new (by tm_at "but") (by tm_at "free")
  | exact L2.Same.but (by assumption) _)
local macro_rules | `(tactic| tm_at "fact") => `(tactic| first
  | exact upd_same
  | assumption
  | exact SqL.of upd_same
  | exact SqT.of upd_same
  | exact SqL.of (by assumption)
  | exact SqT.of (by assumption)
  | exact But.lstR (by assumption) (by assumption) (by tm_at "but"))
local macro_rules | `(tactic| tm_at "cond") => `(tactic| first
  | rfl
  | assumption
  | decide
  | omega
  | exact ⟨by decide, by decide⟩
  | exact .inr ⟨by decide, by decide⟩
  | exact .inl ⟨by decide, by decide⟩
  | exact ⟨by decide, by decide, by decide⟩
  | exact cdivw (by assumption) (by assumption)
  | exact log2_ok (by assumption)
  | exact Or.inl ⟨rfl, _, SqL.of upd_same⟩
  | exact Or.inl ⟨rfl, _, SqL.of (by assumption)⟩
  | exact ⟨_, rfl⟩
  | exact Nat.le_of_ble_eq_true rfl
  | exact small1000 (by omega))
local macro_rules | `(tactic| tm_at "prop") => `(tactic| first
  | assumption
  | omega)
local macro_rules | `(tactic| tm_at "s") => `(tactic| first
  | refine ⟨_, rfl, ?_⟩
  | refine ⟨_, _, rfl, rfl, ?_⟩
  | refine ⟨_, _, _, rfl, rfl, (by tm_at "fact"), (by tm_at "cond"), ?_⟩
  | refine ⟨_, _, _, _, rfl, rfl, (by tm_at "fact"), rfl, ?_⟩
  | refine ⟨_, _, rfl, (by tm_at "fact"), ?_⟩
  | refine And.intro (by tm_at "cond") ?_
  | refine .inl ⟨_, rfl, ?_⟩
  | refine ⟨_, _, rfl, .inl (by tm_at "fact"), ?_⟩
  | refine dec_false (by tm_at "prop") ?_
  | refine dec_true (by tm_at "prop") ?_
  | refine decN_false (by tm_at "prop") ?_
  | refine decN_true (by tm_at "prop") ?_
  | refine iteT ?_
  | refine iteF ?_
  | refine ⟨_, _, rfl, ?_⟩)
local macro_rules | `(tactic| tm_at "go") => `(tactic| repeat tm_at "s")

section
variable {P : Program} {w : World} {K : PySem.W.Frag} {mg : Str → Option Value} {base : Heap} {aH aR : Addr}
/-! ### a drawn name of a form -/
def names10 : List Str := ["l.@n", "r.@n", "l..count", "r..count", "l.@#a", "r..result", "l.i", "l.p.f", "?1", "r..#a"]
theorem names_ok : ∀ z ∈ names10, isN z = true ∧ z.length ≤ 11 := by decide +kernel
theorem nameOk_of {z y : Str} {m : Nat} (hz : z.length = 1) (hc : ∀ c ∈ tl z, c ∈ nh) (hy : y.length = m) (hm : m ≤ 10) (hd : ∀ c ∈ tl y, c ∈ nh ∨ c ∈ dg) : NameOk (z ++ y) ∧ (z ++ y).length ≤ 11 := by
  refine ⟨⟨?_, by rw [M.len_app]; omega⟩, by rw [M.len_app]; omega⟩
  obtain ⟨c, e⟩ : ∃ c, tl z = [c] := by
    rw [len_tl] at hz
    match tl z, hz with
    | [c], _ => exact ⟨c, rfl⟩
  show isNL (tl (z ++ y)) = true
  rw [tl_append, e]
  show isNL (c :: tl y) = true
  unfold isNL
  rw [Bool.and_eq_true]
  refine ⟨decide_eq_true (hc c (by rw [e]; exact List.mem_singleton.mpr rfl)), List.all_eq_true.mpr fun d m => ?_⟩
  rw [Bool.or_eq_true]
  rcases hd d m with h | h
  · exact .inl (decide_eq_true h)
  · exact .inr (decide_eq_true h)
theorem sc__law_form_name : FnScope ["state", "first", "some"] ["state"] (defScope s__law_form_name) := ⟨rfl, rfl, rfl, by decide +kernel, rfl, by decide +kernel, by decide +kernel⟩
theorem ok__law_form_name {k : Nat} (D : Def K mg "_law_form_name" "_law_form_name" s__law_form_name ["state"]) (B : Bi mg) (c__law_draw : Cal P w K mg base CX0 k "_law_draw" ["state", "most"] (spDraw K))
    (c__law_one_of : Cal P w K mg base CX0 k "_law_one_of" ["state", "items"] (spOneOf K)) (c__law_text_of : Cal P w K mg base CX0 k "_law_text_of" ["state", "signs", "many"] (spTextOf K)) :
    Cal P w K mg base CX0 (k + 1) "_law_form_name" ["state"] (spGen K fun z => NameOk z ∧ z.length ≤ 11) := by
  refine D.cal fun f fd F => F.ok sc__law_form_name (fun vs H Q E h => ?_) (fun cdv A outer s H vs Q E hr h => ?_)
  · obtain ⟨st, l, rfl, _⟩ := h
    rfl
  · obtain ⟨st, l, rfl, so, q⟩ := h
    have nd := sc__law_form_name.nd
    refine ⟨_, (pss_cons (ps_set (i := 1) nd rfl (Or.inl rfl) pe_str)
      (pss_cons (ps_if (pt_cmpR op_eq (pe_cal c__law_draw (Room.mono hr (by omega)) (by rfl) (pa_cons (pv 0) (pa_cons pe_int pa_nil))) pe_int (nomark _))
        (pss_cons (ps_set (i := 2) nd rfl (Or.inl rfl) (pe_lst (pa_cons pe_str (pa_cons pe_str (pa_cons pe_str (pa_cons pe_str (pa_cons pe_str (pa_cons pe_str (pa_cons pe_str (pa_cons pe_str (pa_cons pe_str (pa_cons pe_str pa_nil))))))))))))
        (pss_one (ps_ret (pe_cal c__law_one_of (Room.mono hr (by omega)) (by rfl) (pa_cons (pv 0) (pa_cons (pv 2) pa_nil))))))
        pss_nil)
      (pss_one (ps_ret (pe_op op_add_str (pe_cal c__law_text_of (Room.mono hr (by omega)) (by rfl) (pa_cons (pv 0) (pa_cons (pv 1) (pa_cons pe_int pa_nil)))) (pe_cal c__law_text_of (Room.mono hr (by omega)) (by rfl) (pa_cons (pv 0) (pa_cons (pe_op op_add_str (pv 1) pe_str) (pa_cons (pe_cal c__law_draw (Room.mono hr (by omega)) (by rfl) (pa_cons (pv 0) (pa_cons pe_int pa_nil))) pa_nil))))))))), ?_⟩
    tm_at "go"
    refine ⟨st, l, 2, rfl, so, by decide, by decide, fun r H1 r0 r1 b1 so1 => ?_⟩
    tm_at "go"
    refine ite2 (fun c => ?_) (fun c => ?_)
    · tm_at "go"
      refine fun p np => ?_
      tm_at "go"
      refine ⟨st, l, p, names10, rfl, so1.new np, SqL.of upd_same, by decide, by decide, fun z H2 hz b2 so2 => ?_⟩
      exact q _ _ ⟨⟨(names_ok z hz).1, Nat.le_trans (names_ok z hz).2 (by decide)⟩, (names_ok z hz).2⟩ (by tm_at "but") so2
    · tm_at "go"
      refine ⟨st, l, S "abcdefghijklmnopqrstuvwxyz@#.?_", 1, rfl, so1, by decide +kernel, by decide +kernel, by decide, fun z H2 hz hc b2 so2 => ?_⟩
      tm_at "go"
      refine ⟨st, l, 6, rfl, so2, by decide, by decide, fun r3 H3 r30 r31 b3 so3 => ?_⟩
      obtain ⟨j, rfl⟩ : ∃ j : Nat, r3 = (j : Int) := ⟨r3.toNat, by omega⟩
      refine ⟨st, l, S "abcdefghijklmnopqrstuvwxyz@#.?_" ++ S "0123456789", j, rfl, so3, by decide +kernel, by decide +kernel, by omega, fun z4 H4 hz4 hc4 b4 so4 => ?_⟩
      refine ⟨z, z4, rfl, rfl, ?_, ?_⟩
      · exact Nat.le_of_lt (small1000 (by omega))
      · refine q _ _ (nameOk_of hz hc hz4 (by omega) fun c hcz => ?_) (by tm_at "but") so4
        have := hc4 c hcz
        rw [tl_append] at this
        exact List.mem_append.mp this
end
end C
set_option Elab.async false
set_option linter.all false
set_option pp.maxSteps 1500
set_option maxRecDepth 100000
set_option maxHeartbeats 4000000
namespace C
open PySem PySem.Spec PyProof.Rows L2 Kx M TL
local macro_rules | `(tactic| tm_at "same") => `(tactic| first
  | assumption
  | exact L2.Same.refl _
  | exact L2.Same.upd (by tm_at "same") (by tm_at "free")
  | exact sameTransR (by assumption) (by tm_at "same"))
local macro_rules | `(tactic| tm_at "free") => `(tactic| first
  | assumption
  | exact sameFreeR (by assumption) (by tm_at "same"))
local macro_rules | `(tactic| tm_at "but") => `(tactic| first
  | assumption
  | exact But.refl _ _
  | exact But.transR (by assumption) (by tm_at "but")
  | exact But.upd
  | exact But.self (by tm_at "but")
  | exact But.new1 (by tm_at "but") (by assumption)
  | exact But.new (by tm_at "but") (by tm_at "free")
  | exact L2.Same.but (by assumption) _)
local macro_rules | `(tactic| tm_at "fact") => `(tactic| first
  | exact upd_same
  | assumption
  | exact SqL.of upd_same
  | exact SqT.of upd_same
  | exact SqL.of (by assumption)
  | exact SqT.of (by assumption)
  | exact But.lstR (by assumption) (by assumption) (by tm_at "but"))
local macro_rules | `(tactic| tm_at "cond") => `(tactic| first
  | rfl
  | assumption
  | decide
  | omega
  | exact ⟨by decide, by decide⟩
  | exact .inr ⟨by decide, by decide⟩
  | exact .inl ⟨by decide, by decide⟩
  | exact ⟨by decide, by decide, by decide⟩
  | exact cdivw (by assumption) (by assumption)
  | exact log2_ok (by assumption)
  | exact Or.inl ⟨rfl, _, SqL.of upd_same⟩
  | exact Or.inl ⟨rfl, _, SqL.of (by assumption)⟩
  | exact ⟨_, rfl⟩
  | exact Nat.le_of_ble_eq_true rfl
  | exact small1000 (by omega))
local macro_rules | `(tactic| tm_at "prop") => `(tactic| first
  | assumption
  | omega)
local macro_rules | `(tactic| tm_at "s") => `(tactic| first
  | refine ⟨_, rfl, ?_⟩
  | refine ⟨_, _, rfl, rfl, ?_⟩
  | refine ⟨_, _, _, rfl, rfl, (by tm_at "fact"), (by tm_at "cond"), ?_⟩
  | refine ⟨_, _, _, _, rfl, rfl, (by tm_at "fact"), rfl, ?_⟩
  | refine ⟨_, _, rfl, (by tm_at "fact"), ?_⟩
  | refine And.intro (by tm_at "cond") ?_
  | refine .inl ⟨_, rfl, ?_⟩
  | refine ⟨_, _, rfl, .inl (by tm_at "fact"), ?_⟩
  | refine dec_false (by tm_at "prop") ?_
  | refine dec_true (by tm_at "prop") ?_
  | refine decN_false (by tm_at "prop") ?_
  | refine decN_true (by tm_at "prop") ?_
  | refine iteT ?_
  | refine iteF ?_
  | refine ⟨_, _, rfl, ?_⟩)
local macro_rules | `(tactic| tm_at "go") => `(tactic| repeat tm_at "s")

section
variable {P : Program} {w : World} {K : PySem.W.Frag} {mg : Str → Option Value} {base : Heap} {aH aR : Addr}
/-! ### a drawn number -/
def spNum (K : PySem.W.Frag) : Sp := fun vs H Q _ => ∃ (st l : Addr), vs = [.ref st] ∧ StOk K H st l ∧ ∀ (z : Int) H', z.natAbs ≤ 10 ^ 30 → But st H H' → StOk K H' st l → Q (.int z) H'
theorem sc__law_some_number : FnScope ["state", "pick"] ["state"] (defScope s__law_some_number) := ⟨rfl, rfl, rfl, by decide +kernel, rfl, by decide +kernel, by decide +kernel⟩
theorem ok__law_some_number {k : Nat} (D : Def K mg "_law_some_number" "_law_some_number" s__law_some_number ["state"]) (B : Bi mg) (c__law_draw : Cal P w K mg base CX0 k "_law_draw" ["state", "most"] (spDraw K)) :
    Cal P w K mg base CX0 (k + 1) "_law_some_number" ["state"] (spNum K) := by
  refine D.cal fun f fd F => F.ok sc__law_some_number (fun vs H Q E h => ?_) (fun cdv A outer s H vs Q E hr h => ?_)
  · obtain ⟨st, l, rfl, _⟩ := h
    rfl
  · obtain ⟨st, l, rfl, so, q⟩ := h
    have nd := sc__law_some_number.nd
    have e30 : (10 : Int) ^ 30 = 1000000000000000000000000000000 := by decide
    have n30 : (10 : Nat) ^ 30 = 1000000000000000000000000000000 := by decide
    have e29 : (10 : Int) ^ Int.toNat 29 = 100000000000000000000000000000 := by decide
    refine ⟨_, (pss_cons (ps_set (i := 1) nd rfl (Or.inl rfl) (pe_cal c__law_draw (Room.mono hr (by omega)) (by rfl) (pa_cons (pv 0) (pa_cons pe_int pa_nil))))
      (pss_cons (ps_if (pt_cmpR op_lt (pv 1) pe_int (nomark _))
        (pss_one (ps_ret (pe_op op_sub (pe_cal c__law_draw (Room.mono hr (by omega)) (by rfl) (pa_cons (pv 0) (pa_cons pe_int pa_nil))) pe_int)))
        pss_nil)
      (pss_cons (ps_if (pt_cmpR op_eq (pv 1) pe_int (nomark _))
        (pss_one (ps_ret (pe_op op_sub (pe_cal c__law_draw (Room.mono hr (by omega)) (by rfl) (pa_cons (pv 0) (pa_cons (pe_op op_pow pe_int pe_int) pa_nil))) (pe_op op_pow pe_int pe_int))))
        pss_nil)
      (pss_one (ps_ret (pe_op op_sub (pe_cal c__law_draw (Room.mono hr (by omega)) (by rfl) (pa_cons (pv 0) (pa_cons pe_int pa_nil))) pe_int)))))), ?_⟩
    tm_at "go"
    refine ⟨st, l, 6, rfl, so, by decide, by decide, fun r H1 r0 r1 b1 so1 => ?_⟩
    tm_at "go"
    refine ite2 (fun c => ?_) (fun c => ?_)
    · tm_at "go"
      refine ⟨st, l, 3, rfl, so1, by decide, by decide, fun r2 H2 r20 r21 b2 so2 => ?_⟩
      tm_at "go"
      exact q _ _ (by omega) (by tm_at "but") so2
    tm_at "go"
    refine ite2 (fun c => ?_) (fun c => ?_)
    · tm_at "go"
      refine ⟨st, l, 10 ^ 30, rfl, so1, by decide, by decide, fun r2 H2 r20 r21 b2 so2 => ?_⟩
      tm_at "go"
      rw [e30] at r21
      have hb : (r2 - (10 : Int) ^ Int.toNat 29).natAbs ≤ 10 ^ 30 := by
        rw [e29, n30]
        omega
      exact q _ _ hb (by tm_at "but") so2
    · tm_at "go"
      refine ⟨st, l, 40, rfl, so1, by decide, by decide, fun r2 H2 r20 r21 b2 so2 => ?_⟩
      tm_at "go"
      exact q _ _ (by omega) (by tm_at "but") so2
end
end C
set_option Elab.async false
set_option linter.all false
set_option pp.maxSteps 1500
set_option maxRecDepth 100000
set_option maxHeartbeats 4000000
namespace C
open PySem PySem.Spec PyProof.Rows L2 Kx M TL
local macro_rules | `(tactic| tm_at "same") => `(tactic| first
  | assumption
  | exact L2.Same.refl _
  | exact L2.Same.upd (by tm_at "same") (by tm_at "free")
  | exact sameTransR (by assumption) (by tm_at "same"))
local macro_rules | `(tactic| tm_at "free") => `(tactic| first
  | assumption
  | exact sameFreeR (by assumption) (by tm_at "same"))
local macro_rules | `(tactic| tm_at "but") => `(tactic| first
  | assumption
  | exact But.refl _ _
  | exact But.transR (by assumption) (by tm_at "but")
  | exact But.upd
  | exact But.self (by tm_at "but")
  | exact But.new1 (by tm_at "but") (by assumption)
  | exact But.new (by tm_at "but") (by tm_at "free")
  | exact L2.Same.but (by assumption) _)
local macro_rules | `(tactic| tm_at "fact") => `(tactic| first
  | exact upd_same
  | assumption
  | exact SqL.of upd_same
  | exact SqT.of upd_same
  | exact SqL.of (by assumption)
  | exact SqT.of (by assumption)
  | exact But.lstR (by assumption) (by assumption) (by tm_at "but"))
local macro_rules | `(tactic| tm_at "cond") => `(tactic| first
  | rfl
  | assumption
  | decide
  | omega
  | exact ⟨by decide, by decide⟩
  | exact .inr ⟨by decide, by decide⟩
  | exact .inl ⟨by decide, by decide⟩
  | exact ⟨by decide, by decide, by decide⟩
  | exact cdivw (by assumption) (by assumption)
  | exact log2_ok (by assumption)
  | exact Or.inl ⟨rfl, _, SqL.of upd_same⟩
  | exact Or.inl ⟨rfl, _, SqL.of (by assumption)⟩
  | exact ⟨_, rfl⟩
  | exact Nat.le_of_ble_eq_true rfl
  | exact small1000 (by omega))
local macro_rules | `(tactic| tm_at "prop") => `(tactic| first
  | assumption
  | omega)
local macro_rules | `(tactic| tm_at "s") => `(tactic| first
  | refine ⟨_, rfl, ?_⟩
  | refine ⟨_, _, rfl, rfl, ?_⟩
  | refine ⟨_, _, _, rfl, rfl, (by tm_at "fact"), (by tm_at "cond"), ?_⟩
  | refine ⟨_, _, _, _, rfl, rfl, (by tm_at "fact"), rfl, ?_⟩
  | refine ⟨_, _, rfl, (by tm_at "fact"), ?_⟩
  | refine And.intro (by tm_at "cond") ?_
  | refine .inl ⟨_, rfl, ?_⟩
  | refine ⟨_, _, rfl, .inl (by tm_at "fact"), ?_⟩
  | refine dec_false (by tm_at "prop") ?_
  | refine dec_true (by tm_at "prop") ?_
  | refine decN_false (by tm_at "prop") ?_
  | refine decN_true (by tm_at "prop") ?_
  | refine iteT ?_
  | refine iteF ?_
  | refine ⟨_, _, rfl, ?_⟩)
local macro_rules | `(tactic| tm_at "go") => `(tactic| repeat tm_at "s")

section
variable {P : Program} {w : World} {K : PySem.W.Frag} {mg : Str → Option Value} {base : Heap} {aH aR : Addr}
/-! ### a drawn form -/
def spFrm (K : PySem.W.Frag) : Sp := fun vs H Q _ => ∃ (st l : Addr), vs = [.ref st] ∧ StOk K H st l ∧ ∀ f v H', FOk f → FSm f → Im K H' v (fD f) → But st H H' → StOk K H' st l → Q v H'
theorem look_add : ∀ (acc : List (Str × Int)) (q : Str × Int) (n : Str), (look (addP acc q) n).natAbs ≤ (look acc n).natAbs + q.2.natAbs
  | [], q, n => by
    show (if q.1 = n then q.2 else 0).natAbs ≤ _
    by_cases e : q.1 = n
    · rw [if_pos e]
      omega
    · rw [if_neg e]
      omega
  | p :: r, q, n => by
    show (look (if p.1 = q.1 then (p.1, p.2 + q.2) :: r else p :: addP r q) n).natAbs ≤ (if p.1 = n then p.2 else look r n).natAbs + _
    have ih := look_add r q n
    by_cases e : p.1 = q.1
    · rw [if_pos e]
      show (if p.1 = n then p.2 + q.2 else look r n).natAbs ≤ _
      by_cases z : p.1 = n
      · rw [if_pos z, if_pos z]
        omega
      · rw [if_neg z, if_neg z]
        omega
    · rw [if_neg e]
      show (if p.1 = n then p.2 else look (addP r q) n).natAbs ≤ _
      by_cases z : p.1 = n
      · rw [if_pos z, if_pos z]
        omega
      · rw [if_neg z, if_neg z]
        exact ih
theorem look_tot {b : Nat} (n : Str) : ∀ (ps acc : List (Str × Int)), (∀ p ∈ ps, p.2.natAbs ≤ b) → (look (ps.foldl addP acc) n).natAbs ≤ (look acc n).natAbs + ps.length * b
  | [], acc, _ => by
    rw [List.length_nil, Nat.zero_mul]
    exact Nat.le_refl _
  | q :: r, acc, h => by
    have h1 := look_tot n r (addP acc q) fun p hp => h p (List.mem_cons_of_mem _ hp)
    have h2 := look_add acc q n
    have h3 := h q (List.mem_cons_self ..)
    rw [List.length_cons, Nat.succ_mul]
    show (look (r.foldl addP (addP acc q)) n).natAbs ≤ _
    omega
theorem tot_keys : ∀ (ps acc : List (Str × Int)) (n : Str), n ∈ (ps.foldl addP acc).map (·.1) → n ∈ acc.map (·.1) ∨ n ∈ ps.map (·.1)
  | [], acc, n, h => .inl h
  | q :: r, acc, n, h => by
    rcases tot_keys r (addP acc q) n h with z | z
    · rw [addP_keys] at z
      split at z
      · exact .inl z
      · rcases List.mem_append.mp z with y | y
        · exact .inl y
        · rw [List.mem_singleton] at y
          rw [y]
          exact .inr (List.mem_cons_self ..)
    · exact .inr (List.mem_cons_of_mem _ z)
theorem fok_tms {c : Int} {ps : List (Str × Int)} {ys : List Str} (hc : c.natAbs ≤ 10 ^ 31) (hp : ∀ p ∈ ps, NameOk p.1 ∧ p.2.natAbs ≤ 10 ^ 30) (hl : ps.length ≤ 50) (hy : ys.Perm ((totals ps).map (·.1))) (hs : ys.Pairwise sLe) : FOk (c, tms ps ys) := by
  have n40 : (10 : Nat) ^ 60 = 1000000000000000000000000000000000000000000000000000000000000 := by decide
  have n30 : (10 : Nat) ^ 30 = 1000000000000000000000000000000 := by decide
  have n31 : (10 : Nat) ^ 31 = 10000000000000000000000000000000 := by decide
  have hn : ys.Nodup := hy.nodup_iff.mpr (totals_nodup ps)
  have mem : ∀ p ∈ tms ps ys, p.1 ∈ ys ∧ p.2 = look (totals ps) p.1 ∧ p.2 ≠ 0 := by
    intro p h
    unfold tms at h
    obtain ⟨h1, h2⟩ := List.mem_filter.mp h
    obtain ⟨n, h3, rfl⟩ := List.mem_map.mp h1
    refine ⟨h3, rfl, fun e => ?_⟩
    unfold nzp at h2
    rw [decide_eq_true e] at h2
    exact absurd h2 (by decide)
  refine ⟨fun p h => ?_, fun p h => (mem p h).2.2, fun p h => ?_, ?_, ?_, ?_⟩
  · have h1 := hy.subset (mem p h).1
    rcases tot_keys ps [] _ h1 with z | z
    · cases z
    · obtain ⟨q, h2, h3⟩ := List.mem_map.mp z
      rw [← h3]
      exact (hp q h2).1
  · rw [(mem p h).2.1]
    have := look_tot (b := 10 ^ 30) p.1 ps [] fun q h => (hp q h).2
    show (look (ps.foldl addP []) p.1).natAbs < _
    have e : (look [] p.1).natAbs = 0 := rfl
    rw [e] at this
    have h5 : ps.length * 10 ^ 30 ≤ 50 * 10 ^ 30 := Nat.mul_le_mul_right _ hl
    rw [n30] at h5 this
    rw [n40]
    omega
  · have e : (tms ps ys).map (·.1) = ys.filter fun n => nzp (n, look (totals ps) n) := by
      unfold tms
      rw [List.filter_map, List.map_map]
      show List.map (fun n => n) _ = _
      rw [List.map_id']
      rfl
    show ((tms ps ys).map (·.1)).Pairwise sLt
    rw [e]
    exact (le_lt hs hn).filter _
  · show c.natAbs < _
    rw [n40]
    rw [n31] at hc
    omega
  · show (tms ps ys).length ≤ 50
    have h1 : (tms ps ys).length ≤ ys.length := by
      unfold tms
      refine Nat.le_trans (List.length_filter_le _ _) ?_
      rw [List.length_map]
      exact Nat.le_refl _
    have h2 := hy.length_eq
    rw [List.length_map] at h2
    have h3 := totals_len ps
    omega
theorem fsm_tms {c : Int} {ps : List (Str × Int)} {ys : List Str} (hc : c.natAbs ≤ 10 ^ 31) (hp : ∀ p ∈ ps, p.1.length ≤ 11 ∧ p.2.natAbs ≤ 10 ^ 30) (hl : ps.length ≤ 5) (hy : ys.Perm ((totals ps).map (·.1))) : FSm (c, tms ps ys) := by
  have n32 : (10 : Nat) ^ 32 = 100000000000000000000000000000000 := by decide
  have n30 : (10 : Nat) ^ 30 = 1000000000000000000000000000000 := by decide
  have n31 : (10 : Nat) ^ 31 = 10000000000000000000000000000000 := by decide
  have mem : ∀ p ∈ tms ps ys, p.1 ∈ ys ∧ p.2 = look (totals ps) p.1 := by
    intro p h
    unfold tms at h
    obtain ⟨h1, h2⟩ := List.mem_filter.mp h
    obtain ⟨n, h3, rfl⟩ := List.mem_map.mp h1
    exact ⟨h3, rfl⟩
  refine ⟨fun p h => ⟨?_, ?_⟩, ?_, ?_⟩
  · have h1 := hy.subset (mem p h).1
    rcases tot_keys ps [] _ h1 with z | z
    · cases z
    · obtain ⟨q, h2, h3⟩ := List.mem_map.mp z
      rw [← h3]
      exact (hp q h2).1
  · rw [(mem p h).2]
    have := look_tot (b := 10 ^ 30) p.1 ps [] fun q h => (hp q h).2
    show (look (ps.foldl addP []) p.1).natAbs < _
    have e : (look [] p.1).natAbs = 0 := rfl
    rw [e] at this
    have h5 : ps.length * 10 ^ 30 ≤ 5 * 10 ^ 30 := Nat.mul_le_mul_right _ hl
    rw [n30] at h5 this
    rw [n32]
    omega
  · show c.natAbs < _
    rw [n32]
    rw [n31] at hc
    omega
  · show (tms ps ys).length ≤ 5
    have h1 : (tms ps ys).length ≤ ys.length := by
      unfold tms
      refine Nat.le_trans (List.length_filter_le _ _) ?_
      rw [List.length_map]
      exact Nat.le_refl _
    have h2 := hy.length_eq
    rw [List.length_map] at h2
    have h3 := totals_len ps
    omega
theorem sc__law_some_form : FnScope ["state", "pairs", "k"] ["state"] (defScope s__law_some_form) := ⟨rfl, rfl, rfl, by decide +kernel, rfl, by decide +kernel, by decide +kernel⟩
theorem ok__law_some_form {k : Nat} (D : Def K mg "_law_some_form" "_law_some_form" s__law_some_form ["state"]) (B : Bi mg) (c__law_draw : Cal P w K mg base CX0 k "_law_draw" ["state", "most"] (spDraw K))
    (c__law_form_name : Cal P w K mg base CX0 k "_law_form_name" ["state"] (spGen K fun z => NameOk z ∧ z.length ≤ 11)) (c__law_some_number : Cal P w K mg base CX0 k "_law_some_number" ["state"] (spNum K)) (c__law_form : Cal P w K mg base CX0 k "_law_form" ["constant", "pairs"] (spForm K)) :
    Cal P w K mg base CX0 (k + 1) "_law_some_form" ["state"] (spFrm K) := by
  refine D.cal fun f fd F => F.ok sc__law_some_form (fun vs H Q E h => ?_) (fun cdv A outer s H vs Q E hr h => ?_)
  · obtain ⟨st, l, rfl, _⟩ := h
    rfl
  · obtain ⟨st, l, rfl, so, q⟩ := h
    have nd := sc__law_some_form.nd
    refine ⟨_, (pss_cons (ps_setLc (i := 1) (own := [("k", 2)]) rfl nd rfl rfl (sw_true rfl rfl rfl (by decide +kernel)) (pi_range1 (by rfl) B.range (pa_cons (pe_cal c__law_draw (Room.mono hr (by omega)) (by rfl) (pa_cons (pv 0) (pa_cons pe_int pa_nil))) pa_nil)) (blkOk_by (own := [("k", 2)]) (N := ["state", "pairs", "k"]) (sc := defScope s__law_some_form) (by decide +kernel)) (fun _ _ _ _ _ => (pg_name (i := 2) nd rfl (Or.inl rfl))) (fun _ _ _ _ _ => pts_nil) (fun _ _ _ _ _ => (pe_tup (pa_cons (pe_cal c__law_form_name (Room.mono hr (by omega)) (by rfl) (pa_cons (pv 0) pa_nil)) (pa_cons (pe_cal c__law_some_number (Room.mono hr (by omega)) (by rfl) (pa_cons (pv 0) pa_nil)) pa_nil)))))
      (pss_one (ps_ret (pe_cal c__law_form (Room.mono hr (by omega)) (by rfl) (pa_cons (pe_op op_mul (pe_cal c__law_some_number (Room.mono hr (by omega)) (by rfl) (pa_cons (pv 0) pa_nil)) (pe_cal c__law_draw (Room.mono hr (by omega)) (by rfl) (pa_cons (pv 0) (pa_cons pe_int pa_nil)))) (pa_cons (pv 1) pa_nil)))))), ?_⟩
    tm_at "go"
    refine ⟨st, l, 5, rfl, so, by decide, by decide, fun r H1 r0 r1 b1 so1 => ?_⟩
    obtain ⟨j, rfl⟩ : ∃ j : Nat, r = (j : Int) := ⟨r.toNat, by omega⟩
    refine ⟨_, rfl, by omega, by omega, fun D nD => ?_⟩
    have nsD := so1.ne nD
    refine lc_it walk_range (fun i H' => But st H1 H' ∧ StOk K H' st l ∧ ∃ (vs : List V) (ps : List (Str × Int)), H' D = some (.lst vs) ∧ Ims K H' vs (ps.map pD) ∧ ps.length = i ∧ ∀ p ∈ ps, (NameOk p.1 ∧ p.1.length ≤ 11) ∧ p.2.natAbs ≤ 10 ^ 30) ⟨(same_new nD).but st, so1.new nD, [], [], upd_same, .nil, rfl, fun _ h => by cases h⟩ (fun _ _ _ _ => trivial) ?_ ?_
    · rintro i v Hx Hy hlt ⟨bx, sox, vs, ps, hDx, hi, hl, hc⟩ ⟨rfl, rfl⟩
      refine ⟨rfl, ?_⟩
      tm_at "go"
      refine fun n H2 hn b2 so2 => ?_
      tm_at "go"
      refine fun z H3 hz b3 so3 => ?_
      have hD3 : H3 D = some (.lst vs) := b3 _ _ nsD.symm (b2 _ _ nsD.symm hDx)
      have hlv := hi.length
      rw [List.length_map] at hlv
      tm_at "go"
      refine fun t nt => ⟨vs, ?_, small1000 (by omega), ?_⟩
      · rw [upd_ne (ne_of_none hD3 nt)]
        exact hD3
      · refine ⟨(((bx.trans b2).trans b3).new1 nt).new nD, so1.grow nD (so3.new nt), _, ps ++ [(n, z)], upd_same, ?_, ?_, ?_⟩
        · rw [List.map_append]
          have t1 : TK Hy H3 := sox.tk (b2.trans b3)
          have t2 : TK H3 (upd H3 t (.tup [.str n, .int z])) := TK.new nt
          have hD4 : upd H3 t (.tup [.str n, .int z]) D = some (.lst vs) := by
            rw [upd_ne (ne_of_none hD3 nt)]
            exact hD3
          refine Ims.snoc ((t1.trans (t2.trans (TK.lst hD4))).ims hi) (pD_of (SqT.of ?_))
          rw [upd_ne (ne_of_none hD3 nt).symm, upd_same]
        · rw [List.length_append, hl]
          rfl
        · intro p hp
          rcases List.mem_append.mp hp with y | y
          · exact hc p y
          · rw [List.mem_singleton] at y
            rw [y]
            exact ⟨hn, hz⟩
    · rintro H2 ⟨bx, sox, vs, ps, hDx, hi, hl, hc⟩
      tm_at "go"
      refine fun z H3 hz b3 so3 => ?_
      tm_at "go"
      refine ⟨st, l, 2, rfl, so3, by decide, by decide, fun r4 H4 r40 r41 b4 so4 => ?_⟩
      refine ⟨_, _, rfl, rfl, .inr ⟨by omega, by omega⟩, ?_⟩
      tm_at "go"
      have hD4 : H4 D = some (.lst vs) := b4 _ _ nsD.symm (b3 _ _ nsD.symm hDx)
      have t1 : TK H2 H4 := sox.tk (b3.trans b4)
      refine ⟨_, D, vs, ps, rfl, SqL.of hD4, t1.ims hi, by omega, fun r5 H5 ys hp hs s5 hr => ?_⟩
      have hc2 : (z * r4).natAbs ≤ 10 ^ 31 := by
        have : r4 = 0 ∨ r4 = 1 := by omega
        have n30 : (10 : Nat) ^ 30 = 1000000000000000000000000000000 := by decide
        have n31 : (10 : Nat) ^ 31 = 10000000000000000000000000000000 := by decide
        rw [n30] at hz
        rw [n31]
        rcases this with e | e <;> subst e <;> omega
      exact q _ _ _ (fok_tms hc2 (fun p h => ⟨(hc p h).1.1, (hc p h).2⟩) (by omega) hp hs) (fsm_tms hc2 (fun p h => ⟨(hc p h).1.2, (hc p h).2⟩) (by omega) hp) hr ((((b1.trans bx).trans b3).trans b4).trans (s5.but st)) (so4.same s5)
end
end C
set_option Elab.async false
set_option linter.all false
set_option pp.maxSteps 1500
set_option maxRecDepth 100000
set_option maxHeartbeats 4000000
namespace C
open PySem PySem.Spec PyProof.Rows L2 Kx M TL
local macro_rules | `(tactic| tm_at "same") => `(tactic| first
  | assumption
  | exact L2.Same.refl _
  | exact L2.Same.upd (by tm_at "same") (by tm_at "free")
  | exact sameTransR (by assumption) (by tm_at "same"))
local macro_rules | `(tactic| tm_at "free") => `(tactic| first
  | assumption
  | exact sameFreeR (by assumption) (by tm_at "same"))
local macro_rules | `(tactic| tm_at "but") => `(tactic| first
  | assumption
  | exact But.refl _ _
  | exact But.transR (by assumption) (by tm_at "but")
  | exact But.upd
  | exact But.self (by tm_at "but")
  | exact But.new1 (by tm_at "but") (by assumption)
  | exact But.new (by tm_at "but") (by tm_at "free")
  | exact L2.Same.but (by assumption) _)
local macro_rules | `(tactic| tm_at "fact") => `(tactic| first
  | exact upd_same
  | assumption
  | exact SqL.of upd_same
  | exact SqT.of upd_same
  | exact SqL.of (by assumption)
  | exact SqT.of (by assumption)
  | exact But.lstR (by assumption) (by assumption) (by tm_at "but"))
local macro_rules | `(tactic| tm_at "cond") => `(tactic| first
  | rfl
  | assumption
  | decide
  | omega
  | exact ⟨by decide, by decide⟩
  | exact .inr ⟨by decide, by decide⟩
  | exact .inl ⟨by decide, by decide⟩
  | exact ⟨by decide, by decide, by decide⟩
  | exact cdivw (by assumption) (by assumption)
  | exact log2_ok (by assumption)
  | exact Or.inl ⟨rfl, _, SqL.of upd_same⟩
  | exact Or.inl ⟨rfl, _, SqL.of (by assumption)⟩
  | exact ⟨_, rfl⟩
  | exact Nat.le_of_ble_eq_true rfl
  | exact small1000 (by omega))
local macro_rules | `(tactic| tm_at "prop") => `(tactic| first
  | assumption
  | omega)
local macro_rules | `(tactic| tm_at "s") => `(tactic| first
  | refine ⟨_, rfl, ?_⟩
  | refine ⟨_, _, rfl, rfl, ?_⟩
  | refine ⟨_, _, _, rfl, rfl, (by tm_at "fact"), (by tm_at "cond"), ?_⟩
  | refine ⟨_, _, _, _, rfl, rfl, (by tm_at "fact"), rfl, ?_⟩
  | refine ⟨_, _, rfl, (by tm_at "fact"), ?_⟩
  | refine And.intro (by tm_at "cond") ?_
  | refine .inl ⟨_, rfl, ?_⟩
  | refine ⟨_, _, rfl, .inl (by tm_at "fact"), ?_⟩
  | refine dec_false (by tm_at "prop") ?_
  | refine dec_true (by tm_at "prop") ?_
  | refine decN_false (by tm_at "prop") ?_
  | refine decN_true (by tm_at "prop") ?_
  | refine iteT ?_
  | refine iteF ?_
  | refine ⟨_, _, rfl, ?_⟩)
local macro_rules | `(tactic| tm_at "go") => `(tactic| repeat tm_at "s")

section
variable {P : Program} {w : World} {K : PySem.W.Frag} {mg : Str → Option Value} {base : Heap} {aH aR : Addr}
/-! ### drawn forms -/
def spFrms (K : PySem.W.Frag) : Sp := fun vs H Q _ => ∃ (st l : Addr), vs = [.ref st] ∧ StOk K H st l ∧ ∀ (fs : List Form) v H', fs.length ≤ 2 → (∀ f ∈ fs, FOk f ∧ FSm f) → Im K H' v (.tuple (fs.map fD)) → But st H H' → StOk K H' st l → Q v H'
theorem sc__law_some_forms : FnScope ["state", "k"] ["state"] (defScope s__law_some_forms) := ⟨rfl, rfl, rfl, by decide +kernel, rfl, by decide +kernel, by decide +kernel⟩
theorem ok__law_some_forms {k : Nat} (D : Def K mg "_law_some_forms" "_law_some_forms" s__law_some_forms ["state"]) (B : Bi mg) (c__law_draw : Cal P w K mg base CX0 k "_law_draw" ["state", "most"] (spDraw K))
    (c__law_some_form : Cal P w K mg base CX0 k "_law_some_form" ["state"] (spFrm K)) : Cal P w K mg base CX0 (k + 1) "_law_some_forms" ["state"] (spFrms K) := by
  refine D.cal fun f fd F => F.ok sc__law_some_forms (fun vs H Q E h => ?_) (fun cdv A outer s H vs Q E hr h => ?_)
  · obtain ⟨st, l, rfl, _⟩ := h
    rfl
  · obtain ⟨st, l, rfl, so, q⟩ := h
    have nd := sc__law_some_forms.nd
    refine ⟨_, (pss_one (ps_ret (pe_callTy call_tuple_of (by rfl) B.tuple (by decide +kernel) (pa_cons (pe_lc (own := [("k", 1)]) (by rfl) nd (pi_range1 (by rfl) B.range (pa_cons (pe_cal c__law_draw (Room.mono hr (by omega)) (by rfl) (pa_cons (pv 0) (pa_cons pe_int pa_nil))) pa_nil)) (blkOk_by (own := [("k", 1)]) (N := ["state", "k"]) (sc := defScope s__law_some_forms) (by decide +kernel)) (fun _ _ _ _ _ => (pg_name (i := 1) nd rfl (Or.inl rfl))) (fun _ _ _ _ _ => pts_nil) (fun _ _ _ _ _ => (pe_cal c__law_some_form (Room.mono hr (by omega)) (by rfl) (pa_cons (pv 0) pa_nil)))) pa_nil)))), ?_⟩
    tm_at "go"
    refine ⟨st, l, 3, rfl, so, by decide, by decide, fun r H1 r0 r1 b1 so1 => ?_⟩
    obtain ⟨j, rfl⟩ : ∃ j : Nat, r = (j : Int) := ⟨r.toNat, by omega⟩
    refine ⟨_, rfl, by omega, by omega, fun D nD => ?_⟩
    have nsD := so1.ne nD
    refine lc_it walk_range (fun i H' => But st H1 H' ∧ StOk K H' st l ∧ ∃ (vs : List V) (fs : List Form), H' D = some (.lst vs) ∧ Ims K H' vs (fs.map fD) ∧ fs.length = i ∧ ∀ f ∈ fs, FOk f ∧ FSm f) ⟨(same_new nD).but st, so1.new nD, [], [], upd_same, .nil, rfl, fun _ h => by cases h⟩ (fun _ _ _ _ => trivial) ?_ ?_
    · rintro i v Hx Hy hlt ⟨bx, sox, vs, fs, hDx, hi, hl, hc⟩ ⟨rfl, rfl⟩
      refine ⟨rfl, ?_⟩
      tm_at "go"
      refine fun f v H2 hf hs hv b2 so2 => ?_
      have hD2 : H2 D = some (.lst vs) := b2 _ _ nsD.symm hDx
      have hlv := hi.length
      rw [List.length_map] at hlv
      refine ⟨vs, hD2, small1000 (by omega), ?_⟩
      refine ⟨(bx.trans b2).new nD, so1.grow nD so2, _, fs ++ [f], upd_same, ?_, ?_, ?_⟩
      · rw [List.map_append]
        have t2 : TK H2 (upd H2 D (.lst (vs ++ [v]))) := TK.lst hD2
        exact Ims.snoc (((sox.tk b2).trans t2).ims hi) (t2.im hv)
      · rw [List.length_append, hl]
        rfl
      · intro p hp
        rcases List.mem_append.mp hp with y | y
        · exact hc p y
        · rw [List.mem_singleton] at y
          rw [y]
          exact ⟨hf, hs⟩
    · rintro H2 ⟨bx, sox, vs, fs, hDx, hi, hl, hc⟩
      refine ⟨D, vs, rfl, .inl ⟨SqL.of hDx, fun u nu => ?_⟩⟩
      exact q fs _ _ (by omega) hc (.tup (SqT.of upd_same) ((TK.new nu).ims hi)) ((b1.trans bx).new1 nu) (sox.new nu)
end
end C
set_option Elab.async false
set_option linter.all false
set_option pp.maxSteps 1500
set_option maxRecDepth 100000
set_option maxHeartbeats 4000000
namespace C
open PySem PySem.Spec PyProof.Rows L2 Kx M TL
local macro_rules | `(tactic| tm_at "same") => `(tactic| first
  | assumption
  | exact L2.Same.refl _
  | exact L2.Same.upd (by tm_at "same") (by tm_at "free")
  | exact sameTransR (by assumption) (by tm_at "same"))
local macro_rules | `(tactic| tm_at "free") => `(tactic| first
  | assumption
  | exact sameFreeR (by assumption) (by tm_at "same"))
local macro_rules | `(tactic| tm_at "but") => `(tactic| first
  | assumption
  | exact But.refl _ _
  | exact But.transR (by assumption) (by tm_at "but")
  | exact But.upd
  | exact But.self (by tm_at "but")
  | exact But.new1 (by tm_at "but") (by assumption)
  | exact But.new (by tm_at "but") (by tm_at "free")
  | exact L2.Same.but (by assumption) _)
local macro_rules | `(tactic| tm_at "fact") => `(tactic| first
  | exact upd_same
  | assumption
  | exact SqL.of upd_same
  | exact SqT.of upd_same
  | exact SqL.of (by assumption)
  | exact SqT.of (by assumption)
  | exact But.lstR (by assumption) (by assumption) (by tm_at "but"))
local macro_rules | `(tactic| tm_at "cond") => `(tactic| first
  | rfl
  | assumption
  | decide
  | omega
  | exact ⟨by decide, by decide⟩
  | exact .inr ⟨by decide, by decide⟩
  | exact .inl ⟨by decide, by decide⟩
  | exact ⟨by decide, by decide, by decide⟩
  | exact cdivw (by assumption) (by assumption)
  | exact log2_ok (by assumption)
  | exact Or.inl ⟨rfl, _, SqL.of upd_same⟩
  | exact Or.inl ⟨rfl, _, SqL.of (by assumption)⟩
  | exact ⟨_, rfl⟩
  | exact Nat.le_of_ble_eq_true rfl
  | exact small1000 (by omega))
local macro_rules | `(tactic| tm_at "prop") => `(tactic| first
  | assumption
  | omega)
local macro_rules | `(tactic| tm_at "s") => `(tactic| first
  | refine ⟨_, rfl, ?_⟩
  | refine ⟨_, _, rfl, rfl, ?_⟩
  | refine ⟨_, _, _, rfl, rfl, (by tm_at "fact"), (by tm_at "cond"), ?_⟩
  | refine ⟨_, _, _, _, rfl, rfl, (by tm_at "fact"), rfl, ?_⟩
  | refine ⟨_, _, rfl, (by tm_at "fact"), ?_⟩
  | refine And.intro (by tm_at "cond") ?_
  | refine .inl ⟨_, rfl, ?_⟩
  | refine ⟨_, _, rfl, .inl (by tm_at "fact"), ?_⟩
  | refine dec_false (by tm_at "prop") ?_
  | refine dec_true (by tm_at "prop") ?_
  | refine decN_false (by tm_at "prop") ?_
  | refine decN_true (by tm_at "prop") ?_
  | refine iteT ?_
  | refine iteF ?_
  | refine ⟨_, _, rfl, ?_⟩)
local macro_rules | `(tactic| tm_at "go") => `(tactic| repeat tm_at "s")

section
variable {P : Program} {w : World} {K : PySem.W.Frag} {mg : Str → Option Value} {base : Heap} {aH aR : Addr}
theorem atI_neg1 {xs : List V} {v : V} (h : xs[xs.length - 1]? = some v) : atI xs (-1) = some v := by
  cases e : xs.reverse with
  | nil =>
    rw [List.reverse_eq_nil_iff] at e
    subst e
    cases h
  | cons y r =>
    have e2 : xs = r.reverse ++ [y] := by
      rw [← List.reverse_reverse xs, e, List.reverse_cons]
    subst e2
    rw [List.length_append, List.length_singleton, Nat.add_sub_cancel, List.getElem?_append_right (Nat.le_refl _), Nat.sub_self] at h
    cases h
    exact atI_last _ _
/-! ### drawn pairs -/
def spPrs (K : PySem.W.Frag) : Sp := fun vs H Q _ => ∃ (st l : Addr), vs = [.ref st] ∧ StOk K H st l ∧ ∀ (ps : List (Str × Str)) v H', ps.length ≤ 3 → ps.Nodup → (∀ p ∈ ps, Wd p.1 ∧ Wd p.2) → Im K H' v (.tuple (ps.map qD)) → But st H H' → StOk K H' st l → Q v H'
theorem sc__law_some_pairs : FnScope ["state", "found", "k", "pair"] ["state"] (defScope s__law_some_pairs) := ⟨rfl, rfl, rfl, by decide +kernel, rfl, by decide +kernel, by decide +kernel⟩
theorem ok__law_some_pairs {k : Nat} (D : Def K mg "_law_some_pairs" "_law_some_pairs" s__law_some_pairs ["state"]) (B : Bi mg) (c__law_draw : Cal P w K mg base CX0 k "_law_draw" ["state", "most"] (spDraw K))
    (c__law_any_word : Cal P w K mg base CX0 k "_law_any_word" ["state"] (spGen K Wd)) : Cal P w K mg base CX0 (k + 1) "_law_some_pairs" ["state"] (spPrs K) := by
  refine D.cal fun f fd F => F.ok sc__law_some_pairs (fun vs H Q E h => ?_) (fun cdv A outer s H vs Q E hr h => ?_)
  · obtain ⟨st, l, rfl, _⟩ := h
    rfl
  · obtain ⟨st, l, rfl, so, q⟩ := h
    have nd := sc__law_some_pairs.nd
    refine ⟨_, (pss_cons (ps_set (i := 1) nd rfl (Or.inl rfl) (pe_lst pa_nil))
      (pss_cons (ps_for PassesOwn.never rfl (pi_range1 (by rfl) B.range (pa_cons (pe_cal c__law_draw (Room.mono hr (by omega)) (by rfl) (pa_cons (pv 0) (pa_cons pe_int pa_nil))) pa_nil)) (pg_name (i := 2) nd rfl (Or.inl rfl))
        (pss_cons (ps_set (i := 3) nd rfl (Or.inl rfl) (pe_tup (pa_cons (pe_cal c__law_any_word (Room.mono hr (by omega)) (by rfl) (pa_cons (pv 0) pa_nil)) (pa_cons (pe_cal c__law_any_word (Room.mono hr (by omega)) (by rfl) (pa_cons (pv 0) pa_nil)) pa_nil))))
        (C8.pss_cut (ps_if (PW.pt (pw_and (pt_cmpR op_eq (pe_cal c__law_draw (Room.mono hr (by omega)) (by rfl) (pa_cons (pv 0) (pa_cons pe_int pa_nil))) pe_int (nomark _)) (pw_and1 (pt_cmpR (op_neD hr.units) (pv 1) (pe_lst pa_nil) (nomark _)))))
          (pss_one (ps_set (i := 3) nd rfl (Or.inl rfl) (pe_tup (pa_cons (pe_ix ix_tup (pe_ix ix_list (pv 1) pe_int (fun _ _ => rfl)) pe_int (fun _ _ => rfl)) (pa_cons (pe_ix ix_tup (pe_ix ix_list (pv 1) (pe_un un_neg pe_int) (fun _ _ => rfl)) pe_int (fun _ _ => rfl)) pa_nil)))))
          pss_nil)
        (pss_one (ps_if (pt_cmpR (op_notInD (in_room hr)) (pv 3) (pv 1) (by rfl))
          (pss_one (ps_expr (pe_bm PySem.F.plainAttrs_list PySem.F.slot_list_append PySem.F.type_list_append mt_append (pv 1) (pa_cons (pv 3) pa_nil))))
          pss_nil)))))
      (pss_one (ps_ret (pe_callTy call_tuple_of (by rfl) B.tuple (by decide +kernel) (pa_cons (pv 1) pa_nil)))))), ?_⟩
    tm_at "go"
    refine fun a na => ?_
    tm_at "go"
    have nsa := so.ne na
    refine ⟨st, l, 4, rfl, so.new na, by decide, by decide, fun r H1 r0 r1 b1 so1 => ?_⟩
    have ha1 : H1 a = some (.lst []) := b1 _ _ nsa.symm upd_same
    have b01 : But st H H1 := ((same_new na).but st).trans b1
    obtain ⟨j, rfl⟩ : ∃ j : Nat, r = (j : Int) := ⟨r.toNat, by omega⟩
    refine ⟨_, rfl, by omega, by omega, ?_⟩
    refine for_it walk_range (fun i σ H' => ∃ v1 v2, σ = [some (.ref st), some (.ref a), v1, v2] ∧ But st H H' ∧ StOk K H' st l ∧ ∃ (vs : List V) (ps : List (Str × Str)), H' a = some (.lst vs) ∧ Ims K H' vs (ps.map qD) ∧ ps.length ≤ i ∧ ps.Nodup ∧ ∀ p ∈ ps, Wd p.1 ∧ Wd p.2) ⟨_, _, rfl, b01, so1, [], [], ha1, .nil, Nat.le_refl _, List.nodup_nil, fun _ h => by cases h⟩ (fun _ _ _ _ _ => trivial) ?_ ?_
    · rintro i v σ Hx Hy hlt ⟨v1, v2, rfl, bx, sox, vs, ps, hax, hi, hl, hn, hc⟩ ⟨rfl, rfl⟩
      have hlv := hi.length
      rw [List.length_map] at hlv
      have hok : ∀ p ∈ ps, Ok p.1 ∧ Ok p.2 := fun p hp => ⟨.of fun c h => ((hc p hp).1.2.2 c h).2, .of fun c h => ((hc p hp).2.2.2 c h).2⟩
      tm_at "go"
      refine fun z1 H2 hz1 b2 so2 => ?_
      tm_at "go"
      refine fun z2 H3 hz2 b3 so3 => ?_
      tm_at "go"
      refine fun t nt => ?_
      have ha3 : H3 a = some (.lst vs) := b3 _ _ nsa.symm (b2 _ _ nsa.symm hax)
      have ha3t : upd H3 t (.tup [.str z1, .str z2]) a = some (.lst vs) := by
        rw [upd_ne (ne_of_none ha3 nt)]
        exact ha3
      have k3 : TK Hy (upd H3 t (.tup [.str z1, .str z2])) := (sox.tk (b2.trans b3)).trans (TK.new nt)
      have nst3 := so3.ne nt
      refine ⟨fun σ H' => ∃ x y t' v5, σ = [some (.ref st), some (.ref a), v5, some (.ref t')] ∧ But st H H' ∧ StOk K H' st l ∧ H' a = some (.lst vs) ∧ Ims K H' vs (ps.map qD) ∧ Wd x ∧ Wd y ∧ H' t' = some (.tup [.str x, .str y]), ?_, ?_⟩
      · tm_at "go"
        refine ⟨st, l, 3, rfl, so3.new nt, by decide, by decide, fun r4 H4 r40 r41 b4 so4 => ?_⟩
        have ha4 := b4 _ _ nsa.symm ha3t
        have k4 : TK Hy H4 := k3.trans ((so3.new nt).tk b4)
        have ht4 : H4 t = some (.tup [.str z1, .str z2]) := b4 _ _ nst3.symm upd_same
        have bb4 : But st H H4 := (((bx.trans b2).trans b3).new1 nt).trans b4
        tm_at "go"
        refine ite2 (fun c => ?_) (fun c => ?_)
        · tm_at "go"
          refine fun p np => ?_
          have ha5 : upd H4 p (.lst []) a = some (.lst vs) := by
            rw [upd_ne (ne_of_none ha4 np)]
            exact ha4
          have k5 : TK Hy (upd H4 p (.lst [])) := k4.trans (TK.new np)
          refine ⟨.list (ps.map qD), .list [], .lst (SqL.of ha5) (Ims.dp _ (k5.ims hi)), .lst (SqL.of upd_same) .nil, shaped_qs hok, by decide, ?_⟩
          rw [eqv_qs_nil]
          refine ⟨_, rfl, ?_⟩
          refine ite2 (fun c2 => ?_) (fun c2 => ?_)
          · have hne : ps ≠ [] := fun e => by
              rw [decide_eq_true e] at c2
              exact absurd c2 (by decide)
            have h0 : 0 < ps.length := by
              cases ps with
              | nil => exact absurd rfl hne
              | cons _ _ => exact Nat.succ_pos _
            obtain ⟨w0, hw0, iw0⟩ := Ims.get' hi (i := 0) (d := qD ps[0]) (by rw [List.getElem?_map, List.getElem?_eq_getElem h0]; rfl)
            obtain ⟨w1, hw1, iw1⟩ := Ims.get' hi (i := ps.length - 1) (d := qD ps[ps.length - 1]) (by rw [List.getElem?_map, List.getElem?_eq_getElem (by omega)]; rfl)
            obtain ⟨t0, rfl, ht0⟩ := qD_inv (k5.im iw0)
            obtain ⟨t1, rfl, ht1⟩ := qD_inv (k5.im iw1)
            have e0 : atI vs 0 = some (.ref t0) := atI_nat (j := 0) hw0
            have e1 : atI vs (-1) = some (.ref t1) := atI_neg1 (by rw [hlv]; exact hw1)
            tm_at "go"
            refine ⟨_, _, _, _, rfl, rfl, SqL.of ha5, e0, ?_⟩
            tm_at "go"
            refine ⟨_, _, _, _, rfl, rfl, SqL.of ha5, e1, ?_⟩
            tm_at "go"
            refine fun t6 nt6 => ?_
            have hm0 := hc _ (List.getElem_mem h0)
            have hm1 := hc _ (List.getElem_mem (show ps.length - 1 < ps.length by omega))
            have ha6 : upd (upd H4 p (.lst [])) t6 (.tup [.str ps[0].2, .str ps[ps.length - 1].1]) a = some (.lst vs) := by
              rw [upd_ne (ne_of_none ha5 nt6)]
              exact ha5
            exact ⟨_, _, t6, _, rfl, (bb4.new1 np).new1 nt6, (so4.new np).new nt6, ha6, (k5.trans (TK.new nt6)).ims hi, hm0.2, hm1.1, upd_same⟩
          · tm_at "go"
            exact ⟨z1, z2, t, _, rfl, bb4.new1 np, so4.new np, ha5, k5.ims hi, hz1, hz2, same_new np _ _ ht4⟩
        · refine iteF ?_
          exact ⟨z1, z2, t, _, rfl, bb4, so4, ha4, k4.ims hi, hz1, hz2, ht4⟩
      · rintro σ H4 ⟨x, y, t2, v5, rfl, b4, so4, ha4, hi4, hx, hy, ht2⟩
        have hoxy : Ok x ∧ Ok y := ⟨.of fun c h => (hx.2.2 c h).2, .of fun c h => (hy.2.2 c h).2⟩
        tm_at "go"
        refine ⟨qD (x, y), ps.map qD, Im.dp _ (qD_of (p := (x, y)) (SqT.of ht2)), .lst (SqL.of ha4) (Ims.dp _ hi4), shaped_q hoxy, shaped_qs hok, ?_⟩
        rw [any_q]
        refine ⟨_, rfl, ?_⟩
        refine ite2 (fun c2 => ?_) (fun c2 => ?_)
        · have hnm : (x, y) ∉ ps := fun e => by
            rw [decide_eq_true e] at c2
            exact absurd c2 (by decide)
          refine ⟨_, rfl, ?_⟩
          tm_at "s"
          refine ⟨_, rfl, _, _, _, rfl, rfl, ha4, small1000 (by omega), ?_⟩
          refine ⟨_, _, rfl, b4.new na, so.grow na so4, _, ps ++ [(x, y)], upd_same, ?_, ?_, ?_, ?_⟩
          · rw [List.map_append]
            exact (TK.lst ha4).ims (Ims.snoc hi4 (qD_of (p := (x, y)) (SqT.of ht2)))
          · rw [List.length_append]
            show ps.length + 1 ≤ i + 1
            omega
          · rw [List.nodup_append]
            exact ⟨hn, List.pairwise_singleton _ _, fun a ha b hb e => hnm (by
              rw [List.mem_singleton] at hb
              rw [← hb, ← e]
              exact ha)⟩
          · intro p hp
            rcases List.mem_append.mp hp with z | z
            · exact hc p z
            · rw [List.mem_singleton] at z
              rw [z]
              exact ⟨hx, hy⟩
        · exact ⟨_, _, rfl, b4, so4, vs, ps, ha4, hi4, by omega, hn, hc⟩
    · rintro σ H2 ⟨v1, v2, rfl, bx, sox, vs, ps, hax, hi, hl, hn, hc⟩
      refine ⟨_, rfl, a, vs, rfl, .inl ⟨SqL.of hax, fun u nu => ?_⟩⟩
      exact q ps _ _ (by omega) hn hc (.tup (SqT.of upd_same) ((TK.new nu).ims hi)) (bx.new1 nu) (sox.new nu)
end
end C
set_option Elab.async false
set_option linter.all false
set_option pp.maxSteps 1500
set_option maxRecDepth 100000
set_option maxHeartbeats 4000000
namespace C
open PySem PySem.Spec PyProof.Rows L2 Kx M TL
local macro_rules | `(tactic| tm_at "same") => `(tactic| first
  | assumption
  | exact L2.Same.refl _
  | exact L2.Same.upd (by tm_at "same") (by tm_at "free")
  | exact sameTransR (by assumption) (by tm_at "same"))
local macro_rules | `(tactic| tm_at "free") => `(tactic| first
  | assumption
  | exact sameFreeR (by assumption) (by tm_at "same"))
local macro_rules | `(tactic| tm_at "but") => `(tactic| first
  | assumption
  | exact But.refl _ _
  | exact But.transR (by assumption) (by tm_at "but")
  | exact But.upd
  | exact But.self (by tm_at "but")
  | exact But.new1 (by tm_at "but") (by assumption)
  | exact But.new (by tm_at "but") (by tm_at "free")
  | exact L2.Same.but (by assumption) _)
local macro_rules | `(tactic| tm_at "fact") => `(tactic| first
  | exact upd_same
  | assumption
  | exact SqL.of upd_same
  | exact SqT.of upd_same
  | exact SqL.of (by assumption)
  | exact SqT.of (by assumption)
  | exact But.lstR (by assumption) (by assumption) (by tm_at "but"))
local macro_rules | `(tactic| tm_at "cond") => `(tactic| first
  | rfl
  | assumption
  | decide
  | omega
  | exact ⟨by decide, by decide⟩
  | exact .inr ⟨by decide, by decide⟩
  | exact .inl ⟨by decide, by decide⟩
  | exact ⟨by decide, by decide, by decide⟩
  | exact cdivw (by assumption) (by assumption)
  | exact log2_ok (by assumption)
  | exact Or.inl ⟨rfl, _, SqL.of upd_same⟩
  | exact Or.inl ⟨rfl, _, SqL.of (by assumption)⟩
  | exact ⟨_, rfl⟩
  | exact Nat.le_of_ble_eq_true rfl
  | exact small1000 (by omega))
local macro_rules | `(tactic| tm_at "prop") => `(tactic| first
  | assumption
  | omega)
local macro_rules | `(tactic| tm_at "s") => `(tactic| first
  | refine ⟨_, rfl, ?_⟩
  | refine ⟨_, _, rfl, rfl, ?_⟩
  | refine ⟨_, _, _, rfl, rfl, (by tm_at "fact"), (by tm_at "cond"), ?_⟩
  | refine ⟨_, _, _, _, rfl, rfl, (by tm_at "fact"), rfl, ?_⟩
  | refine ⟨_, _, rfl, (by tm_at "fact"), ?_⟩
  | refine And.intro (by tm_at "cond") ?_
  | refine .inl ⟨_, rfl, ?_⟩
  | refine ⟨_, _, rfl, .inl (by tm_at "fact"), ?_⟩
  | refine dec_false (by tm_at "prop") ?_
  | refine dec_true (by tm_at "prop") ?_
  | refine decN_false (by tm_at "prop") ?_
  | refine decN_true (by tm_at "prop") ?_
  | refine iteT ?_
  | refine iteF ?_
  | refine ⟨_, _, rfl, ?_⟩)
local macro_rules | `(tactic| tm_at "go") => `(tactic| repeat tm_at "s")

section
variable {P : Program} {w : World} {K : PySem.W.Frag} {mg : Str → Option Value} {base : Heap} {aH aR : Addr}
/-! ### the rules -/
def spRules : Sp := fun vs H Q _ => vs = [] ∧ ∀ a H', Same H H' → H a = none → H' a = some (.lst (rules7.map V.str)) → Q (.ref a) H'
theorem sc__law_rules : FnScope ["first"] [] (defScope s__law_rules) := ⟨rfl, rfl, rfl, by decide +kernel, rfl, by decide +kernel, by decide +kernel⟩
theorem ok__law_rules {k : Nat} (D : Def K mg "_law_rules" "_law_rules" s__law_rules []) (B : Bi mg) : Cal P w K mg base CX0 (k + 1) "_law_rules" [] spRules := by
  refine D.cal fun f fd F => F.ok sc__law_rules (fun vs H Q E h => ?_) (fun cdv A outer s H vs Q E hr h => ?_)
  · obtain ⟨rfl, _⟩ := h
    rfl
  · obtain ⟨rfl, q⟩ := h
    have nd := sc__law_rules.nd
    refine ⟨_, (pss_cons (ps_set (i := 0) nd rfl (Or.inl rfl) (pe_lst (pa_cons pe_str (pa_cons pe_str (pa_cons pe_str (pa_cons pe_str pa_nil))))))
      (pss_one (ps_ret (pe_op op_cat (pv 0) (pe_lst (pa_cons pe_str (pa_cons pe_str (pa_cons pe_str pa_nil)))))))), ?_⟩
    tm_at "go"
    refine fun a na => ?_
    tm_at "go"
    refine fun b nb => ?_
    tm_at "go"
    refine ⟨a, b, [.str "lockstep", .str "pauses alone", .str "left begins", .str "right begins"], [.str "meet at whiles", .str "calls alone", .str "left first"], rfl, rfl, ?_, upd_same, by decide, fun c nc => ?_⟩
    · rw [upd_ne (ne_of_none upd_same nb), upd_same]
    · exact q c _ (by tm_at "same") (by tm_at "free") upd_same
/-! ### a drawn row -/
theorem ims_tup {K : PySem.W.Frag} {α : Type} {g : α → PyData} {H : Hp} {xs : List V} {fss : List (List α)} (h : Ims K H xs (fss.map fun fs => PyData.tuple (fs.map g))) {i : Nat} (hi : i < fss.length) : ∃ v, xs[i]? = some v ∧ Im K H v (.tuple (fss[i].map g)) :=
  Ims.get' h (i := i) (d := .tuple (fss[i].map g)) (by rw [List.getElem?_map, List.getElem?_eq_getElem hi]; rfl)

def spRow (K : PySem.W.Frag) : Sp := fun vs H Q _ => ∃ (st l : Addr), vs = [.ref st] ∧ StOk K H st l ∧ ∀ (r : M.Row) v H', r.Ok → Im K H' v (rD r) → But st H H' → StOk K H' st l → Q v H'
theorem sc__law_some_row : FnScope ["state", "forms", "k", "pairs", "rule", "claim"] ["state"] (defScope s__law_some_row) := ⟨rfl, rfl, rfl, by decide +kernel, rfl, by decide +kernel, by decide +kernel⟩
theorem ok__law_some_row {k : Nat} (D : Def K mg "_law_some_row" "_law_some_row" s__law_some_row ["state"]) (B : Bi mg)
    (c__law_one_of : Cal P w K mg base CX0 k "_law_one_of" ["state", "items"] (spOneOf K)) (c__law_any_word : Cal P w K mg base CX0 k "_law_any_word" ["state"] (spGen K Wd))
    (c__law_some_forms : Cal P w K mg base CX0 k "_law_some_forms" ["state"] (spFrms K)) (c__law_some_pairs : Cal P w K mg base CX0 k "_law_some_pairs" ["state"] (spPrs K))
    (c__law_rules : Cal P w K mg base CX0 k "_law_rules" [] spRules) : Cal P w K mg base CX0 (k + 1) "_law_some_row" ["state"] (spRow K) := by
  refine D.cal fun f fd F => F.ok sc__law_some_row (fun vs H Q E h => ?_) (fun cdv A outer s H vs Q E hr h => ?_)
  · obtain ⟨st, l, rfl, _⟩ := h
    rfl
  · obtain ⟨st, l, rfl, so, q⟩ := h
    have nd := sc__law_some_row.nd
    refine ⟨_, (pss_cons (ps_setLc (i := 1) (own := [("k", 2)]) rfl nd rfl rfl (sw_true rfl rfl rfl (by decide +kernel)) (pi_range1 (by rfl) B.range (pa_cons pe_int pa_nil)) (blkOk_by (own := [("k", 2)]) (N := ["state", "forms", "k", "pairs", "rule", "claim"]) (sc := defScope s__law_some_row) (by decide +kernel)) (fun _ _ _ _ _ => (pg_name (i := 2) nd rfl (Or.inl rfl))) (fun _ _ _ _ _ => pts_nil) (fun _ _ _ _ _ => (pe_cal c__law_some_forms (Room.mono hr (by omega)) (by rfl) (pa_cons (pv 0) pa_nil))))
      (pss_cons (ps_setLc (i := 3) (own := [("k", 2)]) rfl nd rfl rfl (sw_true rfl rfl rfl (by decide +kernel)) (pi_range1 (by rfl) B.range (pa_cons pe_int pa_nil)) (blkOk_by (own := [("k", 2)]) (N := ["state", "forms", "k", "pairs", "rule", "claim"]) (sc := defScope s__law_some_row) (by decide +kernel)) (fun _ _ _ _ _ => (pg_name (i := 2) nd rfl (Or.inl rfl))) (fun _ _ _ _ _ => pts_nil) (fun _ _ _ _ _ => (pe_cal c__law_some_pairs (Room.mono hr (by omega)) (by rfl) (pa_cons (pv 0) pa_nil))))
      (pss_cons (ps_set (i := 4) nd rfl (Or.inl rfl) (pe_cal c__law_one_of (Room.mono hr (by omega)) (by rfl) (pa_cons (pv 0) (pa_cons (pe_op op_cat (pe_cal0 c__law_rules (Room.mono hr (by omega)) (by rfl)) (pe_lst (pa_cons pe_str (pa_cons pe_str (pa_cons pe_str pa_nil))))) pa_nil))))
      (pss_cons (ps_set (i := 5) nd rfl (Or.inl rfl) (pe_tup (pa_cons (pe_cal c__law_any_word (Room.mono hr (by omega)) (by rfl) (pa_cons (pv 0) pa_nil)) (pa_cons (pe_cal c__law_any_word (Room.mono hr (by omega)) (by rfl) (pa_cons (pv 0) pa_nil)) (pa_cons (pe_ix ix_list (pv 1) pe_int (fun _ _ => rfl)) (pa_cons (pe_ix ix_list (pv 3) pe_int (fun _ _ => rfl)) (pa_cons (pe_ix ix_list (pv 1) pe_int (fun _ _ => rfl)) (pa_cons (pe_ix ix_list (pv 3) pe_int (fun _ _ => rfl)) pa_nil))))))))
      (pss_one (ps_ret (pe_tup (pa_cons (pv 5) (pa_cons (pe_ix ix_list (pv 1) pe_int (fun _ _ => rfl)) (pa_cons (pv 4) pa_nil)))))))))), ?_⟩
    tm_at "go"
    refine fun D nD => ?_
    have nsD := so.ne nD
    refine lc_it walk_range (fun i H' => But st H H' ∧ StOk K H' st l ∧ ∃ (vs : List V) (fss : List (List Form)), H' D = some (.lst vs) ∧ Ims K H' vs (fss.map fun fs => PyData.tuple (fs.map fD)) ∧ fss.length = i ∧ ∀ fs ∈ fss, fs.length ≤ 2 ∧ ∀ f ∈ fs, FOk f ∧ FSm f) ⟨(same_new nD).but st, so.new nD, [], [], upd_same, .nil, rfl, fun _ h => by cases h⟩ (fun _ _ _ _ => trivial) ?_ ?_
    · rintro i v Hx Hy hlt ⟨bx, sox, vs, fss, hDx, hi, hl, hc⟩ ⟨rfl, rfl⟩
      refine ⟨rfl, ?_⟩
      tm_at "go"
      refine fun fs v H2 hfl hf hv b2 so2 => ?_
      have hD2 : H2 D = some (.lst vs) := b2 _ _ nsD.symm hDx
      have hlv := hi.length
      rw [List.length_map] at hlv
      refine ⟨vs, hD2, small1000 (by omega), ?_⟩
      refine ⟨(bx.trans b2).new nD, so.grow nD so2, _, fss ++ [fs], upd_same, ?_, ?_, ?_⟩
      · rw [List.map_append]
        have t2 : TK H2 (upd H2 D (.lst (vs ++ [v]))) := TK.lst hD2
        exact Ims.snoc (((sox.tk b2).trans t2).ims hi) (t2.im hv)
      · rw [List.length_append, hl]
        rfl
      · intro p hp
        rcases List.mem_append.mp hp with y | y
        · exact hc p y
        · rw [List.mem_singleton] at y
          rw [y]
          exact ⟨hfl, hf⟩
    rintro H1 ⟨b1, so1, vs, fss, hD1, hi1, hl1, hc1⟩
    tm_at "go"
    refine fun G nG => ?_
    have nsG := so1.ne nG
    have nDG : D ≠ G := ne_of_none hD1 nG
    refine lc_it walk_range (fun i H' => But st H1 H' ∧ StOk K H' st l ∧ H' D = some (.lst vs) ∧ ∃ (ws : List V) (pss : List (List (Str × Str))), H' G = some (.lst ws) ∧ Ims K H' ws (pss.map fun fs => PyData.tuple (fs.map qD)) ∧ pss.length = i ∧ ∀ ps ∈ pss, ps.length ≤ 3 ∧ ps.Nodup ∧ ∀ p ∈ ps, Wd p.1 ∧ Wd p.2) ⟨(same_new nG).but st, so1.new nG, by rw [upd_ne nDG]; exact hD1, [], [], upd_same, .nil, rfl, fun _ h => by cases h⟩ (fun _ _ _ _ => trivial) ?_ ?_
    · rintro i v Hx Hy hlt ⟨bx, sox, hDx, ws, pss, hGx, hi, hl, hc⟩ ⟨rfl, rfl⟩
      refine ⟨rfl, ?_⟩
      tm_at "go"
      refine fun fs v H2 hfl hfn hf hv b2 so2 => ?_
      have hG2 : H2 G = some (.lst ws) := b2 _ _ nsG.symm hGx
      have hlv := hi.length
      rw [List.length_map] at hlv
      refine ⟨ws, hG2, small1000 (by omega), ?_⟩
      refine ⟨(bx.trans b2).new nG, so1.grow nG so2, by rw [upd_ne nDG]; exact b2 _ _ nsD.symm hDx, _, pss ++ [fs], upd_same, ?_, ?_, ?_⟩
      · rw [List.map_append]
        have t2 : TK H2 (upd H2 G (.lst (ws ++ [v]))) := TK.lst hG2
        exact Ims.snoc (((sox.tk b2).trans t2).ims hi) (t2.im hv)
      · rw [List.length_append, hl]
        rfl
      · intro p hp
        rcases List.mem_append.mp hp with y | y
        · exact hc p y
        · rw [List.mem_singleton] at y
          rw [y]
          exact ⟨hfl, hfn, hf⟩
    rintro H2 ⟨b2, so2, hD2, ws, pss, hG2, hi2, hl2, hc2⟩
    have hi1' := (so1.tk b2).ims hi1
    tm_at "go"
    refine fun ra H3 s3 nra hra => ?_
    tm_at "go"
    refine fun rb nrb => ?_
    refine ⟨ra, rb, rules7.map V.str, [.str "any", .str "any", .str "any"], rfl, rfl, ?_, upd_same, by decide, fun rc nrc => ?_⟩
    · rw [upd_ne (ne_of_none hra nrb)]
      exact hra
    refine ⟨st, l, rc, rules7 ++ [S "any", S "any", S "any"], rfl, ((so2.same s3).new nrb).new nrc, SqL.of upd_same, by decide, by decide, fun rule H4 hru b4 so4 => ?_⟩
    have b24 : But st H2 H4 := (((s3.but st).new1 nrb).new1 nrc).trans b4
    tm_at "go"
    refine fun za H5 hza b5 so5 => ?_
    tm_at "go"
    refine fun zb H6 hzb b6 so6 => ?_
    have b26 : But st H2 H6 := (b24.trans b5).trans b6
    have hD6 := b26 _ _ nsD.symm hD2
    have hG6 := b26 _ _ nsG.symm hG2
    have k6 : TK H2 H6 := so2.tk b26
    obtain ⟨v0, e0, i0⟩ := ims_tup (k6.ims hi1') (i := 0) (by omega)
    obtain ⟨v1, e1, i1⟩ := ims_tup (k6.ims hi1') (i := 1) (by omega)
    obtain ⟨v2, e2, i2⟩ := ims_tup (k6.ims hi1') (i := 2) (by omega)
    obtain ⟨u0, f0, j0⟩ := ims_tup (k6.ims hi2) (i := 0) (by omega)
    obtain ⟨u1, f1, j1⟩ := ims_tup (k6.ims hi2) (i := 1) (by omega)
    tm_at "go"
    refine ⟨_, _, _, _, rfl, rfl, SqL.of hD6, atI_nat (j := 0) e0, ?_⟩
    tm_at "go"
    refine ⟨_, _, _, _, rfl, rfl, SqL.of hG6, atI_nat (j := 0) f0, ?_⟩
    tm_at "go"
    refine ⟨_, _, _, _, rfl, rfl, SqL.of hD6, atI_nat (j := 1) e1, ?_⟩
    tm_at "go"
    refine ⟨_, _, _, _, rfl, rfl, SqL.of hG6, atI_nat (j := 1) f1, ?_⟩
    tm_at "go"
    refine fun t nt => ?_
    have hD7 : upd H6 t (.tup [.str za, .str zb, v0, u0, v1, u1]) D = some (.lst vs) := by
      rw [upd_ne (ne_of_none hD6 nt)]
      exact hD6
    tm_at "go"
    refine ⟨_, _, _, _, rfl, rfl, SqL.of hD7, atI_nat (j := 2) e2, ?_⟩
    tm_at "go"
    refine fun u nu => ?_
    have k7 := TK.new (o := .tup [.str za, .str zb, v0, u0, v1, u1]) nt
    have k8 := k7.trans (TK.new (o := .tup [.ref t, v2, .str rule]) nu)
    have c0 := hc1 _ (List.getElem_mem (show 0 < fss.length by omega))
    have c1 := hc1 _ (List.getElem_mem (show 1 < fss.length by omega))
    have c2 := hc1 _ (List.getElem_mem (show 2 < fss.length by omega))
    have d0 := hc2 _ (List.getElem_mem (show 0 < pss.length by omega))
    have d1 := hc2 _ (List.getElem_mem (show 1 < pss.length by omega))
    refine q ⟨za, zb, fss[0], pss[0], fss[1], pss[1], fss[2], rule⟩ _ _ ⟨hza, hzb, c0.1, fun f h => (c0.2 f h).1, d0.1, d0.2.1, d0.2.2, c1.1, fun f h => (c1.2 f h).1, d1.1, d1.2.1, d1.2.2, c2.1, fun f h => (c2.2 f h).1, fun f h => h.elim (fun h => (c0.2 f h).2) fun h => h.elim (fun h => (c1.2 f h).2) fun h => (c2.2 f h).2, hru⟩ ?_ ((((b1.trans b2).trans b26).new1 nt).new1 nu) ((so6.new nt).new nu)
    refine .tup (SqT.of upd_same) (.cons (.tup (SqT.of (xs := [.str za, .str zb, v0, u0, v1, u1]) ?_) ?_) (.cons (k8.im i2) (.cons (.str _) .nil)))
    · rw [upd_ne (ne_of_none upd_same nu), upd_same]
    · exact .cons (.str _) (.cons (.str _) (.cons (k8.im i0) (.cons (k8.im j0) (.cons (k8.im i1) (.cons (k8.im j1) .nil)))))
end
end C
set_option Elab.async false
set_option linter.all false
set_option pp.maxSteps 1500
set_option maxRecDepth 100000
set_option maxHeartbeats 4000000
namespace C
open PySem PySem.Spec PyProof.Rows L2 Kx M TL
local macro_rules | `(tactic| tm_at "same") => `(tactic| first
  | assumption
  | exact L2.Same.refl _
  | exact L2.Same.upd (by tm_at "same") (by tm_at "free")
  | exact sameTransR (by assumption) (by tm_at "same"))
local macro_rules | `(tactic| tm_at "free") => `(tactic| first
  | assumption
  | exact sameFreeR (by assumption) (by tm_at "same"))
local macro_rules | `(tactic| tm_at "but") => `(tactic| first
  | assumption
  | exact But.refl _ _
  | exact But.transR (by assumption) (by tm_at "but")
  | exact But.upd
  | exact But.self (by tm_at "but")
  | exact But.new1 (by tm_at "but") (by assumption)
  | exact But.new (by tm_at "but") (by tm_at "free")
  | exact L2.Same.but (by assumption) _)
local macro_rules | `(tactic| tm_at "fact") => `(tactic| first
  | exact upd_same
  | assumption
  | exact SqL.of upd_same
  | exact SqT.of upd_same
  | exact SqL.of (by assumption)
  | exact SqT.of (by assumption)
  | exact But.lstR (by assumption) (by assumption) (by tm_at "but"))
local macro_rules | `(tactic| tm_at "cond") => `(tactic| first
  | rfl
  | assumption
  | decide
  | omega
  | exact ⟨by decide, by decide⟩
  | exact .inr ⟨by decide, by decide⟩
  | exact .inl ⟨by decide, by decide⟩
  | exact ⟨by decide, by decide, by decide⟩
  | exact cdivw (by assumption) (by assumption)
  | exact log2_ok (by assumption)
  | exact Or.inl ⟨rfl, _, SqL.of upd_same⟩
  | exact Or.inl ⟨rfl, _, SqL.of (by assumption)⟩
  | exact ⟨_, rfl⟩
  | exact Nat.le_of_ble_eq_true rfl
  | exact small1000 (by omega))
local macro_rules | `(tactic| tm_at "prop") => `(tactic| first
  | assumption
  | omega)
local macro_rules | `(tactic| tm_at "s") => `(tactic| first
  | refine ⟨_, rfl, ?_⟩
  | refine ⟨_, _, rfl, rfl, ?_⟩
  | refine ⟨_, _, _, rfl, rfl, (by tm_at "fact"), (by tm_at "cond"), ?_⟩
  | refine ⟨_, _, _, _, rfl, rfl, (by tm_at "fact"), rfl, ?_⟩
  | refine ⟨_, _, rfl, (by tm_at "fact"), ?_⟩
  | refine And.intro (by tm_at "cond") ?_
  | refine .inl ⟨_, rfl, ?_⟩
  | refine ⟨_, _, rfl, .inl (by tm_at "fact"), ?_⟩
  | refine dec_false (by tm_at "prop") ?_
  | refine dec_true (by tm_at "prop") ?_
  | refine decN_false (by tm_at "prop") ?_
  | refine decN_true (by tm_at "prop") ?_
  | refine iteT ?_
  | refine iteF ?_
  | refine ⟨_, _, rfl, ?_⟩)
local macro_rules | `(tactic| tm_at "go") => `(tactic| repeat tm_at "s")

section
variable {P : Program} {w : World} {K : PySem.W.Frag} {mg : Str → Option Value} {base : Heap} {aH aR : Addr}
/-! ### a form as the law writes it -/
def bD (p : Str × Int) : PyData := .tuple [.bool (decide (p.2 < 0)), .str (tm p.1 p.2.natAbs)]
theorem bD_inv {K : PySem.W.Frag} {H : Hp} {v : V} {p : Str × Int} (h : Im K H v (bD p)) : ∃ t, v = .ref t ∧ SqT K H t [.bl (decide (p.2 < 0)), .str (tm p.1 p.2.natAbs)] := by
  obtain ⟨t, ts, rfl, ht, hts⟩ := Im.tup_inv h
  obtain ⟨v3, r3, rfl, h3, hr3⟩ := Ims.cons_inv hts
  obtain ⟨v4, r4, rfl, h4, hr4⟩ := Ims.cons_inv hr3
  obtain rfl := Ims.nil_inv hr4
  obtain rfl := Im.bl_inv h3
  obtain rfl := Im.str_inv h4
  exact ⟨t, rfl, ht⟩
theorem bD_of {K : PySem.W.Frag} {H : Hp} {t : Addr} {p : Str × Int} (h : SqT K H t [.bl (decide (p.2 < 0)), .str (tm p.1 p.2.natAbs)]) : Im K H (.ref t) (bD p) := .tup h (.cons (.bl _) (.cons (.str _) .nil))
theorem shaped_bs {ps : List (Str × Int)} (h : ∀ p ∈ ps, POk p) : SeqAt.shaped (.list (ps.map bD)) = true := by
  have h1 : PyData.canLayAll0 (ps.map bD) = true := by
    induction ps with
    | nil =>
      unfold PyData.canLayAll0
      rfl
    | cons p r ih =>
      rw [List.map_cons]
      unfold PyData.canLayAll0
      rw [ih fun q hq => h q (List.mem_cons_of_mem _ hq)]
      have hk : M.Ok (tm p.1 p.2.natAbs) := .of fun c hc => by
        have big : ∀ d ∈ 42 :: (nh ++ dg), d ≤ 126 := by decide +kernel
        rcases tm_mem (h p (List.mem_cons_self ..)) c hc with z | z | z
        · exact big c (List.mem_cons_of_mem _ (List.mem_append_left _ z))
        · exact big c (List.mem_cons_of_mem _ (List.mem_append_right _ z))
        · rw [z]
          decide
      have h2 : PyData.canLay0 (bD p) = true := by
        unfold bD
        simp only [PyData.canLay0, PyData.canLayAll0]
        rw [show PyData.strOk (tm p.1 p.2.natAbs) = true from hk]
        rfl
      rw [h2]
      rfl
  have h2 : PyData.depthAll (ps.map bD) ≤ 3 := by
    clear h h1
    induction ps with
    | nil =>
      unfold PyData.depthAll
      exact Nat.zero_le _
    | cons p r ih =>
      rw [List.map_cons]
      unfold PyData.depthAll
      refine Nat.max_le.mpr ⟨?_, ih⟩
      unfold bD
      simp only [PyData.depth, PyData.depthAll]
      decide
  unfold SeqAt.shaped
  rw [show PyData.canLay0 (.list (ps.map bD)) = PyData.canLayAll0 (ps.map bD) by simp only [PyData.canLay0], h1]
  have h3 : PyData.depth (.list (ps.map bD)) = PyData.depthAll (ps.map bD) + 1 := by simp only [PyData.depth]
  rw [h3, decide_eq_true (by omega)]
  rfl
theorem eqv_bs_nil (ps : List (Str × Int)) : PyData.eqv (.list (ps.map bD)) (.list []) = decide (ps = []) := by
  cases ps with
  | nil => simp only [List.map_nil, PyData.eqv, PyData.eqvAll]; rfl
  | cons p r => simp only [List.map_cons, PyData.eqv, PyData.eqvAll]; rfl
theorem at_b {α : Type} (x y : α) (b : Bool) : atI [x, y] (if b = true then 1 else 0) = some (if b = true then y else x) := by
  cases b with
  | false => exact atI_nat (j := 0) rfl
  | true => exact atI_nat (j := 1) rfl
theorem abs_one {z : Int} : decide (V.int ((z.natAbs : Nat) : Int) = V.int 1) = decide (z.natAbs = 1) := by
  by_cases h : z.natAbs = 1
  · rw [h]
    rfl
  · rw [decide_eq_false h, decide_eq_false (fun e => h (by
      have := V.int.inj e
      omega))]
theorem sc__law_written : FnScope ["f", "parts", "name", "number", "text", "back", "term"] ["f"] (defScope s__law_written) := ⟨rfl, rfl, rfl, by decide +kernel, rfl, by decide +kernel, by decide +kernel⟩
theorem ok__law_written {k : Nat} (D : Def K mg "_law_written" "_law_written" s__law_written ["f"]) (B : Bi mg) : Cal P w K mg base CX0 (k + 1) "_law_written" ["f"] (spWriteForm K) := by
  refine D.cal fun f fd F => F.ok sc__law_written (fun vs H Q E h => ?_) (fun cdv A outer s H vs Q E hr h => ?_)
  · obtain ⟨v, f, rfl, _⟩ := h
    rfl
  · obtain ⟨v, g, rfl, hv, hg, q⟩ := h
    have nd := sc__law_written.nd
    obtain ⟨t, u, xs, rfl, ht, hu, hx⟩ := fD_inv hv
    have hxl := hx.length
    rw [List.length_map] at hxl
    have hgl := hg.len
    have hPO := terms_ok hg
    have htl := terms_len hg
    refine ⟨_, (pss_cons (ps_set (i := 1) nd rfl (Or.inl rfl) (pe_lst pa_nil))
      (pss_cons (ps_for PassesOwn.never rfl (pi_tup (pe_ix ix_tup (pv 0) pe_int (fun _ _ => rfl))) (pg_tup rfl (pgs_cons (pg_name (i := 2) nd rfl (Or.inl rfl)) (pgs_cons (pg_name (i := 3) nd rfl (Or.inl rfl)) pgs_nil)))
        (pss_one (ps_if (pt_cmpR op_eq (pe_callB call_abs (by rfl) B.abs (by decide +kernel) (pa_cons (pv 3) pa_nil)) pe_int (nomark _))
          (pss_one (ps_expr (pe_bm PySem.F.plainAttrs_list PySem.F.slot_list_append PySem.F.type_list_append mt_append (pv 1) (pa_cons (pe_tup (pa_cons (pe_cmpR op_lt (pv 3) pe_int (nomark _)) (pa_cons (pv 2) pa_nil))) pa_nil))))
          (pss_one (ps_expr (pe_bm PySem.F.plainAttrs_list PySem.F.slot_list_append PySem.F.type_list_append mt_append (pv 1) (pa_cons (pe_tup (pa_cons (pe_cmpR op_lt (pv 3) pe_int (nomark _)) (pa_cons (pe_op op_add_str (pe_op op_add_str (pe_callTy call_str_int (by rfl) B.str (by decide +kernel) (pa_cons (pe_callB call_abs (by rfl) B.abs (by decide +kernel) (pa_cons (pv 3) pa_nil)) pa_nil)) pe_str) (pv 2)) pa_nil))) pa_nil)))))))
      (C8.pss_cut (ps_if (PW.pt (pw_or (pt_cmpR op_ne (pe_ix ix_tup (pv 0) pe_int (fun _ _ => rfl)) pe_int (nomark _)) (pw_or1 (pt_cmpR (op_eqD hr.units) (pv 1) (pe_lst pa_nil) (nomark _)))))
        (pss_one (ps_expr (pe_bm PySem.F.plainAttrs_list PySem.F.slot_list_append PySem.F.type_list_append mt_append (pv 1) (pa_cons (pe_tup (pa_cons (pe_cmpR op_lt (pe_ix ix_tup (pv 0) pe_int (fun _ _ => rfl)) pe_int (nomark _)) (pa_cons (pe_callTy call_str_int (by rfl) B.str (by decide +kernel) (pa_cons (pe_callB call_abs (by rfl) B.abs (by decide +kernel) (pa_cons (pe_ix ix_tup (pv 0) pe_int (fun _ _ => rfl)) pa_nil)) pa_nil)) pa_nil))) pa_nil))))
        pss_nil)
      (pss_cons (ps_set (i := 4) nd rfl (Or.inl rfl) (pe_op op_add_str (pe_ix ix_list (pe_lst (pa_cons pe_str (pa_cons pe_str pa_nil))) (pe_callTy call_int1 (by rfl) B.int (by decide +kernel) (pa_cons (pe_ix ix_tup (pe_ix ix_list (pv 1) pe_int (fun _ _ => rfl)) pe_int (fun _ _ => rfl)) pa_nil)) (fun _ _ => rfl)) (pe_ix ix_tup (pe_ix ix_list (pv 1) pe_int (fun _ _ => rfl)) pe_int (fun _ _ => rfl))))
      (pss_cons (ps_for PassesOwn.never rfl (pi_list (pe_slice sl_list (pv 1) (po_some pe_int) po_none)) (pg_tup rfl (pgs_cons (pg_name (i := 5) nd rfl (Or.inl rfl)) (pgs_cons (pg_name (i := 6) nd rfl (Or.inl rfl)) pgs_nil)))
        (pss_one (ps_set (i := 4) nd rfl (Or.inl rfl) (pe_op op_add_str (pe_op op_add_str (pv 4) (pe_ix ix_list (pe_lst (pa_cons pe_str (pa_cons pe_str pa_nil))) (pe_callTy call_int1 (by rfl) B.int (by decide +kernel) (pa_cons (pv 5) pa_nil)) (fun _ _ => rfl))) (pv 6)))))
      (pss_one (ps_ret (pv 4)))))))), ?_⟩
    tm_at "go"
    refine fun l nl => ?_
    have s0 : Same H (upd H l (.lst [])) := by tm_at "same"
    have ht0 : SqT K (upd H l (.lst [])) t [.int g.1, .ref u] := s0.tk.tup ht
    have hu0 : SqT K (upd H l (.lst [])) u xs := s0.tk.tup hu
    tm_at "go"
    refine ⟨⟨_, hu0⟩, ?_⟩
    refine for_it walk_tup (fun i σ H' => ∃ v1 v2, σ = [some (.ref t), some (.ref l), v1, v2, none, none, none] ∧ Same H H' ∧ ∃ vs, H' l = some (.lst vs) ∧ Ims K H' vs ((g.2.take i).map bD)) ⟨_, _, rfl, s0, [], upd_same, by rw [List.take_zero]; exact .nil⟩ (fun i σ H' _ ⟨_, _, _, s1, _⟩ => s1.tk.tup hu) ?_ ?_
    · rintro i v σ H1 H2 hlt ⟨v1, v2, rfl, s1, vs, hl, hi⟩ ⟨rfl, hv⟩
      obtain ⟨p, hp, hpi⟩ := ims_at hx hv
      obtain ⟨t2, rfl, ht2⟩ := pD_inv (s1.tk.im hpi)
      have hpo : POk p := hPO p (by
        have hm := List.mem_of_getElem? hp
        unfold terms
        split
        · exact List.mem_append_left _ hm
        · exact hm)
      have hne : ¬ p.1 = Str.empty := (hg.nm p (List.mem_of_getElem? hp)).ne
      have hlv := hi.length
      rw [List.length_map, List.length_take] at hlv
      have html := tm_len hpo
      have add : ∀ t3, H2 t3 = none → ∃ v1 v2, [some (V.ref t), some (V.ref l), some (V.str p.1), some (V.int p.2), none, none, none] = [some (.ref t), some (.ref l), v1, v2, none, none, none] ∧ Same H (upd (upd H2 t3 (.tup [.bl (decide (p.2 < 0)), .str (tm p.1 p.2.natAbs)])) l (.lst (vs ++ [.ref t3]))) ∧ ∃ ws, upd (upd H2 t3 (.tup [.bl (decide (p.2 < 0)), .str (tm p.1 p.2.natAbs)])) l (.lst (vs ++ [.ref t3])) l = some (.lst ws) ∧ Ims K (upd (upd H2 t3 (.tup [.bl (decide (p.2 < 0)), .str (tm p.1 p.2.natAbs)])) l (.lst (vs ++ [.ref t3]))) ws ((g.2.take (i + 1)).map bD) := fun t3 nt3 => by
        have n3 : l ≠ t3 := ne_of_none hl nt3
        refine ⟨_, _, rfl, by tm_at "same", _, upd_same, ?_⟩
        rw [take_snoc hp, List.map_append]
        have k1 : TK H2 (upd H2 t3 (.tup [.bl (decide (p.2 < 0)), .str (tm p.1 p.2.natAbs)])) := TK.new nt3
        refine (TK.lst (xs := vs) (by rw [upd_ne n3]; exact hl)).ims (Ims.snoc (k1.ims hi) (bD_of (SqT.of upd_same)))
      refine ⟨_, _, rfl, ht2, rfl, ?_⟩
      have ab := abs_nat p.2
      tm_at "go"
      rw [ab, abs_one]
      refine ite2 (fun c => ?_) (fun c => ?_)
      · have c1 : p.2.natAbs = 1 := of_decide_eq_true c
        have e : tm p.1 p.2.natAbs = p.1 := by
          unfold tm
          rw [if_neg hne, if_pos c1]
        tm_at "go"
        refine fun t3 nt3 => ?_
        have hl3 : upd H2 t3 (.tup [.bl (decide (p.2 < 0)), .str p.1]) l = some (.lst vs) := by
          rw [upd_ne (ne_of_none hl nt3)]
          exact hl
        refine ⟨_, _, _, rfl, rfl, hl3, small1000 (by omega), ?_⟩
        have := add t3 nt3
        rw [e] at this
        exact this
      · have c1 : ¬ p.2.natAbs = 1 := fun z => c (decide_eq_true z)
        have e : tm p.1 p.2.natAbs = num p.2.natAbs ++ S "*" ++ p.1 := by
          unfold tm
          rw [if_neg hne, if_neg c1]
        tm_at "go"
        rw [ab]
        refine ⟨log2_ok hpo.2, ?_⟩
        have e2 : tm p.1 p.2.natAbs = Str.ofString (toString ((p.2.natAbs : Nat) : Int)) ++ S "*" ++ p.1 := e
        have hn : (Str.ofString (toString ((p.2.natAbs : Nat) : Int))).length ≤ 60 := num_len hpo.2
        have hnm := hpo.name_len
        clear e
        generalize Str.ofString (toString ((p.2.natAbs : Nat) : Int)) = z at hn e2 ⊢
        have h1 : (S "*").length = 1 := by decide +kernel
        have h2 : (z ++ S "*").length ≤ 61 := by
          rw [M.len_app, h1]
          omega
        tm_at "go"
        refine ⟨Nat.le_of_lt (small1000 (show (z ++ S "*").length + p.1.length ≤ 1000 by omega)), ?_⟩
        tm_at "go"
        refine fun t3 nt3 => ?_
        have hl3 : upd H2 t3 (.tup [.bl (decide (p.2 < 0)), .str (z ++ S "*" ++ p.1)]) l = some (.lst vs) := by
          rw [upd_ne (ne_of_none hl nt3)]
          exact hl
        refine ⟨_, _, _, rfl, rfl, hl3, small1000 (by omega), ?_⟩
        have := add t3 nt3
        rw [e2] at this
        exact this
    · rintro σ H1 ⟨v1, v2, rfl, s1, vs, hl, hi⟩
      rw [List.take_of_length_le (by omega)] at hi
      refine ⟨fun σ H' => ∃ vs v1 v2, σ = [some (.ref t), some (.ref l), v1, v2, none, none, none] ∧ Same H H' ∧ H' l = some (.lst vs) ∧ Ims K H' vs ((terms g).map bD), ?_, ?_⟩
      · have hbs : ∀ p ∈ g.2, POk p := fun p hp => hPO p (by
          unfold terms
          split
          · exact List.mem_append_left _ hp
          · exact hp)
        have hlv := hi.length
        rw [List.length_map] at hlv
        have hcst := hg.cst
        have ab := abs_nat g.1
        have ht1 : SqT K H1 t [.int g.1, .ref u] := s1.tk.tup ht
        have add : (g.1 ≠ 0 ∨ g.2 = []) → ∀ H2 t3, Same H1 H2 → H2 t3 = none → ∃ ws v3 v4, [some (V.ref t), some (V.ref l), v1, v2, none, none, none] = [some (.ref t), some (.ref l), v3, v4, none, none, none] ∧ Same H (upd (upd H2 t3 (.tup [.bl (decide (g.1 < 0)), .str (num g.1.natAbs)])) l (.lst (vs ++ [.ref t3]))) ∧ upd (upd H2 t3 (.tup [.bl (decide (g.1 < 0)), .str (num g.1.natAbs)])) l (.lst (vs ++ [.ref t3])) l = some (.lst ws) ∧ Ims K (upd (upd H2 t3 (.tup [.bl (decide (g.1 < 0)), .str (num g.1.natAbs)])) l (.lst (vs ++ [.ref t3]))) ws ((terms g).map bD) := fun hc H2 t3 s2 nt3 => by
          have hl2 := s2 _ _ hl
          have n3 : l ≠ t3 := ne_of_none hl2 nt3
          refine ⟨_, _, _, rfl, by tm_at "same", upd_same, ?_⟩
          unfold terms
          rw [if_pos hc, List.map_append]
          have k1 : TK H2 (upd H2 t3 (.tup [.bl (decide (g.1 < 0)), .str (num g.1.natAbs)])) := TK.new nt3
          exact (TK.lst (xs := vs) (by rw [upd_ne n3]; exact hl2)).ims (Ims.snoc (k1.ims (s2.tk.ims hi)) (bD_of (p := (Str.empty, g.1)) (SqT.of upd_same)))
        tm_at "go"
        refine ite2 (fun c => ?_) (fun c => ?_)
        · have c1 : g.1 ≠ 0 := fun z => by
            have := show (!decide (V.int g.1 = V.int 0)) = true from c
            rw [z] at this
            exact absurd this (by decide)
          refine iteT ?_
          tm_at "go"
          rw [ab]
          refine ⟨log2_ok hcst, ?_⟩
          tm_at "go"
          refine fun t3 nt3 => ?_
          have hl3 : upd H1 t3 (.tup [.bl (decide (g.1 < 0)), .str (num g.1.natAbs)]) l = some (.lst vs) := by
            rw [upd_ne (ne_of_none hl nt3)]
            exact hl
          refine ⟨_, _, _, rfl, rfl, hl3, small1000 (by omega), ?_⟩
          exact add (.inl c1) H1 t3 (Same.refl _) nt3
        · have c1 : ¬ g.1 ≠ 0 := fun z => c (by rw [decide_eq_false (fun e => z (V.int.inj e))]; rfl)
          tm_at "go"
          refine fun p np => ?_
          have sp : Same H1 (upd H1 p (.lst [])) := same_new np
          refine ⟨.list (g.2.map bD), .list [], .lst (SqL.of (sp _ _ hl)) (Ims.dp _ (sp.tk.ims hi)), .lst (SqL.of upd_same) .nil, shaped_bs hbs, by decide, ?_⟩
          rw [eqv_bs_nil]
          refine ⟨_, rfl, ?_⟩
          refine ite2 (fun c2 => ?_) (fun c2 => ?_)
          · have c3 : g.2 = [] := of_decide_eq_true c2
            have ht2 : SqT K (upd H1 p (.lst [])) t [.int g.1, .ref u] := sp.tk.tup ht1
            have hlp := sp _ _ hl
            tm_at "go"
            rw [ab]
            refine ⟨log2_ok hcst, ?_⟩
            tm_at "go"
            refine fun t3 nt3 => ?_
            have hl3 : upd (upd H1 p (.lst [])) t3 (.tup [.bl (decide (g.1 < 0)), .str (num g.1.natAbs)]) l = some (.lst vs) := by
              rw [upd_ne (ne_of_none (sp _ _ hl) nt3)]
              exact sp _ _ hl
            refine ⟨_, _, _, rfl, rfl, hl3, small1000 (by omega), ?_⟩
            exact add (.inr c3) _ t3 sp nt3
          · refine ⟨vs, _, _, rfl, by tm_at "same", sp _ _ hl, ?_⟩
            unfold terms
            rw [if_neg (fun z => z.elim c1 (fun e => c2 (decide_eq_true e)))]
            exact sp.tk.ims hi
      · rintro σ H2 ⟨vs, v1, v2, rfl, s2, hl, hi⟩
        have hlv := hi.length
        rw [List.length_map] at hlv
        have hbig : (100000 : Nat) ≤ sizeLine := by decide
        obtain ⟨p0, rest, hpr⟩ : ∃ p r, terms g = p :: r := by
          cases e : terms g with
          | nil => exact absurd e (terms_ne g)
          | cons p r => exact ⟨p, r, rfl⟩
        obtain ⟨w0, hw0, iw0⟩ := Ims.get' hi (i := 0) (d := bD p0) (by rw [hpr]; rfl)
        obtain ⟨t0, rfl, ht0⟩ := bD_inv iw0
        have hp0 := hPO p0 (by rw [hpr]; exact List.mem_cons_self ..)
        have htm0 := tm_len hp0
        have hsg0 := sg_len p0.2
        have e0 : atI vs 0 = some (.ref t0) := atI_nat (j := 0) hw0
        tm_at "go"
        refine fun a na => ?_
        have sa : Same H2 (upd H2 a (.lst [.str "", .str "-"])) := same_new na
        have hla := sa _ _ hl
        have hta := sa.tk.tup ht0
        have sgv : V.str (if decide (p0.2 < 0) = true then S "-" else S "") = V.str (sg p0.2) := by
          unfold sg
          by_cases c : p0.2 < 0
          · rw [if_pos c, if_pos (decide_eq_true c)]
          · rw [if_neg c, if_neg (by rw [decide_eq_false c]; decide)]
            rfl
        tm_at "go"
        refine ⟨_, _, _, _, rfl, rfl, SqL.of hla, e0, ?_⟩
        tm_at "go"
        refine .inr ⟨_, rfl, ?_⟩
        refine ⟨_, _, _, _, rfl, rfl, SqL.of upd_same, at_b (V.str (S "")) (V.str (S "-")) (decide (p0.2 < 0)), ?_⟩
        rw [show (if decide (p0.2 < 0) = true then V.str (S "-") else V.str (S "")) = V.str (sg p0.2) by rw [← sgv]; split <;> rfl]
        tm_at "go"
        refine ⟨_, _, _, _, rfl, rfl, SqL.of hla, e0, ?_⟩
        tm_at "go"
        have ecut : cutV vs (some 1) none = vs.drop 1 := cutV_from vs 1
        rw [ecut]
        refine fun p np => ⟨p, rfl, ⟨_, SqL.of upd_same⟩, ?_⟩
        have s3 : Same H2 (upd (upd H2 a (.lst [.str "", .str "-"])) p (.lst (vs.drop 1))) := by tm_at "same"
        have w1 : wterms ((terms g).take 1) = sg p0.2 ++ tm p0.1 p0.2.natAbs := by
          rw [hpr]
          exact wterms_one p0
        rw [← w1]
        clear w1
        have hp3 : upd (upd H2 a (.lst [.str "", .str "-"])) p (.lst (vs.drop 1)) p = some (.lst (vs.drop 1)) := upd_same
        generalize upd (upd H2 a (.lst [.str "", .str "-"])) p (.lst (vs.drop 1)) = H3 at s3 hp3 ⊢
        refine for_it walk_list (fun i σ H' => ∃ v5 v6, σ = [some (.ref t), some (.ref l), v1, v2, some (.str (wterms ((terms g).take (i + 1)))), v5, v6] ∧ Same H3 H') ⟨_, _, rfl, Same.refl _⟩ (fun i σ H' _ ⟨_, _, _, s4⟩ => SqL.of (s4 _ _ hp3)) ?_ ?_
        · rintro i v σ H4 H5 hlt ⟨v5, v6, rfl, s4⟩ ⟨rfl, hv⟩
          rw [List.length_drop] at hlt
          rw [List.getElem?_drop, Nat.add_comm 1 i] at hv
          obtain ⟨p, hp, hpi⟩ := ims_at hi hv
          obtain ⟨t2, rfl, ht2⟩ := bD_inv ((s3.trans s4).tk.im hpi)
          have hpo := hPO p (List.mem_of_getElem? hp)
          have hpre : ∀ p ∈ (terms g).take (i + 1), POk p := fun p hp => hPO p (List.mem_of_mem_take hp)
          have hwl := wterms_len hpre
          rw [List.length_take] at hwl
          have html := tm_len hpo
          have hspl := sp_len p.2
          have hne : (terms g).take (i + 1) ≠ [] := by
            rw [hpr]
            exact List.cons_ne_nil _ _
          rw [take_snoc hp, wterms_snoc _ _ hne]
          generalize wterms ((terms g).take (i + 1)) = T at hwl ⊢
          have spv : (if decide (p.2 < 0) = true then V.str (S " - ") else V.str (S " + ")) = V.str (sp p.2) := by
            unfold sp
            by_cases c : p.2 < 0
            · rw [if_pos c, if_pos (decide_eq_true c)]
            · rw [if_neg c, if_neg (by rw [decide_eq_false c]; decide)]
          refine ⟨_, _, rfl, ht2, rfl, ?_⟩
          tm_at "go"
          refine fun a2 na2 => ?_
          tm_at "go"
          refine .inr ⟨_, rfl, ?_⟩
          refine ⟨_, _, _, _, rfl, rfl, SqL.of upd_same, at_b (V.str (S " + ")) (V.str (S " - ")) (decide (p.2 < 0)), ?_⟩
          rw [spv]
          refine ⟨T, sp p.2, rfl, rfl, ?_, ?_⟩
          · omega
          tm_at "go"
          refine ⟨by rw [M.len_app]; omega, ?_⟩
          exact ⟨_, _, rfl, by tm_at "same"⟩
        · rintro σ H4 ⟨v5, v6, rfl, s4⟩
          rw [List.length_drop, List.take_of_length_le (by omega)]
          refine ⟨_, rfl, ?_⟩
          exact q _ ((s2.trans s3).trans s4)
end
end C
set_option Elab.async false
set_option linter.all false
set_option pp.maxSteps 1500
set_option maxRecDepth 100000
set_option maxHeartbeats 4000000
namespace C
open PySem PySem.Spec PyProof.Rows L2 Kx M TL
local macro_rules | `(tactic| tm_at "same") => `(tactic| first
  | assumption
  | exact L2.Same.refl _
  | exact L2.Same.upd (by tm_at "same") (by tm_at "free")
  | exact sameTransR (by assumption) (by tm_at "same"))
local macro_rules | `(tactic| tm_at "free") => `(tactic| first
  | assumption
  | exact sameFreeR (by assumption) (by tm_at "same"))
local macro_rules | `(tactic| tm_at "but") => `(tactic| first
  | assumption
  | exact But.refl _ _
  | exact But.transR (by assumption) (by tm_at "but")
  | exact But.upd
  | exact But.self (by tm_at "but")
  | exact But.new1 (by tm_at "but") (by assumption)
  | exact But.new (by tm_at "but") (by tm_at "free")
  | exact L2.Same.but (by assumption) _)
local macro_rules | `(tactic| tm_at "fact") => `(tactic| first
  | exact upd_same
  | assumption
  | exact SqL.of upd_same
  | exact SqT.of upd_same
  | exact SqL.of (by assumption)
  | exact SqT.of (by assumption)
  | exact But.lstR (by assumption) (by assumption) (by tm_at "but"))
local macro_rules | `(tactic| tm_at "cond") => `(tactic| first
  | rfl
  | assumption
  | decide
  | omega
  | exact ⟨by decide, by decide⟩
  | exact .inr ⟨by decide, by decide⟩
  | exact .inl ⟨by decide, by decide⟩
  | exact ⟨by decide, by decide, by decide⟩
  | exact cdivw (by assumption) (by assumption)
  | exact log2_ok (by assumption)
  | exact Or.inl ⟨rfl, _, SqL.of upd_same⟩
  | exact Or.inl ⟨rfl, _, SqL.of (by assumption)⟩
  | exact ⟨_, rfl⟩
  | exact Nat.le_of_ble_eq_true rfl
  | exact small1000 (by omega))
local macro_rules | `(tactic| tm_at "prop") => `(tactic| first
  | assumption
  | omega)
local macro_rules | `(tactic| tm_at "s") => `(tactic| first
  | refine ⟨_, rfl, ?_⟩
  | refine ⟨_, _, rfl, rfl, ?_⟩
  | refine ⟨_, _, _, rfl, rfl, (by tm_at "fact"), (by tm_at "cond"), ?_⟩
  | refine ⟨_, _, _, _, rfl, rfl, (by tm_at "fact"), rfl, ?_⟩
  | refine ⟨_, _, rfl, (by tm_at "fact"), ?_⟩
  | refine And.intro (by tm_at "cond") ?_
  | refine .inl ⟨_, rfl, ?_⟩
  | refine ⟨_, _, rfl, .inl (by tm_at "fact"), ?_⟩
  | refine dec_false (by tm_at "prop") ?_
  | refine dec_true (by tm_at "prop") ?_
  | refine decN_false (by tm_at "prop") ?_
  | refine decN_true (by tm_at "prop") ?_
  | refine iteT ?_
  | refine iteF ?_
  | refine ⟨_, _, rfl, ?_⟩)
local macro_rules | `(tactic| tm_at "go") => `(tactic| repeat tm_at "s")

section
variable {P : Program} {w : World} {K : PySem.W.Frag} {mg : Str → Option Value} {base : Heap} {aH aR : Addr}
/-! ### the lines of a row, as words -/
inductive Wls (K : PySem.W.Frag) (H : Hp) : List V → List (List Str) → Prop
  | nil : Wls K H [] []
  | cons {b : Addr} {ws : List Str} {vs : List V} {W : List (List Str)} : ws ≠ [] → SqL K H b (ws.map V.str) → Wls K H vs W → Wls K H (.ref b :: vs) (ws :: W)
theorem Wls.append {K : PySem.W.Frag} {H : Hp} : ∀ {vs ws : List V} {W X : List (List Str)}, Wls K H vs W → Wls K H ws X → Wls K H (vs ++ ws) (W ++ X)
  | _, _, _, _, .nil, h => h
  | _, _, _, _, .cons n a b, h => .cons n a (Wls.append b h)
theorem Wls.same {K : PySem.W.Frag} {H H' : Hp} (s : Same H H') : ∀ {vs : List V} {W : List (List Str)}, Wls K H vs W → Wls K H' vs W
  | _, _, .nil => .nil
  | _, _, .cons n a b => .cons n (s.seq a) (Wls.same s b)
theorem Wls.but {K : PySem.W.Frag} {H H' : Hp} {st l : Addr} (o : StOk K H st l) (s : But st H H') : ∀ {vs : List V} {W : List (List Str)}, Wls K H vs W → Wls K H' vs W
  | _, _, .nil => .nil
  | _, _, .cons n a b => .cons n (o.but_strs s a) (Wls.but o s b)
theorem Wls.length {K : PySem.W.Frag} {H : Hp} : ∀ {vs : List V} {W : List (List Str)}, Wls K H vs W → vs.length = W.length
  | _, _, .nil => rfl
  | _, _, .cons _ a b => by rw [List.length_cons, List.length_cons, Wls.length b]
theorem Wls.get {K : PySem.W.Frag} {H : Hp} : ∀ {vs : List V} {W : List (List Str)}, Wls K H vs W → ∀ {i : Nat} {v : V}, vs[i]? = some v → ∃ b ws, v = .ref b ∧ W[i]? = some ws ∧ SqL K H b (ws.map V.str)
  | _, _, .nil, _, _, e => by simp at e
  | _, _, .cons _ a b, 0, _, e => by
    cases e
    exact ⟨_, _, rfl, rfl, a⟩
  | _, _, .cons _ a b, i + 1, _, e => Wls.get b (i := i) e
theorem Wls.refs {K : PySem.W.Frag} {H : Hp} : ∀ {vs : List V} {W : List (List Str)}, Wls K H vs W → ∀ y ∈ vs, ∃ b, y = V.ref b
  | _, _, .nil, _, h => by cases h
  | _, _, .cons _ a b, y, h => by
    rcases List.mem_cons.mp h with e | e
    · exact ⟨_, e⟩
    · exact Wls.refs b y e
/-- a list of references changes -/
theorem Wls.butL {K : PySem.W.Frag} {H H' : Hp} {D : Addr} {ys : List V} (hD : H D = some (.lst ys)) (hy : ∀ y ∈ ys, ∃ b, y = V.ref b) (s : But D H H') : ∀ {vs : List V} {W : List (List Str)}, Wls K H vs W → Wls K H' vs W
  | _, _, .nil => .nil
  | _, _, .cons (b := b) (ws := ws) n a c => .cons n (by
      rcases a with (h | ⟨o, h⟩) | h
      · refine .inl (.inl (s _ _ (fun e => ?_) h))
        subst e
        rw [hD] at h
        injection h with h
        injection h with h
        cases ws with
        | nil => exact n rfl
        | cons w r =>
          obtain ⟨_, e⟩ := hy (.str w) (by rw [h]; exact List.mem_cons_self ..)
          cases e
      · refine .inl (.inr ⟨o, s _ _ (fun e => ?_) h⟩)
        subst e
        rw [hD] at h
        cases h
      · exact .inr h) (Wls.butL hD hy s c)
def fW (hd : Str) (f : Form) : List Str := hd :: wd f
def pW (hd : Str) (p : Str × Str) : List Str := [hd, p.1, p.2]
def rowW (r : M.Row) : List (List Str) :=
  [[S "claim", r.a, S "with", r.b]] ++ r.gs.map (fW (S "given")) ++ r.ss.map (pW (S "same")) ++ r.as.map (fW (S "ask")) ++ r.ks.map (pW (S "keep")) ++ r.hs.map (fW (S "hint")) ++ (if r.rule = S "any" then [] else [S "walk" :: Txt.split r.rule (S " ")]) ++ [[S "end"]]
def spLines (K : PySem.W.Frag) : Sp := fun vs H Q _ => ∃ (v : V) (r : M.Row), vs = [v] ∧ Im K H v (rD r) ∧ r.Ok ∧ ∀ a ws H', Same H H' → H a = none → H' a = some (.lst ws) → Wls K H' ws (rowW r) → Q (.ref a) H'
theorem sc__law_row_lines : FnScope ["row", "claim", "hints", "rule", "lines", "f", "a", "b"] ["row"] (defScope s__law_row_lines) := ⟨rfl, rfl, rfl, by decide +kernel, rfl, by decide +kernel, by decide +kernel⟩
theorem ok__law_row_lines {k : Nat} (D : Def K mg "_law_row_lines" "_law_row_lines" s__law_row_lines ["row"]) (B : Bi mg) (c__law_written : Cal P w K mg base CX0 k "_law_written" ["f"] (spWriteForm K)) : Cal P w K mg base CX0 (k + 1) "_law_row_lines" ["row"] (spLines K) := by
  refine D.cal fun f fd F => F.ok sc__law_row_lines (fun vs H Q E h => ?_) (fun cdv A outer s H vs Q E hr h => ?_)
  · obtain ⟨v, f, rfl, _⟩ := h
    rfl
  · obtain ⟨v, r, rfl, hv, ok, q⟩ := h
    have nd := sc__law_row_lines.nd
    obtain ⟨t, ts, rfl, ht, hts⟩ := Im.tup_inv hv
    obtain ⟨v1, r1, rfl, h1, hr1⟩ := Ims.cons_inv hts
    obtain ⟨v2, r2, rfl, h2, hr2⟩ := Ims.cons_inv hr1
    obtain ⟨v3, r3, rfl, h3, hr3⟩ := Ims.cons_inv hr2
    obtain rfl := Ims.nil_inv hr3
    obtain rfl := Im.str_inv h3
    obtain ⟨u2, hs, rfl, hu2, ihs⟩ := Im.tup_inv h2
    obtain ⟨tc, cs, rfl, htc, hcs⟩ := Im.tup_inv h1
    obtain ⟨c1, q1, rfl, i1, hq1⟩ := Ims.cons_inv hcs
    obtain ⟨c2, q2, rfl, i2, hq2⟩ := Ims.cons_inv hq1
    obtain ⟨c3, q3, rfl, i3, hq3⟩ := Ims.cons_inv hq2
    obtain ⟨c4, q4, rfl, i4, hq4⟩ := Ims.cons_inv hq3
    obtain ⟨c5, q5, rfl, i5, hq5⟩ := Ims.cons_inv hq4
    obtain ⟨c6, q6, rfl, i6, hq6⟩ := Ims.cons_inv hq5
    obtain rfl := Ims.nil_inv hq6
    obtain rfl := Im.str_inv i1
    obtain rfl := Im.str_inv i2
    obtain ⟨a3, l3, rfl, ha3, il3⟩ := Im.tup_inv i3
    obtain ⟨a4, l4, rfl, ha4, il4⟩ := Im.tup_inv i4
    obtain ⟨a5, l5, rfl, ha5, il5⟩ := Im.tup_inv i5
    obtain ⟨a6, l6, rfl, ha6, il6⟩ := Im.tup_inv i6
    clear hv hts hr1 hr2 hr3 h1 h2 hcs hq1 hq2 hq3 hq4 hq5 hq6 i3 i4 i5 i6 i1 i2 h3
    refine ⟨_, (pss_cons (ps_asg (pv 0) (pg_tup rfl (pgs_cons (pg_name (i := 1) nd rfl (Or.inl rfl)) (pgs_cons (pg_name (i := 2) nd rfl (Or.inl rfl)) (pgs_cons (pg_name (i := 3) nd rfl (Or.inl rfl)) pgs_nil)))))
      (pss_cons (ps_set (i := 4) nd rfl (Or.inl rfl) (pe_lst (pa_cons (pe_lst (pa_cons pe_str (pa_cons (pe_ix ix_tup (pv 1) pe_int (fun _ _ => rfl)) (pa_cons pe_str (pa_cons (pe_ix ix_tup (pv 1) pe_int (fun _ _ => rfl)) pa_nil))))) pa_nil)))
      (C8.pss_cut (ps_set (i := 4) nd rfl (Or.inl rfl) (pe_op op_cat (pv 4) (pe_lc (own := [("f", 5)]) (by rfl) nd (pi_tup (pe_ix ix_tup (pv 1) pe_int (fun _ _ => rfl))) (blkOk_by (own := [("f", 5)]) (N := ["row", "claim", "hints", "rule", "lines", "f", "a", "b"]) (sc := defScope s__law_row_lines) (by decide +kernel)) (fun _ _ _ _ _ => (pg_name (i := 5) nd rfl (Or.inl rfl))) (fun _ _ _ _ _ => pts_nil) (fun _ _ _ _ _ => (pe_op op_cat (pe_lst (pa_cons pe_str pa_nil)) (pe_split (pe_cal c__law_written (Room.mono hr (by omega)) (by rfl) (pa_cons (pv 5) pa_nil)) pe_str))))))
      (C8.pss_cut (ps_set (i := 4) nd rfl (Or.inl rfl) (pe_op op_cat (pv 4) (pe_lc (own := [("a", 6), ("b", 7)]) (by rfl) nd (pi_tup (pe_ix ix_tup (pv 1) pe_int (fun _ _ => rfl))) (blkOk_by (own := [("a", 6), ("b", 7)]) (N := ["row", "claim", "hints", "rule", "lines", "f", "a", "b"]) (sc := defScope s__law_row_lines) (by decide +kernel)) (fun _ _ _ _ _ => (pg_tupK (K := K) (n := 2) rfl rfl (pgs_cons (pg_name (i := 6) nd rfl (Or.inl rfl)) (pgs_cons (pg_name (i := 7) nd rfl (Or.inl rfl)) pgs_nil)))) (fun _ _ _ _ _ => pts_nil) (fun _ _ _ _ _ => (pe_lst (pa_cons pe_str (pa_cons (pv 6) (pa_cons (pv 7) pa_nil))))))))
      (C8.pss_cut (ps_set (i := 4) nd rfl (Or.inl rfl) (pe_op op_cat (pv 4) (pe_lc (own := [("f", 5)]) (by rfl) nd (pi_tup (pe_ix ix_tup (pv 1) pe_int (fun _ _ => rfl))) (blkOk_by (own := [("f", 5)]) (N := ["row", "claim", "hints", "rule", "lines", "f", "a", "b"]) (sc := defScope s__law_row_lines) (by decide +kernel)) (fun _ _ _ _ _ => (pg_name (i := 5) nd rfl (Or.inl rfl))) (fun _ _ _ _ _ => pts_nil) (fun _ _ _ _ _ => (pe_op op_cat (pe_lst (pa_cons pe_str pa_nil)) (pe_split (pe_cal c__law_written (Room.mono hr (by omega)) (by rfl) (pa_cons (pv 5) pa_nil)) pe_str))))))
      (C8.pss_cut (ps_set (i := 4) nd rfl (Or.inl rfl) (pe_op op_cat (pv 4) (pe_lc (own := [("a", 6), ("b", 7)]) (by rfl) nd (pi_tup (pe_ix ix_tup (pv 1) pe_int (fun _ _ => rfl))) (blkOk_by (own := [("a", 6), ("b", 7)]) (N := ["row", "claim", "hints", "rule", "lines", "f", "a", "b"]) (sc := defScope s__law_row_lines) (by decide +kernel)) (fun _ _ _ _ _ => (pg_tupK (K := K) (n := 2) rfl rfl (pgs_cons (pg_name (i := 6) nd rfl (Or.inl rfl)) (pgs_cons (pg_name (i := 7) nd rfl (Or.inl rfl)) pgs_nil)))) (fun _ _ _ _ _ => pts_nil) (fun _ _ _ _ _ => (pe_lst (pa_cons pe_str (pa_cons (pv 6) (pa_cons (pv 7) pa_nil))))))))
      (C8.pss_cut (ps_set (i := 4) nd rfl (Or.inl rfl) (pe_op op_cat (pv 4) (pe_lc (own := [("f", 5)]) (by rfl) nd (pi_tup (pv 2)) (blkOk_by (own := [("f", 5)]) (N := ["row", "claim", "hints", "rule", "lines", "f", "a", "b"]) (sc := defScope s__law_row_lines) (by decide +kernel)) (fun _ _ _ _ _ => (pg_name (i := 5) nd rfl (Or.inl rfl))) (fun _ _ _ _ _ => pts_nil) (fun _ _ _ _ _ => (pe_op op_cat (pe_lst (pa_cons pe_str pa_nil)) (pe_split (pe_cal c__law_written (Room.mono hr (by omega)) (by rfl) (pa_cons (pv 5) pa_nil)) pe_str))))))
      (C8.pss_cut (ps_if (pt_cmpR op_ne (pv 3) pe_str (nomark _))
        (pss_one (ps_expr (pe_bm PySem.F.plainAttrs_list PySem.F.slot_list_append PySem.F.type_list_append mt_append (pv 4) (pa_cons (pe_op op_cat (pe_lst (pa_cons pe_str pa_nil)) (pe_split (pv 3) pe_str)) pa_nil))))
        pss_nil)
      (pss_one (ps_ret (pe_op op_cat (pv 4) (pe_lst (pa_cons (pe_lst (pa_cons pe_str pa_nil)) pa_nil))))))))))))), ?_⟩
    refine ⟨_, rfl, _, _, rfl, ht, rfl, ?_⟩
    tm_at "go"
    refine fun b nb => ?_
    tm_at "go"
    refine fun a na => ?_
    have s1 : Same H (upd (upd H b (.lst [.str (S "claim"), .str r.a, .str (S "with"), .str r.b])) a (.lst [.ref b])) := by tm_at "same"
    have hw : Wls K (upd (upd H b (.lst [.str (S "claim"), .str r.a, .str (S "with"), .str r.b])) a (.lst [.ref b])) [.ref b] [[S "claim", r.a, S "with", r.b]] := by
      refine .cons (List.cons_ne_nil _ _) (SqL.of (xs := [.str (S "claim"), .str r.a, .str (S "with"), .str r.b]) ?_) .nil
      rw [upd_ne (ne_of_none upd_same na), upd_same]
    have ha : upd (upd H b (.lst [.str (S "claim"), .str r.a, .str (S "with"), .str r.b])) a (.lst [.ref b]) a = some (.lst [.ref b]) := upd_same
    replace na : H a = none := by tm_at "free"
    generalize upd (upd H b (.lst [.str (S "claim"), .str r.a, .str (S "with"), .str r.b])) a (.lst [.ref b]) = H1 at s1 hw ha ⊢
    generalize [V.ref b] = vs at hw ha
    refine ⟨fun σ H' => ∃ a vs x5 x6 x7, σ = [some (.ref t), some (.ref tc), some (.ref u2), some (.str r.rule), some (.ref a), x5, x6, x7] ∧ Same H H' ∧ H a = none ∧ H' a = some (.lst vs) ∧ Wls K H' vs ([[S "claim", r.a, S "with", r.b]] ++ r.gs.map (fW (S "given"))), ?_, ?_⟩
    · have hlv := hw.length
      have hll := il3.length
      rw [List.length_map] at hll
      have okl := ok.gl
      have htc1 := s1.tk.tup htc
      have hu1 := s1.tk.tup ha3
      tm_at "go"
      refine ⟨⟨_, hu1⟩, fun D nD => ?_⟩
      have naD : a ≠ D := ne_of_none ha nD
      refine lc_it walk_tup (fun i H' => Same H1 H' ∧ ∃ ws, H' D = some (.lst ws) ∧ Wls K H' ws ((r.gs.take i).map (fW (S "given")))) ⟨same_new nD, [], upd_same, by rw [List.take_zero]; exact .nil⟩ (fun i H' _ ⟨s, _⟩ => s.tk.tup hu1) ?_ ?_
      · rintro i v Hx Hy hlt ⟨sx, ws, hDx, hws⟩ ⟨rfl, hv⟩
        have hwl := hws.length
        rw [List.length_map, List.length_take] at hwl
        obtain ⟨f, hf, him⟩ := ims_at il3 hv
        have hfo := ok.g f (List.mem_of_getElem? hf)
        have himy := (s1.trans sx).tk.im him
        refine ⟨rfl, ?_⟩
        tm_at "go"
        refine fun p np => ?_
        have sp : Same Hy (upd Hy p (.lst [.str (S "given")])) := same_new np
        tm_at "go"
        refine ⟨_, f, rfl, sp.tk.im himy, hfo, fun H5 s5 => ?_⟩
        tm_at "go"
        refine ⟨Nat.le_trans (Nat.add_le_add_right (wr_len hfo) 2) (by decide), ?_⟩
        rw [wr_split hfo]
        refine fun p2 np2 => ?_
        have hp5 : H5 p = some (.lst [.str (S "given")]) := s5 _ _ upd_same
        refine ⟨p, p2, [.str (S "given")], (wd f).map V.str, rfl, rfl, ?_, upd_same, ?_, fun p3 np3 => ?_⟩
        · rw [upd_ne (ne_of_none hp5 np2)]
          exact hp5
        · rw [List.length_map, List.length_singleton]
          have := wd_count hfo
          exact Nat.le_of_lt (small1000 (by omega))
        have sa : Same Hy (upd (upd H5 p2 (.lst ((wd f).map V.str))) p3 (.lst ([.str (S "given")] ++ (wd f).map V.str))) := by tm_at "same"
        have hDa := sa _ _ hDx
        refine ⟨ws, hDa, small1000 (by omega), by tm_at "same", _, upd_same, ?_⟩
        rw [take_snoc hf, List.map_append]
        exact Wls.butL hDa (hws.refs) But.upd (Wls.append (hws.same sa) (Wls.cons (b := p3) (ws := fW (S "given") f) (List.cons_ne_nil _ _) (SqL.of upd_same) .nil))
      · rintro H2 ⟨s2, ws, hD2, hws⟩
        have hwl := hws.length
        rw [List.length_map, List.length_take] at hwl
        rw [List.take_of_length_le (by omega)] at hws
        have hl8 : vs.length ≤ 100 := by
          have o1 := ok.gl; have o2 := ok.sl; have o3 := ok.al; have o4 := ok.kl; have o5 := ok.hl
          rw [hlv]
          simp only [List.length_append, List.length_map, List.length_singleton, List.length_cons, List.length_nil]
          omega
        refine ⟨a, D, vs, ws, rfl, rfl, s2 _ _ ha, hD2, Nat.le_of_lt (small1000 (by omega)), fun a2 na2 => ?_⟩
        exact ⟨a2, _, _, _, _, rfl, by tm_at "same", by tm_at "free", upd_same, Wls.append (hw.same (by tm_at "same")) (hws.same (same_new na2))⟩
    rintro σ H1 ⟨a, vs, x5, x6, x7, rfl, s1, na, ha, hw⟩
    refine ⟨fun σ H' => ∃ a vs x5 x6 x7, σ = [some (.ref t), some (.ref tc), some (.ref u2), some (.str r.rule), some (.ref a), x5, x6, x7] ∧ Same H H' ∧ H a = none ∧ H' a = some (.lst vs) ∧ Wls K H' vs ([[S "claim", r.a, S "with", r.b]] ++ r.gs.map (fW (S "given")) ++ r.ss.map (pW (S "same"))), ?_, ?_⟩
    · have hlv := hw.length
      have hll := il4.length
      rw [List.length_map] at hll
      have okl := ok.sl
      have htc1 := s1.tk.tup htc
      have hu1 := s1.tk.tup ha4
      tm_at "go"
      refine ⟨⟨_, hu1⟩, fun D nD => ?_⟩
      have naD : a ≠ D := ne_of_none ha nD
      refine lc_it walk_tup (fun i H' => Same H1 H' ∧ ∃ ws, H' D = some (.lst ws) ∧ Wls K H' ws ((r.ss.take i).map (pW (S "same")))) ⟨same_new nD, [], upd_same, by rw [List.take_zero]; exact .nil⟩ (fun i H' _ ⟨s, _⟩ => s.tk.tup hu1) ?_ ?_
      · rintro i v Hx Hy hlt ⟨sx, ws, hDx, hws⟩ ⟨rfl, hv⟩
        have hwl := hws.length
        rw [List.length_map, List.length_take] at hwl
        obtain ⟨pr, hf, him⟩ := ims_at il4 hv
        have himy := (s1.trans sx).tk.im him
        obtain ⟨tp, rfl, htp⟩ := qD_inv himy
        refine ⟨_, _, rfl, htp, rfl, ?_⟩
        tm_at "go"
        refine fun p3 np3 => ?_
        have sa : Same Hy (upd Hy p3 (.lst [.str (S "same"), .str pr.1, .str pr.2])) := same_new np3
        have hDa := sa _ _ hDx
        refine ⟨ws, hDa, small1000 (by omega), by tm_at "same", _, upd_same, ?_⟩
        rw [take_snoc hf, List.map_append]
        exact Wls.butL hDa (hws.refs) But.upd (Wls.append (hws.same sa) (Wls.cons (b := p3) (ws := pW (S "same") pr) (List.cons_ne_nil _ _) (SqL.of upd_same) .nil))
      · rintro H2 ⟨s2, ws, hD2, hws⟩
        have hwl := hws.length
        rw [List.length_map, List.length_take] at hwl
        rw [List.take_of_length_le (by omega)] at hws
        have hl8 : vs.length ≤ 100 := by
          have o1 := ok.gl; have o2 := ok.sl; have o3 := ok.al; have o4 := ok.kl; have o5 := ok.hl
          rw [hlv]
          simp only [List.length_append, List.length_map, List.length_singleton, List.length_cons, List.length_nil]
          omega
        refine ⟨a, D, vs, ws, rfl, rfl, s2 _ _ ha, hD2, Nat.le_of_lt (small1000 (by omega)), fun a2 na2 => ?_⟩
        exact ⟨a2, _, _, _, _, rfl, by tm_at "same", by tm_at "free", upd_same, Wls.append (hw.same (by tm_at "same")) (hws.same (same_new na2))⟩
    rintro σ H1 ⟨a, vs, x5, x6, x7, rfl, s1, na, ha, hw⟩
    refine ⟨fun σ H' => ∃ a vs x5 x6 x7, σ = [some (.ref t), some (.ref tc), some (.ref u2), some (.str r.rule), some (.ref a), x5, x6, x7] ∧ Same H H' ∧ H a = none ∧ H' a = some (.lst vs) ∧ Wls K H' vs ([[S "claim", r.a, S "with", r.b]] ++ r.gs.map (fW (S "given")) ++ r.ss.map (pW (S "same")) ++ r.as.map (fW (S "ask"))), ?_, ?_⟩
    · have hlv := hw.length
      have hll := il5.length
      rw [List.length_map] at hll
      have okl := ok.al
      have htc1 := s1.tk.tup htc
      have hu1 := s1.tk.tup ha5
      tm_at "go"
      refine ⟨⟨_, hu1⟩, fun D nD => ?_⟩
      have naD : a ≠ D := ne_of_none ha nD
      refine lc_it walk_tup (fun i H' => Same H1 H' ∧ ∃ ws, H' D = some (.lst ws) ∧ Wls K H' ws ((r.as.take i).map (fW (S "ask")))) ⟨same_new nD, [], upd_same, by rw [List.take_zero]; exact .nil⟩ (fun i H' _ ⟨s, _⟩ => s.tk.tup hu1) ?_ ?_
      · rintro i v Hx Hy hlt ⟨sx, ws, hDx, hws⟩ ⟨rfl, hv⟩
        have hwl := hws.length
        rw [List.length_map, List.length_take] at hwl
        obtain ⟨f, hf, him⟩ := ims_at il5 hv
        have hfo := ok.a' f (List.mem_of_getElem? hf)
        have himy := (s1.trans sx).tk.im him
        refine ⟨rfl, ?_⟩
        tm_at "go"
        refine fun p np => ?_
        have sp : Same Hy (upd Hy p (.lst [.str (S "ask")])) := same_new np
        tm_at "go"
        refine ⟨_, f, rfl, sp.tk.im himy, hfo, fun H5 s5 => ?_⟩
        tm_at "go"
        refine ⟨Nat.le_trans (Nat.add_le_add_right (wr_len hfo) 2) (by decide), ?_⟩
        rw [wr_split hfo]
        refine fun p2 np2 => ?_
        have hp5 : H5 p = some (.lst [.str (S "ask")]) := s5 _ _ upd_same
        refine ⟨p, p2, [.str (S "ask")], (wd f).map V.str, rfl, rfl, ?_, upd_same, ?_, fun p3 np3 => ?_⟩
        · rw [upd_ne (ne_of_none hp5 np2)]
          exact hp5
        · rw [List.length_map, List.length_singleton]
          have := wd_count hfo
          exact Nat.le_of_lt (small1000 (by omega))
        have sa : Same Hy (upd (upd H5 p2 (.lst ((wd f).map V.str))) p3 (.lst ([.str (S "ask")] ++ (wd f).map V.str))) := by tm_at "same"
        have hDa := sa _ _ hDx
        refine ⟨ws, hDa, small1000 (by omega), by tm_at "same", _, upd_same, ?_⟩
        rw [take_snoc hf, List.map_append]
        exact Wls.butL hDa (hws.refs) But.upd (Wls.append (hws.same sa) (Wls.cons (b := p3) (ws := fW (S "ask") f) (List.cons_ne_nil _ _) (SqL.of upd_same) .nil))
      · rintro H2 ⟨s2, ws, hD2, hws⟩
        have hwl := hws.length
        rw [List.length_map, List.length_take] at hwl
        rw [List.take_of_length_le (by omega)] at hws
        have hl8 : vs.length ≤ 100 := by
          have o1 := ok.gl; have o2 := ok.sl; have o3 := ok.al; have o4 := ok.kl; have o5 := ok.hl
          rw [hlv]
          simp only [List.length_append, List.length_map, List.length_singleton, List.length_cons, List.length_nil]
          omega
        refine ⟨a, D, vs, ws, rfl, rfl, s2 _ _ ha, hD2, Nat.le_of_lt (small1000 (by omega)), fun a2 na2 => ?_⟩
        exact ⟨a2, _, _, _, _, rfl, by tm_at "same", by tm_at "free", upd_same, Wls.append (hw.same (by tm_at "same")) (hws.same (same_new na2))⟩
    rintro σ H1 ⟨a, vs, x5, x6, x7, rfl, s1, na, ha, hw⟩
    refine ⟨fun σ H' => ∃ a vs x5 x6 x7, σ = [some (.ref t), some (.ref tc), some (.ref u2), some (.str r.rule), some (.ref a), x5, x6, x7] ∧ Same H H' ∧ H a = none ∧ H' a = some (.lst vs) ∧ Wls K H' vs ([[S "claim", r.a, S "with", r.b]] ++ r.gs.map (fW (S "given")) ++ r.ss.map (pW (S "same")) ++ r.as.map (fW (S "ask")) ++ r.ks.map (pW (S "keep"))), ?_, ?_⟩
    · have hlv := hw.length
      have hll := il6.length
      rw [List.length_map] at hll
      have okl := ok.kl
      have htc1 := s1.tk.tup htc
      have hu1 := s1.tk.tup ha6
      tm_at "go"
      refine ⟨⟨_, hu1⟩, fun D nD => ?_⟩
      have naD : a ≠ D := ne_of_none ha nD
      refine lc_it walk_tup (fun i H' => Same H1 H' ∧ ∃ ws, H' D = some (.lst ws) ∧ Wls K H' ws ((r.ks.take i).map (pW (S "keep")))) ⟨same_new nD, [], upd_same, by rw [List.take_zero]; exact .nil⟩ (fun i H' _ ⟨s, _⟩ => s.tk.tup hu1) ?_ ?_
      · rintro i v Hx Hy hlt ⟨sx, ws, hDx, hws⟩ ⟨rfl, hv⟩
        have hwl := hws.length
        rw [List.length_map, List.length_take] at hwl
        obtain ⟨pr, hf, him⟩ := ims_at il6 hv
        have himy := (s1.trans sx).tk.im him
        obtain ⟨tp, rfl, htp⟩ := qD_inv himy
        refine ⟨_, _, rfl, htp, rfl, ?_⟩
        tm_at "go"
        refine fun p3 np3 => ?_
        have sa : Same Hy (upd Hy p3 (.lst [.str (S "keep"), .str pr.1, .str pr.2])) := same_new np3
        have hDa := sa _ _ hDx
        refine ⟨ws, hDa, small1000 (by omega), by tm_at "same", _, upd_same, ?_⟩
        rw [take_snoc hf, List.map_append]
        exact Wls.butL hDa (hws.refs) But.upd (Wls.append (hws.same sa) (Wls.cons (b := p3) (ws := pW (S "keep") pr) (List.cons_ne_nil _ _) (SqL.of upd_same) .nil))
      · rintro H2 ⟨s2, ws, hD2, hws⟩
        have hwl := hws.length
        rw [List.length_map, List.length_take] at hwl
        rw [List.take_of_length_le (by omega)] at hws
        have hl8 : vs.length ≤ 100 := by
          have o1 := ok.gl; have o2 := ok.sl; have o3 := ok.al; have o4 := ok.kl; have o5 := ok.hl
          rw [hlv]
          simp only [List.length_append, List.length_map, List.length_singleton, List.length_cons, List.length_nil]
          omega
        refine ⟨a, D, vs, ws, rfl, rfl, s2 _ _ ha, hD2, Nat.le_of_lt (small1000 (by omega)), fun a2 na2 => ?_⟩
        exact ⟨a2, _, _, _, _, rfl, by tm_at "same", by tm_at "free", upd_same, Wls.append (hw.same (by tm_at "same")) (hws.same (same_new na2))⟩
    rintro σ H1 ⟨a, vs, x5, x6, x7, rfl, s1, na, ha, hw⟩
    refine ⟨fun σ H' => ∃ a vs x5 x6 x7, σ = [some (.ref t), some (.ref tc), some (.ref u2), some (.str r.rule), some (.ref a), x5, x6, x7] ∧ Same H H' ∧ H a = none ∧ H' a = some (.lst vs) ∧ Wls K H' vs ([[S "claim", r.a, S "with", r.b]] ++ r.gs.map (fW (S "given")) ++ r.ss.map (pW (S "same")) ++ r.as.map (fW (S "ask")) ++ r.ks.map (pW (S "keep")) ++ r.hs.map (fW (S "hint"))), ?_, ?_⟩
    · have hlv := hw.length
      have hll := ihs.length
      rw [List.length_map] at hll
      have okl := ok.hl
      have htc1 := s1.tk.tup htc
      have hu1 := s1.tk.tup hu2
      tm_at "go"
      refine ⟨⟨_, hu1⟩, fun D nD => ?_⟩
      have naD : a ≠ D := ne_of_none ha nD
      refine lc_it walk_tup (fun i H' => Same H1 H' ∧ ∃ ws, H' D = some (.lst ws) ∧ Wls K H' ws ((r.hs.take i).map (fW (S "hint")))) ⟨same_new nD, [], upd_same, by rw [List.take_zero]; exact .nil⟩ (fun i H' _ ⟨s, _⟩ => s.tk.tup hu1) ?_ ?_
      · rintro i v Hx Hy hlt ⟨sx, ws, hDx, hws⟩ ⟨rfl, hv⟩
        have hwl := hws.length
        rw [List.length_map, List.length_take] at hwl
        obtain ⟨f, hf, him⟩ := ims_at ihs hv
        have hfo := ok.h f (List.mem_of_getElem? hf)
        have himy := (s1.trans sx).tk.im him
        refine ⟨rfl, ?_⟩
        tm_at "go"
        refine fun p np => ?_
        have sp : Same Hy (upd Hy p (.lst [.str (S "hint")])) := same_new np
        tm_at "go"
        refine ⟨_, f, rfl, sp.tk.im himy, hfo, fun H5 s5 => ?_⟩
        tm_at "go"
        refine ⟨Nat.le_trans (Nat.add_le_add_right (wr_len hfo) 2) (by decide), ?_⟩
        rw [wr_split hfo]
        refine fun p2 np2 => ?_
        have hp5 : H5 p = some (.lst [.str (S "hint")]) := s5 _ _ upd_same
        refine ⟨p, p2, [.str (S "hint")], (wd f).map V.str, rfl, rfl, ?_, upd_same, ?_, fun p3 np3 => ?_⟩
        · rw [upd_ne (ne_of_none hp5 np2)]
          exact hp5
        · rw [List.length_map, List.length_singleton]
          have := wd_count hfo
          exact Nat.le_of_lt (small1000 (by omega))
        have sa : Same Hy (upd (upd H5 p2 (.lst ((wd f).map V.str))) p3 (.lst ([.str (S "hint")] ++ (wd f).map V.str))) := by tm_at "same"
        have hDa := sa _ _ hDx
        refine ⟨ws, hDa, small1000 (by omega), by tm_at "same", _, upd_same, ?_⟩
        rw [take_snoc hf, List.map_append]
        exact Wls.butL hDa (hws.refs) But.upd (Wls.append (hws.same sa) (Wls.cons (b := p3) (ws := fW (S "hint") f) (List.cons_ne_nil _ _) (SqL.of upd_same) .nil))
      · rintro H2 ⟨s2, ws, hD2, hws⟩
        have hwl := hws.length
        rw [List.length_map, List.length_take] at hwl
        rw [List.take_of_length_le (by omega)] at hws
        have hl8 : vs.length ≤ 100 := by
          have o1 := ok.gl; have o2 := ok.sl; have o3 := ok.al; have o4 := ok.kl; have o5 := ok.hl
          rw [hlv]
          simp only [List.length_append, List.length_map, List.length_singleton, List.length_cons, List.length_nil]
          omega
        refine ⟨a, D, vs, ws, rfl, rfl, s2 _ _ ha, hD2, Nat.le_of_lt (small1000 (by omega)), fun a2 na2 => ?_⟩
        exact ⟨a2, _, _, _, _, rfl, by tm_at "same", by tm_at "free", upd_same, Wls.append (hw.same (by tm_at "same")) (hws.same (same_new na2))⟩
    rintro σ H1 ⟨a, vs, x5, x6, x7, rfl, s1, na, ha, hw⟩
    have hr0 : ∀ z ∈ rules7 ++ [S "any", S "any", S "any"], z.length ≤ 20 ∧ (Txt.split z (S " ")).length ≤ 5 := by decide +kernel
    obtain ⟨hrl, hrs⟩ := hr0 _ ok.ru
    have hlv := hw.length
    have hl8 : vs.length ≤ 100 := by
      have o1 := ok.gl; have o2 := ok.sl; have o3 := ok.al; have o4 := ok.kl; have o5 := ok.hl
      rw [hlv]
      simp only [List.length_append, List.length_map, List.length_singleton, List.length_cons, List.length_nil]
      omega
    refine ⟨fun σ H' => ∃ vs, σ = [some (.ref t), some (.ref tc), some (.ref u2), some (.str r.rule), some (.ref a), x5, x6, x7] ∧ vs.length ≤ 101 ∧ Same H H' ∧ H' a = some (.lst vs) ∧ Wls K H' vs ([[S "claim", r.a, S "with", r.b]] ++ r.gs.map (fW (S "given")) ++ r.ss.map (pW (S "same")) ++ r.as.map (fW (S "ask")) ++ r.ks.map (pW (S "keep")) ++ r.hs.map (fW (S "hint")) ++ (if r.rule = S "any" then [] else [S "walk" :: Txt.split r.rule (S " ")])), ?_, ?_⟩
    · tm_at "go"
      refine ite2 (fun c => ?_) (fun c => ?_)
      · have c1 : ¬ r.rule = S "any" := fun z => by
          rw [decide_eq_true (congrArg V.str z)] at c
          exact absurd c (by decide)
        tm_at "go"
        refine fun p np => ?_
        tm_at "go"
        refine fun p2 np2 => ?_
        have hp : upd H1 p (.lst [.str (S "walk")]) p = some (.lst [.str (S "walk")]) := upd_same
        refine ⟨p, p2, [.str (S "walk")], (Txt.split r.rule (S " ")).map V.str, rfl, rfl, ?_, upd_same, ?_, fun p3 np3 => ?_⟩
        · rw [upd_ne (ne_of_none hp np2)]
          exact hp
        · rw [List.length_map, List.length_singleton]
          exact Nat.le_of_lt (small1000 (by omega))
        have sa : Same H1 (upd (upd (upd H1 p (.lst [.str (S "walk")])) p2 (.lst ((Txt.split r.rule (S " ")).map V.str))) p3 (.lst ([.str (S "walk")] ++ (Txt.split r.rule (S " ")).map V.str))) := by tm_at "same"
        have ha3 := sa _ _ ha
        refine ⟨a, vs, .ref p3, rfl, rfl, ha3, small1000 (by omega), ?_⟩
        refine ⟨_, rfl, by rw [List.length_append, List.length_singleton]; omega, (s1.trans sa).upd na, upd_same, ?_⟩
        rw [if_neg c1]
        exact Wls.butL ha3 (hw.refs) But.upd (Wls.append (hw.same sa) (Wls.cons (b := p3) (ws := S "walk" :: Txt.split r.rule (S " ")) (List.cons_ne_nil _ _) (SqL.of upd_same) .nil))
      · have c1 : r.rule = S "any" := by
          by_cases z : r.rule = S "any"
          · exact z
          · exact absurd (show (!decide (V.str r.rule = V.str (S "any"))) = true by rw [decide_eq_false (fun e => z (V.str.inj e))]; rfl) c
        refine ⟨vs, rfl, by omega, s1, ha, ?_⟩
        rw [if_pos c1, List.append_nil]
        exact hw
    · rintro σ H2 ⟨vs2, rfl, hl2, s2, ha2, hw2⟩
      tm_at "go"
      refine fun p np => ?_
      tm_at "go"
      refine fun p2 np2 => ?_
      have sp : Same H2 (upd (upd H2 p (.lst [.str (S "end")])) p2 (.lst [.ref p])) := by tm_at "same"
      refine ⟨a, p2, vs2, [.ref p], rfl, rfl, sp _ _ ha2, upd_same, ?_, fun p3 np3 => ?_⟩
      · rw [List.length_singleton]
        exact Nat.le_of_lt (small1000 (by omega))
      have sp3 : Same H2 (upd (upd (upd H2 p (.lst [.str (S "end")])) p2 (.lst [.ref p])) p3 (.lst (vs2 ++ [.ref p]))) := by tm_at "same"
      have hpe : upd (upd (upd H2 p (.lst [.str (S "end")])) p2 (.lst [.ref p])) p3 (.lst (vs2 ++ [.ref p])) p = some (.lst [.str (S "end")]) := by
        have h1 : upd H2 p (.lst [.str (S "end")]) p = some (.lst [.str (S "end")]) := upd_same
        have h2 : upd (upd H2 p (.lst [.str (S "end")])) p2 (.lst [.ref p]) p = some (.lst [.str (S "end")]) := by
          rw [upd_ne (ne_of_none h1 np2)]
          exact h1
        rw [upd_ne (ne_of_none h2 np3)]
        exact h2
      refine q p3 _ _ (s2.trans sp3) ?_ upd_same ?_
      · exact sameFreeR (sameFreeR np3 (by tm_at "same")) s2
      · exact Wls.append (hw2.same sp3) (Wls.cons (b := p) (ws := [S "end"]) (List.cons_ne_nil _ _) (SqL.of hpe) .nil)
end
end C
set_option Elab.async false
set_option linter.all false
set_option maxRecDepth 100000
set_option maxHeartbeats 4000000
/-! Q2: blanks between words; lines that hold words. -/
namespace M
open PySem PySem.Spec PyProof.Rows L2 Kx TL
theorem mul_blank (n : Nat) : tl (Txt.mul (S " ") (n : Int)) = List.replicate n 32 := by
  unfold Txt.mul
  by_cases h0 : n = 0
  · subst h0
    rfl
  rw [if_neg (by omega)]
  by_cases h1 : n = 1
  · subst h1
    exact (by decide +kernel : tl (S " ") = [32])
  · rw [if_neg (by
      have a : ((n : Int) == 1) = false := by
        rw [beq_eq_false_iff_ne]
        omega
      have b : ((S " ").length == 0) = false := by decide +kernel
      rw [a, b]
      decide)]
    have key : ∀ (m : Nat) (acc : Array Nat), ((List.replicate m (S " ").cps).foldl (· ++ ·) acc).toList = acc.toList ++ List.replicate m 32 := by
      intro m
      induction m with
      | zero =>
        intro acc
        exact (List.append_nil _).symm
      | succ m ih =>
        intro acc
        rw [List.replicate_succ, List.foldl_cons, ih, Array.toList_append, List.replicate_succ, List.append_assoc]
        rfl
    have := key n #[]
    exact this
theorem mul_ok {n : Nat} (h : n ≤ 1000) : MulOk (S " ") (n : Int) := by
  have e : (S " ").length = 1 := by decide +kernel
  have e63 : (2 : Int) ^ 63 = 9223372036854775808 := by decide
  refine ⟨?_, fun h1 h2 => ?_, fun h1 h2 => ?_⟩
  · rw [decide_eq_false (by rw [e63]; omega), decide_eq_false (by rw [e63]; omega)]
    rfl
  · rw [e, e63]
    have : (1 : Int) ≤ (9223372036854775808 - 1) / (n : Int) := Int.le_ediv_of_mul_le (by omega) (by omega)
    omega
  · rw [e, Nat.one_mul, Int.toNat_natCast]
    show decide (n > sizeLine) = false
    have : (1000 : Nat) ≤ sizeLine := by decide
    exact decide_eq_false (by omega)
theorem wfold_blanks : ∀ (n : Nat) (pre : List (List Nat)) (u : List Nat), (List.replicate n 32).foldl wstep (pre, u) = if n = 0 then (pre, u) else (wfin (pre, u), [])
  | 0, _, _ => rfl
  | n + 1, pre, u => by
    rw [List.replicate_succ, List.foldl_cons, if_neg (by omega)]
    have e : wstep (pre, u) 32 = (wfin (pre, u), []) := by
      have a : wstep (pre, u) 32 = (if u = [] then (pre, u) else (pre ++ [u], [])) := if_pos sp32
      rw [a]
      unfold wfin
      by_cases h : u = []
      · rw [if_pos h, if_pos h, h]
      · rw [if_neg h, if_neg h]
    rw [e, wfold_blanks n]
    have e2 : wfin (wfin (pre, u), []) = wfin (pre, u) := if_pos rfl
    by_cases h : n = 0
    · rw [if_pos h]
    · rw [if_neg h, e2]
/-- a text whose words so far are W; nothing is under way where z holds -/
structure Spc (T : Str) (W : List Str) (z : Prop) : Prop where
  st : ∃ pre u, (tl T).foldl wstep ([], []) = (pre, u) ∧ wfin (pre, u) = W.map tl ∧ (z → u = [])
  nl : 10 ∉ tl T
theorem Spc.mono {T : Str} {W : List Str} {z y : Prop} (h : Spc T W z) (q : y → z) : Spc T W y := by
  obtain ⟨⟨pre, u, e, f, g⟩, nl⟩ := h
  exact ⟨⟨pre, u, e, f, fun k => g (q k)⟩, nl⟩
theorem Spc.words {T : Str} {W : List Str} {z : Prop} (h : Spc T W z) : Txt.words T = W := by
  obtain ⟨pre, u, e, f, _⟩ := h.st
  have g := words_tl T
  rw [e, f] at g
  have inj : ∀ {l m : List Str}, l.map tl = m.map tl → l = m := by
    intro l
    induction l with
    | nil =>
      intro m h
      cases m with
      | nil => rfl
      | cons _ _ => cases h
    | cons a r ih =>
      intro m h
      cases m with
      | nil => cases h
      | cons b s =>
        rw [List.map_cons, List.map_cons] at h
        injection h with h1 h2
        rw [ext_tl h1, ih h2]
  exact inj g
theorem blank_free (n : Nat) : 10 ∉ List.replicate n 32 := fun h => by
  have := (List.mem_replicate.mp h).2
  omega
theorem Spc.start (n : Nat) (z : Prop) : Spc (Txt.mul (S " ") (n : Int)) [] z := by
  refine ⟨?_, by rw [mul_blank]; exact blank_free n⟩
  rw [mul_blank, wfold_blanks]
  by_cases h : n = 0
  · rw [if_pos h]
    exact ⟨_, _, rfl, rfl, fun _ => rfl⟩
  · rw [if_neg h]
    exact ⟨_, _, rfl, rfl, fun _ => rfl⟩
theorem Spc.blanks {T : Str} {W : List Str} {z : Prop} (h : Spc T W z) (n : Nat) (y : Prop) (hy : y → z ∨ n ≠ 0) : Spc (T ++ Txt.mul (S " ") (n : Int)) W y := by
  obtain ⟨⟨pre, u, e, f, g⟩, nl⟩ := h
  refine ⟨?_, ?_⟩
  · rw [tl_append, mul_blank, List.foldl_append, e, wfold_blanks]
    by_cases h : n = 0
    · rw [if_pos h]
      exact ⟨_, _, rfl, f, fun q => (hy q).elim g fun n => absurd h n⟩
    · rw [if_neg h]
      exact ⟨_, _, rfl, (show wfin (wfin (pre, u), []) = W.map tl from (if_pos rfl : wfin (wfin (pre, u), []) = wfin (pre, u)).trans f), fun _ => rfl⟩
  · rw [tl_append, mul_blank]
    exact fun m => (List.mem_append.mp m).elim nl (blank_free n)
theorem Spc.word {T : Str} {W : List Str} {x : Str} (h : Spc T W True) (hx : Clean x) : Spc (T ++ x) (W ++ [x]) False := by
  obtain ⟨⟨pre, u, e, f, g⟩, nl⟩ := h
  obtain rfl := g trivial
  have f2 : pre = W.map tl := (show wfin (pre, []) = pre from if_pos rfl).symm.trans f
  refine ⟨?_, ?_⟩
  · rw [tl_append, List.foldl_append, e, wfold_word _ _ _ hx.2, List.nil_append]
    refine ⟨_, _, rfl, ?_, fun q => q.elim⟩
    rw [List.map_append, ← f2]
    exact if_neg hx.1
  · rw [tl_append]
    exact fun m => (List.mem_append.mp m).elim nl (hx.no sp10)
/-! ### lines that hold words -/
structure Lay (ls : List Str) (W : List (List Str)) : Prop where
  ws : (ls.map Txt.words).filter (fun w => !w.isEmpty) = W
  nl : ∀ x ∈ ls, 10 ∉ tl x
  len : ∀ x ∈ ls, x.length ≤ 20000
theorem Lay.nil : Lay [] [] := ⟨rfl, fun _ h => (by cases h), fun _ h => (by cases h)⟩
theorem Lay.append {ls ms : List Str} {W X : List (List Str)} (a : Lay ls W) (b : Lay ms X) : Lay (ls ++ ms) (W ++ X) := by
  refine ⟨?_, fun x h => ?_, fun x h => ?_⟩
  · rw [List.map_append, List.filter_append, a.ws, b.ws]
  · exact (List.mem_append.mp h).elim (a.nl x) (b.nl x)
  · exact (List.mem_append.mp h).elim (a.len x) (b.len x)
theorem Lay.one {T : Str} {ws : List Str} (hw : Txt.words T = ws) (hn : 10 ∉ tl T) (hl : T.length ≤ 20000) (h0 : ws ≠ []) : Lay [T] [ws] := by
  refine ⟨?_, fun x h => ?_, fun x h => ?_⟩
  · rw [List.map_singleton, hw, List.filter_cons_of_pos]
    · rfl
    · cases ws with
      | nil => exact absurd rfl h0
      | cons _ _ => rfl
  · rw [List.mem_singleton.mp h]
    exact hn
  · rw [List.mem_singleton.mp h]
    exact hl
theorem Lay.blank {T : Str} (hw : Txt.words T = []) (hn : 10 ∉ tl T) (hl : T.length ≤ 20000) : Lay [T] [] := by
  refine ⟨?_, fun x h => ?_, fun x h => ?_⟩
  · rw [List.map_singleton, hw]
    rfl
  · rw [List.mem_singleton.mp h]
    exact hn
  · rw [List.mem_singleton.mp h]
    exact hl
theorem len_blank (n : Nat) : (Txt.mul (S " ") (n : Int)).length = n := by
  rw [len_tl, mul_blank, List.length_replicate]
theorem Lay.blanks {n : Nat} (h : n ≤ 1000) : Lay [Txt.mul (S " ") (n : Int)] [] :=
  .blank (Spc.start n True).words (Spc.start n True).nl (by rw [len_blank]; omega)
/-- words of a line -/
structure WOk (ws : List Str) : Prop where
  cl : ∀ x ∈ ws, Clean x ∧ x.length ≤ 162
  le : ws.length ≤ 102
end M
set_option Elab.async false
set_option linter.all false
set_option pp.maxSteps 1500
set_option maxRecDepth 100000
set_option maxHeartbeats 4000000
namespace C
open PySem PySem.Spec PyProof.Rows L2 Kx M TL
local macro_rules | `(tactic| tm_at "same") => `(tactic| first
  | assumption
  | exact L2.Same.refl _
  | exact L2.Same.upd (by tm_at "same") (by tm_at "free")
  | exact sameTransR (by assumption) (by tm_at "same"))
local macro_rules | `(tactic| tm_at "free") => `(tactic| first
  | assumption
  | exact sameFreeR (by assumption) (by tm_at "same"))
local macro_rules | `(tactic| tm_at "but") => `(tactic| first
  | assumption
  | exact But.refl _ _
  | exact But.transR (by assumption) (by tm_at "but")
  | exact But.upd
  | exact But.self (by tm_at "but")
  | exact But.new1 (by tm_at "but") (by assumption)
  | exact But.new (by tm_at "but") (by tm_at "free")
  | exact L2.Same.but (by assumption) _)
local macro_rules | `(tactic| tm_at "fact") => `(tactic| first
  | exact upd_same
  | assumption
  | exact SqL.of upd_same
  | exact SqT.of upd_same
  | exact SqL.of (by assumption)
  | exact SqT.of (by assumption)
  | exact But.lstR (by assumption) (by assumption) (by tm_at "but"))
local macro_rules | `(tactic| tm_at "cond") => `(tactic| first
  | rfl
  | assumption
  | decide
  | omega
  | exact ⟨by decide, by decide⟩
  | exact .inr ⟨by decide, by decide⟩
  | exact .inl ⟨by decide, by decide⟩
  | exact ⟨by decide, by decide, by decide⟩
  | exact cdivw (by assumption) (by assumption)
  | exact log2_ok (by assumption)
  | exact Or.inl ⟨rfl, _, SqL.of upd_same⟩
  | exact Or.inl ⟨rfl, _, SqL.of (by assumption)⟩
  | exact ⟨_, rfl⟩
  | exact Nat.le_of_ble_eq_true rfl
  | exact small1000 (by omega))
local macro_rules | `(tactic| tm_at "prop") => `(tactic| first
  | assumption
  | omega)
local macro_rules | `(tactic| tm_at "s") => `(tactic| first
  | refine ⟨_, rfl, ?_⟩
  | refine ⟨_, _, rfl, rfl, ?_⟩
  | refine ⟨_, _, _, rfl, rfl, (by tm_at "fact"), (by tm_at "cond"), ?_⟩
  | refine ⟨_, _, _, _, rfl, rfl, (by tm_at "fact"), rfl, ?_⟩
  | refine ⟨_, _, rfl, (by tm_at "fact"), ?_⟩
  | refine And.intro (by tm_at "cond") ?_
  | refine .inl ⟨_, rfl, ?_⟩
  | refine ⟨_, _, rfl, .inl (by tm_at "fact"), ?_⟩
  | refine dec_false (by tm_at "prop") ?_
  | refine dec_true (by tm_at "prop") ?_
  | refine decN_false (by tm_at "prop") ?_
  | refine decN_true (by tm_at "prop") ?_
  | refine iteT ?_
  | refine iteF ?_
  | refine ⟨_, _, rfl, ?_⟩)
local macro_rules | `(tactic| tm_at "go") => `(tactic| repeat tm_at "s")

section
variable {P : Program} {w : World} {K : PySem.W.Frag} {mg : Str → Option Value} {base : Heap} {aH aR : Addr}
/-! ### a class that is called -/
structure KDef (K : PySem.W.Frag) (Cl : Addr) (qual : Str) (st : Stmt) (ps : List Str) : Prop where
  ex : ∃ (f : Addr) (fd : FuncData), Fun K "__init__" qual st f fd ∧ Mk K Cl f ∧ Binds K fd ps []
structure KCal (P : Program) (w : World) (K : PySem.W.Frag) (mg : Str → Option Value) (base : Heap) (CX : CXT) (k : Nat) (Cl : Addr) (ps : List Str) (sp : Sp) : Prop where
  ex : ∃ (f : Addr) (fd : FuncData), FnOk P w K mg base CX k f fd ps sp ∧ Mk K Cl f ∧ Binds K fd ps []
theorem KCal.mono {j k : Nat} {CX : CXT} {Cl : Addr} {ps : List Str} {sp : Sp} (c : KCal P w K mg base CX j Cl ps sp) (h : j ≤ k) : KCal P w K mg base CX k Cl ps sp := by
  obtain ⟨f, fd, a, b, d⟩ := c.ex
  exact ⟨f, fd, a.mono h, b, d⟩
theorem KDef.cal {CX : CXT} {k : Nat} {Cl : Addr} {qual : Str} {st : Stmt} {ps : List Str} {sp : Sp} (D : KDef K Cl qual st ps)
    (h : ∀ f fd, Fun K "__init__" qual st f fd → FnOk P w K mg base CX k f fd ps sp) : KCal P w K mg base CX k Cl ps sp := by
  obtain ⟨f, fd, a, b, c⟩ := D.ex
  exact ⟨f, fd, h f fd a, b, c⟩
theorem pe_kcal {X : Cx} {k : Nat} {x : Str} {Cl : Addr} {ps : List Str} {sp : Sp} {p pos : Pos} (c : KCal X.prog X.w X.K X.mg X.base CX0 k Cl ps sp) (hr : Room (k + 1) X.A) (hg : Gl X x) (hm : X.mg x = some (.ref Cl))
    (hdb : (x == ("__debug__" : Str)) = false := by decide) : PE X (.Call (.Name x p) [] [] pos) (tMake Cl sp [] E0 tNil) := by
  obtain ⟨f, fd, F, M, b⟩ := c.ex
  exact pe_make0 M F hr hg hm b .nil pass0 hdb
/-! ### the reader in the heap -/
def heads6 : List Str := [S "given", S "same", S "ask", S "keep", S "hint", S "walk"]
def partKV (ads : List Addr) : List (Key × V) := (heads6.zip ads).map fun p => (Sum.inr p.1, V.ref p.2)
structure RS where
  rows : List PyData
  names : Option (Str × Str)
  cont : List (List PyData)
  stage : Int
def nmV : Option (Str × Str) → List V
  | none => []
  | some p => [.str p.1, .str p.2]
def nmD : Option (Str × Str) → List PyData
  | none => []
  | some p => [.str p.1, .str p.2]
theorem nm_ims {K : PySem.W.Frag} {H : Hp} : ∀ n : Option (Str × Str), Ims K H (nmV n) (nmD n)
  | none => .nil
  | some p => .cons (.str _) (.cons (.str _) .nil)
def flds (a b c d : V) : List (Str × V) := [(S "found", a), (S "names", b), (S "parts", c), (S "stage", d)]
theorem sk {f g : Str} {v x : V} {r : List (Str × V)} (h : ¬ g = f) : putF f v ((g, x) :: r) = (g, x) :: putF f v r := if_neg h
theorem ht {f : Str} {v x : V} {r : List (Str × V)} : putF f v ((f, x) :: r) = (f, v) :: r := if_pos rfl
theorem n12 : ¬ S "found" = S "names" := by decide +kernel
theorem n13 : ¬ S "found" = S "parts" := by decide +kernel
theorem n14 : ¬ S "found" = S "stage" := by decide +kernel
theorem n23 : ¬ S "names" = S "parts" := by decide +kernel
theorem n24 : ¬ S "names" = S "stage" := by decide +kernel
theorem n34 : ¬ S "parts" = S "stage" := by decide +kernel
theorem pf2 (a b : V) : putF (S "names") b [(S "found", a)] = [(S "found", a), (S "names", b)] := sk n12
theorem pf3 (a b c : V) : putF (S "parts") c [(S "found", a), (S "names", b)] = [(S "found", a), (S "names", b), (S "parts", c)] := by rw [sk n13, sk n23] <;> rfl
theorem pf4 (a b c d : V) : putF (S "stage") d [(S "found", a), (S "names", b), (S "parts", c)] = flds a b c d := by rw [sk n14, sk n24, sk n34] <;> rfl
theorem pu2 (a b c d v : V) : putF (S "names") v (flds a b c d) = flds a v c d := by
  unfold flds
  rw [sk n12, ht]
theorem pu3 (a b c d v : V) : putF (S "parts") v (flds a b c d) = flds a b v d := by
  unfold flds
  rw [sk n13, sk n23, ht]
theorem pu4 (a b c d v : V) : putF (S "stage") v (flds a b c d) = flds a b c v := by
  unfold flds
  rw [sk n14, sk n24, sk n34, ht]
theorem lk {f g : Str} {x : V} {r : List (Str × V)} (h : ¬ g = f) : ((g, x) :: r).lookup f = r.lookup f := by
  have hb : (f == g) = false := beq_eq_false_iff_ne.mpr fun e => h e.symm
  simp only [List.lookup, hb]
theorem lh {f : Str} {x : V} {r : List (Str × V)} : ((f, x) :: r).lookup f = some x := by
  have hb : (f == f) = true := beq_iff_eq.mpr rfl
  simp only [List.lookup, hb]
theorem lk1 (a b c d : V) : (flds a b c d).lookup (S "found") = some a := lh
theorem lk2 (a b c d : V) : (flds a b c d).lookup (S "names") = some b := by
  unfold flds
  rw [lk n12, lh]
theorem lk3 (a b c d : V) : (flds a b c d).lookup (S "parts") = some c := by
  unfold flds
  rw [lk n13, lk n23, lh]
theorem lk4 (a b c d : V) : (flds a b c d).lookup (S "stage") = some d := by
  unfold flds
  rw [lk n14, lk n24, lk n34, lh]
/-- the reader rd stands in H; all of H0 is left as it is -/
structure RdIn (K : PySem.W.Frag) (Cl rd : Addr) (H0 H : Hp) (s : RS) (dx lf tn d : Addr) (vs : List V) (ads : List Addr) : Prop where
  same : Same H0 H
  ins : H rd = some (.ins Cl dx (flds (.ref lf) (.ref tn) (.ref d) (.int s.stage)))
  n0 : H0 rd = none
  lst : H lf = some (.lst vs)
  nl : H0 lf = none
  rows : Ims K H vs s.rows
  nms : SqT K H tn (nmV s.names)
  prt : H d = some (.dK (partKV ads))
  len : ads.length = s.cont.length
  six : s.names ≠ none → s.cont.length = 6
  nd : ads.Nodup
  lf_ads : lf ∉ ads
  na : ∀ a ∈ ads, H0 a = none
  at_ : ∀ (i : Nat) (a : Addr) (ds : List PyData), ads[i]? = some a → s.cont[i]? = some ds → ∃ ws, H a = some (.lst ws) ∧ Ims K H ws ds
def RdAt (K : PySem.W.Frag) (Cl rd : Addr) (H0 H : Hp) (s : RS) : Prop := ∃ dx lf tn d vs ads, RdIn K Cl rd H0 H s dx lf tn d vs ads
structure Rk (K : PySem.W.Frag) (Cl : Addr) : Prop where
  cl : Cls K Cl
  nF : NoAttr K Cl "found"
  nN : NoAttr K Cl "names"
  nP : NoAttr K Cl "parts"
  nS : NoAttr K Cl "stage"
def s0 : RS := ⟨[], none, [], -1⟩
def spInit (K : PySem.W.Frag) (Cl : Addr) : Sp := fun vs H Q _ => ∃ (rd dx : Addr) (H0 : Hp), vs = [.ref rd] ∧ H rd = some (.ins Cl dx []) ∧ Same H0 H ∧ H0 rd = none ∧ ∀ H', RdAt K Cl rd H0 H' s0 → Q .non H'
theorem sc_ClaimReader___init__ : FnScope ["self"] ["self"] (defScope s_ClaimReader___init__) := ⟨rfl, rfl, rfl, by decide +kernel, rfl, by decide +kernel, by decide +kernel⟩
theorem ok_init {k : Nat} {Cl : Addr} (D : KDef K Cl "ClaimReader.__init__" s_ClaimReader___init__ ["self"]) (R : Rk K Cl) : KCal P w K mg base CX0 (k + 1) Cl ["self"] (spInit K Cl) := by
  refine D.cal fun f fd F => F.ok sc_ClaimReader___init__ (fun vs H Q E h => ?_) (fun cdv A outer s H vs Q E hr h => ?_)
  · obtain ⟨rd, dx, H0, rfl, _⟩ := h
    rfl
  · obtain ⟨rd, dx, H0, rfl, hrd, sm, n0, q⟩ := h
    have nd := sc_ClaimReader___init__.nd
    refine ⟨_, (pss_cons (ps_fld (pv 0) (pe_lst pa_nil) rfl)
      (pss_cons (ps_fld (pv 0) (pe_tup pa_nil) rfl)
      (pss_cons (ps_fld (pv 0) pe_dnewK rfl)
      (pss_one (ps_fld (pv 0) (pe_un un_neg pe_int) rfl))))), ?_⟩
    tm_at "go"
    refine fun lf nlf => ?_
    have hrd1 : upd H lf (.lst []) rd = some (.ins Cl dx []) := by
      rw [upd_ne (ne_of_none hrd nlf)]
      exact hrd
    refine ⟨_, rfl, rd, Cl, dx, [], rfl, hrd1, R.cl, R.nF, by decide, ?_⟩
    tm_at "go"
    refine fun tn ntn => ?_
    have hrd2 : upd (upd (upd H lf (.lst [])) rd (.ins Cl dx [(S "found", .ref lf)])) tn (.tup []) rd = some (.ins Cl dx [(S "found", .ref lf)]) := by
      rw [upd_ne (ne_of_none upd_same ntn), upd_same]
    refine ⟨_, rfl, rd, Cl, dx, _, rfl, hrd2, R.cl, R.nN, Nat.le_of_ble_eq_true rfl, ?_⟩
    rw [pf2]
    refine fun d ndd => ?_
    have hrd3 : upd (upd (upd (upd (upd H lf (.lst [])) rd (.ins Cl dx [(S "found", .ref lf)])) tn (.tup [])) rd (.ins Cl dx [(S "found", .ref lf), (S "names", .ref tn)])) d (.dK []) rd = some (.ins Cl dx [(S "found", .ref lf), (S "names", .ref tn)]) := by
      rw [upd_ne (ne_of_none upd_same ndd), upd_same]
    refine ⟨_, rfl, rd, Cl, dx, _, rfl, hrd3, R.cl, R.nP, Nat.le_of_ble_eq_true rfl, ?_⟩
    rw [pf3]
    tm_at "go"
    refine ⟨rd, Cl, dx, _, rfl, upd_same, R.cl, R.nS, Nat.le_of_ble_eq_true rfl, ?_⟩
    rw [pf4]
    have ne1 : rd ≠ lf := ne_of_none hrd nlf
    have hl2 : upd (upd H lf (.lst [])) rd (.ins Cl dx [(S "found", .ref lf)]) lf = some (.lst []) := by
      rw [upd_ne ne1.symm, upd_same]
    have ne2 : lf ≠ tn := ne_of_none hl2 ntn
    have ne3 : rd ≠ tn := ne_of_none upd_same ntn
    have hl3 : upd (upd (upd (upd H lf (.lst [])) rd (.ins Cl dx [(S "found", .ref lf)])) tn (.tup [])) rd (.ins Cl dx [(S "found", .ref lf), (S "names", .ref tn)]) lf = some (.lst []) := by
      rw [upd_ne ne1.symm, upd_ne ne2]
      exact hl2
    have ht3 : upd (upd (upd (upd H lf (.lst [])) rd (.ins Cl dx [(S "found", .ref lf)])) tn (.tup [])) rd (.ins Cl dx [(S "found", .ref lf), (S "names", .ref tn)]) tn = some (.tup []) := by
      rw [upd_ne ne3.symm, upd_same]
    have ne4 : lf ≠ d := ne_of_none hl3 ndd
    have ne5 : tn ≠ d := ne_of_none ht3 ndd
    have ne6 : rd ≠ d := ne_of_none upd_same ndd
    refine q _ ⟨dx, lf, tn, d, [], [], ?_, upd_same, n0, ?_, by tm_at "free", .nil, SqT.of ?_, ?_, rfl, fun z => absurd rfl z, List.nodup_nil, fun z => (by cases z), fun a z => (by cases z), fun i a ds z => (by cases z)⟩
    · tm_at "same"
    · rw [upd_ne ne1.symm, upd_ne ne1.symm, upd_ne ne4]
      exact hl3
    · rw [upd_ne ne3.symm, upd_ne ne3.symm, upd_ne ne5]
      exact ht3
    · rw [upd_ne ne6.symm, upd_ne ne6.symm, upd_same]
      rfl
end
end C
set_option Elab.async false
set_option linter.all false
set_option pp.maxSteps 1500
set_option maxRecDepth 100000
set_option maxHeartbeats 4000000
namespace C
open PySem PySem.Spec PyProof.Rows L2 Kx M TL
local macro_rules | `(tactic| tm_at "same") => `(tactic| first
  | assumption
  | exact L2.Same.refl _
  | exact L2.Same.upd (by tm_at "same") (by tm_at "free")
  | exact sameTransR (by assumption) (by tm_at "same"))
local macro_rules | `(tactic| tm_at "free") => `(tactic| first
  | assumption
  | exact sameFreeR (by assumption) (by tm_at "same"))
local macro_rules | `(tactic| tm_at "but") => `(tactic| first
  | assumption
  | exact But.refl _ _
  | exact But.transR (by assumption) (by tm_at "but")
  | exact But.upd
  | exact But.self (by tm_at "but")
  | exact But.new1 (by tm_at "but") (by assumption)
  | exact But.new (by tm_at "but") (by tm_at "free")
  | exact L2.Same.but (by assumption) _)
local macro_rules | `(tactic| tm_at "fact") => `(tactic| first
  | exact upd_same
  | assumption
  | exact SqL.of upd_same
  | exact SqT.of upd_same
  | exact SqL.of (by assumption)
  | exact SqT.of (by assumption)
  | exact But.lstR (by assumption) (by assumption) (by tm_at "but"))
local macro_rules | `(tactic| tm_at "cond") => `(tactic| first
  | rfl
  | assumption
  | decide
  | omega
  | exact ⟨by decide, by decide⟩
  | exact .inr ⟨by decide, by decide⟩
  | exact .inl ⟨by decide, by decide⟩
  | exact ⟨by decide, by decide, by decide⟩
  | exact cdivw (by assumption) (by assumption)
  | exact log2_ok (by assumption)
  | exact Or.inl ⟨rfl, _, SqL.of upd_same⟩
  | exact Or.inl ⟨rfl, _, SqL.of (by assumption)⟩
  | exact ⟨_, rfl⟩
  | exact Nat.le_of_ble_eq_true rfl
  | exact small1000 (by omega))
local macro_rules | `(tactic| tm_at "prop") => `(tactic| first
  | assumption
  | omega)
local macro_rules | `(tactic| tm_at "s") => `(tactic| first
  | refine ⟨_, rfl, ?_⟩
  | refine ⟨_, _, rfl, rfl, ?_⟩
  | refine ⟨_, _, _, rfl, rfl, (by tm_at "fact"), (by tm_at "cond"), ?_⟩
  | refine ⟨_, _, _, _, rfl, rfl, (by tm_at "fact"), rfl, ?_⟩
  | refine ⟨_, _, rfl, (by tm_at "fact"), ?_⟩
  | refine And.intro (by tm_at "cond") ?_
  | refine .inl ⟨_, rfl, ?_⟩
  | refine ⟨_, _, rfl, .inl (by tm_at "fact"), ?_⟩
  | refine dec_false (by tm_at "prop") ?_
  | refine dec_true (by tm_at "prop") ?_
  | refine decN_false (by tm_at "prop") ?_
  | refine decN_true (by tm_at "prop") ?_
  | refine iteT ?_
  | refine iteF ?_
  | refine ⟨_, _, rfl, ?_⟩)
local macro_rules | `(tactic| tm_at "go") => `(tactic| repeat tm_at "s")

section
variable {P : Program} {w : World} {K : PySem.W.Frag} {mg : Str → Option Value} {base : Heap} {aH aR : Addr}
/-- a dict comprehension over a walk: Pv by the turn and the heap (the new dict at D within) -/
theorem dc_it {J : It} {n : Nat} {G' : Hp → Prop} {Y : Nat → Hp → V → Hp → Prop} (wk : Walk J n G' Y) {g : TG} {tt : TT} {tk tv : TE} {vs : List Nat} {σ : L2.St} {H1 : Hp} {D : Addr} {Qd : Hp → Prop} (Pv : Nat → Hp → Prop) (h0 : Pv 0 (upd H1 D (.dK []))) (hG : ∀ i H, i ≤ n → Pv i H → G' H)
    (hs : ∀ i x H H', i < n → Pv i H → Y i H x H' → g x (wipe σ vs) H' fun σ2 H2 => wipe σ2 vs = wipe σ vs ∧ tt σ2 H2 fun b H3 =>
      if b = true then tk σ2 H3 fun y H4 => tv σ2 H4 fun z H5 => ∃ kvs k, y = kV k ∧ H5 D = some (.dK kvs) ∧ kvs.length < sizeLine ∧ Pv (i + 1) (upd H5 D (.dK (putK kvs k z))) else Pv (i + 1) H3) (hd : ∀ H, Pv n H → Qd H) :
    ∃ W : Nat → Nat → Hp → Prop, (∃ m, W 0 m (upd H1 D (.dK []))) ∧ ∀ i m H, W i m H →
      (J.stop i H ∧ Qd H) ∨ (J.go i H ∧ ∃ Nx : Hp → Prop, (∀ H', Nx H' → ∃ m', m' < m ∧ W (i + 1) m' H') ∧ ∀ x H', J.yld i H x H' → g x (wipe σ vs) H' fun σ2 H2 => wipe σ2 vs = wipe σ vs ∧ tt σ2 H2 fun b H3 =>
        if b = true then tk σ2 H3 fun y H4 => tv σ2 H4 fun z H5 => ∃ kvs k, y = kV k ∧ H5 D = some (.dK kvs) ∧ kvs.length < sizeLine ∧ Nx (upd H5 D (.dK (putK kvs k z))) else Nx H3) := by
  refine ⟨fun i m H => m = n - i ∧ i ≤ n ∧ Pv i H, ⟨n, by simp, Nat.zero_le _, h0⟩, ?_⟩
  rintro i m H ⟨rfl, hi, p⟩
  have q := hG i H hi p
  by_cases hlt : i < n
  · refine .inr ⟨wk.goes i H hlt q, Pv (i + 1), fun H' p' => ⟨n - (i + 1), by omega, rfl, hlt, p'⟩, fun x H' y => hs i x H H' hlt p (wk.yields i H x H' hlt q y)⟩
  · have e : i = n := by omega
    subst e
    exact .inl ⟨wk.stops H q, hd H p⟩
theorem eqv_nil : PyData.eqv (.tuple []) (.tuple []) = true := by
  simp only [PyData.eqv, PyData.eqvAll]
theorem zip_snoc {α β : Type} : ∀ (l : List α) (as : List β) (x : β) (y : α), l[as.length]? = some y → l.zip (as ++ [x]) = l.zip as ++ [(y, x)]
  | [], _, _, _, h => by simp at h
  | a :: l, [], x, y, h => by
    cases h
    cases l <;> rfl
  | a :: l, b :: as, x, y, h => by
    rw [List.cons_append, List.zip_cons_cons, List.zip_cons_cons, zip_snoc l as x y h]
    rfl
theorem heads_nodup : heads6.Nodup := by decide +kernel
theorem part_put {as : List Addr} {x : Addr} {h : Str} (e : heads6[as.length]? = some h) : putK (partKV as) (Sum.inr h) (.ref x) = partKV (as ++ [x]) := by
  unfold partKV
  rw [zip_snoc _ _ _ _ e, List.map_append]
  unfold putK
  rw [if_neg]
  · rfl
  · intro z
    obtain ⟨kv, h1, h2⟩ := List.any_eq_true.mp z
    obtain ⟨p, h3, rfl⟩ := List.mem_map.mp h1
    have h4 : p.1 = h := Sum.inr.inj (of_decide_eq_true h2)
    obtain ⟨i, hi, h5⟩ := List.getElem_of_mem h3
    rw [List.length_zip] at hi
    have h6 : heads6[i]? = some h := by
      rw [← h4, ← h5, List.getElem_zip, List.getElem?_eq_getElem]
    have h7 := nd_ix heads_nodup e h6
    omega
/-! ### take_head -/
def spHead (K : PySem.W.Frag) (Cl : Addr) : Sp := fun vs H Q _ => ∃ (rd wl : Addr) (H0 : Hp) (s : RS) (a b : Str), vs = [.ref rd, .ref wl] ∧ RdAt K Cl rd H0 H s ∧ SqL K H wl [.str (S "claim"), .str a, .str (S "with"), .str b] ∧ s.names = none ∧
  ∀ H', RdAt K Cl rd H0 H' ⟨s.rows, some (a, b), List.replicate 6 [], 0⟩ → Q (.bl true) H'
theorem sc_ClaimReader_take_head : FnScope ["self", "words", "head"] ["self", "words"] (defScope s_ClaimReader_take_head) := ⟨rfl, rfl, rfl, by decide +kernel, rfl, by decide +kernel, by decide +kernel⟩
theorem ok_head {k : Nat} {Cl : Addr} (D : MDef K Cl "take_head" "ClaimReader.take_head" s_ClaimReader_take_head ["self", "words"]) (R : Rk K Cl) (B : Bi mg) (G : Gb K mg aH aR) : MCal P w K mg base CX0 (k + 1) Cl "take_head" ["self", "words"] (spHead K Cl) := by
  refine D.cal fun f fd F => F.ok sc_ClaimReader_take_head (fun vs H Q E h => ?_) (fun cdv A outer s H vs Q E hr h => ?_)
  · obtain ⟨rd, wl, H0, s, a, b, rfl, _⟩ := h
    rfl
  · obtain ⟨rd, wl, H0, r, a, b, rfl, ⟨dx, lf, tn, d, vs, ads, I⟩, hw, hn, q⟩ := h
    have nd := sc_ClaimReader_take_head.nd
    have hins := I.ins
    have hnm := I.nms
    rw [hn] at hnm
    refine ⟨_, (pss_cons (ps_if (PW.pt (pw_or (pt_cmpR (op_neD hr.units) (pe_fld (pv 0) rfl) (pe_tup pa_nil) (nomark _)) (pw_or (pt_cmpR op_ne (pe_callB call_len_seq (by rfl) B.len (by decide +kernel) (pa_cons (pv 1) pa_nil)) pe_int (nomark _)) (pw_or1 (pt_cmpR op_ne (pe_ix ix_list (pv 1) pe_int (fun _ _ => rfl)) pe_str (nomark _))))))
        (pss_one (ps_ret pe_bl))
        pss_nil)
      (pss_cons (ps_fld (pv 0) (pe_tup (pa_cons (pe_ix ix_list (pv 1) pe_int (fun _ _ => rfl)) (pa_cons (pe_ix ix_list (pv 1) pe_int (fun _ _ => rfl)) pa_nil))) rfl)
      (pss_cons (ps_fld (pv 0) (pe_dc (own := [("head", 2)]) (by rfl) nd (pi_tup (pe_globR (by rfl) G.HEADS)) (blkOk_by (own := [("head", 2)]) (N := ["self", "words", "head"]) (sc := defScope s_ClaimReader_take_head) (by decide +kernel)) (fun _ _ _ _ _ => (pg_name (i := 2) nd rfl (Or.inl rfl))) (fun _ _ _ _ _ => pts_nil) (fun _ _ _ _ _ => (pv 2)) (fun _ _ _ _ _ => (pe_lst pa_nil))) rfl)
      (pss_cons (ps_fld (pv 0) pe_int rfl)
      (pss_one (ps_ret pe_bl)))))), ?_⟩
    refine ⟨_, rfl, rd, Cl, dx, _, _, rfl, hins, R.cl, R.nN, lk2 _ _ _ _, ?_⟩
    tm_at "go"
    refine fun p np => ?_
    have s1 : Same H (upd H p (.tup [])) := same_new np
    have hins1 := s1 _ _ hins
    have hw1 := s1.seq hw
    refine ⟨.tuple [], .tuple [], .tup (s1.tk.tup hnm) .nil, .tup (SqT.of upd_same) .nil, by decide, by decide, ?_⟩
    rw [eqv_nil]
    refine ⟨_, rfl, ?_⟩
    refine iteF ?_
    refine ⟨_, rfl, wl, _, rfl, .inl hw1, ?_⟩
    generalize upd H p (.tup []) = H1 at s1 hins1 hw1 ⊢
    tm_at "go"
    refine fun tn2 ntn2 => ?_
    have hins2 : upd H1 tn2 (.tup [.str a, .str b]) rd = some (.ins Cl dx (flds (.ref lf) (.ref tn) (.ref d) (.int r.stage))) := by
      rw [upd_ne (ne_of_none hins1 ntn2)]
      exact hins1
    refine ⟨_, rfl, rd, Cl, dx, _, rfl, hins2, R.cl, R.nN, Nat.le_of_ble_eq_true rfl, ?_⟩
    rw [pu2]
    have hins3 : upd (upd H1 tn2 (.tup [.str a, .str b])) rd (.ins Cl dx (flds (.ref lf) (.ref tn2) (.ref d) (.int r.stage))) rd = some (.ins Cl dx (flds (.ref lf) (.ref tn2) (.ref d) (.int r.stage))) := upd_same
    have hnt3 : upd (upd H1 tn2 (.tup [.str a, .str b])) rd (.ins Cl dx (flds (.ref lf) (.ref tn2) (.ref d) (.int r.stage))) tn2 = some (.tup [.str a, .str b]) := by
      rw [upd_ne (ne_of_none hins1 ntn2).symm, upd_same]
    have b13 : But rd H1 (upd (upd H1 tn2 (.tup [.str a, .str b])) rd (.ins Cl dx (flds (.ref lf) (.ref tn2) (.ref d) (.int r.stage)))) := ((same_new ntn2).but rd).self
    have k13 : TK H1 (upd (upd H1 tn2 (.tup [.str a, .str b])) rd (.ins Cl dx (flds (.ref lf) (.ref tn2) (.ref d) (.int r.stage)))) := (TK.new ntn2).trans (TK.ins hins2)
    generalize upd (upd H1 tn2 (.tup [.str a, .str b])) rd (.ins Cl dx (flds (.ref lf) (.ref tn2) (.ref d) (.int r.stage))) = H3 at hins3 hnt3 b13 k13 ⊢
    refine ⟨aH, rfl, ⟨_, G.tH _⟩, fun D nD => ?_⟩
    refine dc_it walk_tup (fun i H' => Same H3 H' ∧ ∃ as : List Addr, as.length = i ∧ H' D = some (.dK (partKV as)) ∧ as.Nodup ∧ ∀ x ∈ as, H3 x = none ∧ x ≠ D ∧ H' x = some (.lst [])) ⟨same_new nD, [], rfl, upd_same, List.nodup_nil, fun _ h => (by cases h)⟩ (fun _ H' _ _ => G.tH H') ?_ ?_
    · rintro i v Hx Hy hlt ⟨sx, as, hl, hD, hnd, hx⟩ ⟨rfl, hv⟩
      have hv2 : (heads6.map V.str)[i]? = some v := hv
      obtain ⟨h, hh, rfl⟩ : ∃ h, heads6[i]? = some h ∧ V.str h = v := by
        rw [List.getElem?_map] at hv2
        cases e : heads6[i]? with
        | none => rw [e] at hv2; cases hv2
        | some z => rw [e] at hv2; exact ⟨z, rfl, Option.some.inj hv2⟩
      refine ⟨rfl, ?_⟩
      tm_at "go"
      refine fun x nx => ?_
      have nDx : D ≠ x := ne_of_none hD nx
      have hi6 : i < 6 := hlt
      have hpl : (partKV as).length < sizeLine := by
        unfold partKV
        rw [List.length_map, List.length_zip]
        exact small1000 (by omega)
      refine ⟨partKV as, Sum.inr h, rfl, by rw [upd_ne nDx]; exact hD, hpl, by tm_at "same", as ++ [x], by rw [List.length_append, hl]; rfl, ?_, ?_, ?_⟩
      · rw [part_put (by rw [hl]; exact hh), upd_same]
      · rw [List.nodup_append]
        refine ⟨hnd, List.pairwise_singleton _ _, fun y hy z hz e => ?_⟩
        rw [List.mem_singleton] at hz
        rw [← hz, ← e, (hx y hy).2.2] at nx
        cases nx
      · intro y hy
        rcases List.mem_append.mp hy with z | z
        · obtain ⟨h1, h2, h3⟩ := hx y z
          refine ⟨h1, h2, ?_⟩
          rw [upd_ne h2, upd_ne (ne_of_none h3 nx)]
          exact h3
        · rw [List.mem_singleton] at z
          subst z
          refine ⟨sx.free nx, nDx.symm, ?_⟩
          rw [upd_ne nDx.symm, upd_same]
    · rintro H4 ⟨s4, as, hl, hD, hnd, hx⟩
      refine ⟨_, rfl, rd, Cl, dx, _, rfl, s4 _ _ hins3, R.cl, R.nP, Nat.le_of_ble_eq_true rfl, ?_⟩
      rw [pu3]
      refine ⟨_, rfl, rd, Cl, dx, _, rfl, upd_same, R.cl, R.nS, Nat.le_of_ble_eq_true rfl, ?_⟩
      rw [pu4]
      have fr : ∀ b o, b ≠ rd → H b = some o → H4 b = some o := fun b o nb e => s4 _ _ (b13 _ _ nb (s1 _ _ e))
      have n0 : ∀ b o, H0 b = some o → b ≠ rd := fun b o e z => by
        rw [z, I.n0] at e
        cases e
      have nlr : lf ≠ rd := fun z => by
        have := I.lst
        rw [z, hins] at this
        cases this
      have ntr : tn2 ≠ rd := fun z => by
        rw [z, hins3] at hnt3
        cases hnt3
      have nDr : D ≠ rd := fun z => by
        rw [z, hins3] at nD
        cases nD
      have h3l := b13 _ _ nlr (s1 _ _ I.lst)
      have hins4 := s4 _ _ hins3
      have k : TK H (upd (upd H4 rd (.ins Cl dx (flds (.ref lf) (.ref tn2) (.ref D) (.int r.stage)))) rd (.ins Cl dx (flds (.ref lf) (.ref tn2) (.ref D) (.int 0)))) :=
        s1.tk.trans (k13.trans (s4.tk.trans ((TK.ins hins4).trans (TK.ins upd_same))))
      refine q _ ⟨dx, lf, tn2, D, vs, as, ?_, upd_same, I.n0, ?_, I.nl, k.ims I.rows, SqT.of ?_, ?_, hl, fun _ => rfl, hnd, ?_, ?_, ?_⟩
      · intro b o e
        have nb := n0 b o e
        rw [upd_ne nb, upd_ne nb]
        exact fr b o nb (I.same _ _ e)
      · rw [upd_ne nlr, upd_ne nlr]
        exact s4 _ _ h3l
      · rw [upd_ne ntr, upd_ne ntr]
        exact s4 _ _ hnt3
      · rw [upd_ne nDr, upd_ne nDr]
        exact hD
      · intro z
        have := (hx lf z).1
        rw [h3l] at this
        cases this
      · intro y hy
        cases e : H0 y with
        | none => rfl
        | some o =>
          have := b13 _ _ (n0 y o e) (s1 _ _ (I.same _ _ e))
          rw [(hx y hy).1] at this
          cases this
      · intro i y ds e1 e2
        have hm := List.mem_of_getElem? e1
        have h2 : ds = [] := by
          have := List.mem_of_getElem? e2
          exact (List.mem_replicate.mp this).2
        subst h2
        have nyr : y ≠ rd := fun z => by
          have := (hx y hm).1
          rw [z, hins3] at this
          cases this
        refine ⟨[], ?_, .nil⟩
        rw [upd_ne nyr, upd_ne nyr]
        exact (hx y hm).2.2
end
end C
set_option Elab.async false
set_option linter.all false
set_option pp.maxSteps 1500
set_option maxRecDepth 100000
set_option maxHeartbeats 4000000
namespace C
open PySem PySem.Spec PyProof.Rows L2 Kx M TL
local macro_rules | `(tactic| tm_at "same") => `(tactic| first
  | assumption
  | exact L2.Same.refl _
  | exact L2.Same.upd (by tm_at "same") (by tm_at "free")
  | exact sameTransR (by assumption) (by tm_at "same"))
local macro_rules | `(tactic| tm_at "free") => `(tactic| first
  | assumption
  | exact sameFreeR (by assumption) (by tm_at "same"))
local macro_rules | `(tactic| tm_at "but") => `(tactic| first
  | assumption
  | exact But.refl _ _
  | exact But.transR (by assumption) (by tm_at "but")
  | exact But.upd
  | exact But.self (by tm_at "but")
  | exact But.new1 (by tm_at "but") (by assumption)
  | exact But.new (by tm_at "but") (by tm_at "free")
  | exact L2.Same.but (by assumption) _)
local macro_rules | `(tactic| tm_at "fact") => `(tactic| first
  | exact upd_same
  | assumption
  | exact SqL.of upd_same
  | exact SqT.of upd_same
  | exact SqL.of (by assumption)
  | exact SqT.of (by assumption)
  | exact But.lstR (by assumption) (by assumption) (by tm_at "but"))
local macro_rules | `(tactic| tm_at "cond") => `(tactic| first
  | rfl
  | assumption
  | decide
  | omega
  | exact ⟨by decide, by decide⟩
  | exact .inr ⟨by decide, by decide⟩
  | exact .inl ⟨by decide, by decide⟩
  | exact ⟨by decide, by decide, by decide⟩
  | exact cdivw (by assumption) (by assumption)
  | exact log2_ok (by assumption)
  | exact Or.inl ⟨rfl, _, SqL.of upd_same⟩
  | exact Or.inl ⟨rfl, _, SqL.of (by assumption)⟩
  | exact ⟨_, rfl⟩
  | exact Nat.le_of_ble_eq_true rfl
  | exact small1000 (by omega))
local macro_rules | `(tactic| tm_at "prop") => `(tactic| first
  | assumption
  | omega)
local macro_rules | `(tactic| tm_at "s") => `(tactic| first
  | refine ⟨_, rfl, ?_⟩
  | refine ⟨_, _, rfl, rfl, ?_⟩
  | refine ⟨_, _, _, rfl, rfl, (by tm_at "fact"), (by tm_at "cond"), ?_⟩
  | refine ⟨_, _, _, _, rfl, rfl, (by tm_at "fact"), rfl, ?_⟩
  | refine ⟨_, _, rfl, (by tm_at "fact"), ?_⟩
  | refine And.intro (by tm_at "cond") ?_
  | refine .inl ⟨_, rfl, ?_⟩
  | refine ⟨_, _, rfl, .inl (by tm_at "fact"), ?_⟩
  | refine dec_false (by tm_at "prop") ?_
  | refine dec_true (by tm_at "prop") ?_
  | refine decN_false (by tm_at "prop") ?_
  | refine decN_true (by tm_at "prop") ?_
  | refine iteT ?_
  | refine iteF ?_
  | refine ⟨_, _, rfl, ?_⟩)
local macro_rules | `(tactic| tm_at "go") => `(tactic| repeat tm_at "s")

section
variable {P : Program} {w : World} {K : PySem.W.Frag} {mg : Str → Option Value} {base : Heap} {aH aR : Addr}
/-! ### a part is added -/
theorem RdIn.push {K : PySem.W.Frag} {Cl rd : Addr} {H0 H H2 : Hp} {s : RS} {dx lf tn d : Addr} {vs : List V} {ads : List Addr} (I : RdIn K Cl rd H0 H s dx lf tn d vs ads) {j : Nat} {a : Addr} {ws : List V} {ds : List PyData} {dd : PyData} {v : V} {st : Int}
    (ha : ads[j]? = some a) (hc : s.cont[j]? = some ds) (s2 : Same (upd H rd (.ins Cl dx (flds (.ref lf) (.ref tn) (.ref d) (.int st)))) H2) (hw : H2 a = some (.lst ws)) (iw : Ims K H2 ws ds) (iv : Im K H2 v dd) :
    RdAt K Cl rd H0 (upd H2 a (.lst (ws ++ [v]))) ⟨s.rows, s.names, s.cont.set j (ds ++ [dd]), st⟩ := by
  have hrd2 : H2 rd = some (.ins Cl dx (flds (.ref lf) (.ref tn) (.ref d) (.int st))) := s2 _ _ upd_same
  have ham := List.mem_of_getElem? ha
  have har : rd ≠ a := fun z => by
    rw [z, hw] at hrd2
    cases hrd2
  have hal : lf ≠ a := fun z => I.lf_ads (by rw [z]; exact ham)
  have fr : ∀ b o, b ≠ rd → H b = some o → H2 b = some o := fun b o nb e => s2 _ _ (by rw [upd_ne nb]; exact e)
  have k02 : TK H H2 := (TK.ins I.ins).trans s2.tk
  have k : TK H2 (upd H2 a (.lst (ws ++ [v]))) := TK.lst hw
  have nlr : lf ≠ rd := fun z => by
    have := I.lst
    rw [z, I.ins] at this
    cases this
  have ndr : d ≠ rd := fun z => by
    have := I.prt
    rw [z, I.ins] at this
    cases this
  have hd2 := fr _ _ ndr I.prt
  have hda : d ≠ a := fun z => by
    rw [z, hw] at hd2
    cases hd2
  refine ⟨dx, lf, tn, d, vs, ads, ?_, ?_, I.n0, ?_, I.nl, (k02.trans k).ims I.rows, (k02.trans k).tup I.nms, ?_, ?_, ?_, I.nd, I.lf_ads, I.na, ?_⟩
  · intro b o e
    have nb : b ≠ rd := fun z => by
      rw [z, I.n0] at e
      cases e
    have nba : b ≠ a := fun z => by
      rw [z, I.na a ham] at e
      cases e
    rw [upd_ne nba]
    exact fr _ _ nb (I.same _ _ e)
  · rw [upd_ne har]
    exact hrd2
  · rw [upd_ne hal]
    exact fr _ _ nlr I.lst
  · rw [upd_ne hda]
    exact hd2
  · rw [I.len]
    exact (List.length_set ..).symm
  · intro z
    show (s.cont.set j (ds ++ [dd])).length = 6
    rw [List.length_set]
    exact I.six z
  · intro i y es e1 e2
    by_cases hij : i = j
    · subst hij
      rw [ha] at e1
      cases e1
      have e3 : (s.cont.set i (ds ++ [dd]))[i]? = some (ds ++ [dd]) := by
        have hlt : i < s.cont.length := (List.getElem?_eq_some_iff.mp hc).1
        rw [List.getElem?_set_self hlt]
      rw [e3] at e2
      cases e2
      exact ⟨_, upd_same, k.ims (Ims.snoc iw iv)⟩
    · have e3 : (s.cont.set j (ds ++ [dd]))[i]? = s.cont[i]? := List.getElem?_set_ne (fun z => hij z.symm)
      rw [e3] at e2
      obtain ⟨us, h1, h2⟩ := I.at_ i y es e1 e2
      have nya : y ≠ a := fun z => hij (by
        rw [z] at e1
        exact nd_ix I.nd e1 ha)
      have nyr : y ≠ rd := fun z => by
        rw [z, I.ins] at h1
        cases h1
      refine ⟨us, ?_, (k02.trans k).ims h2⟩
      rw [upd_ne nya]
      exact fr _ _ nyr h1
inductive Prt : RS → List Str → RS → Prop
  | pair {s : RS} {j : Nat} {hd x y : Str} {ps : List (Str × Str)} : s.names ≠ none → (j = 1 ∧ hd = S "same" ∨ j = 3 ∧ hd = S "keep") → s.stage ≤ (j : Int) → s.cont[j]? = some (ps.map qD) → ps.length ≤ 100 → (x, y) ∉ ps → Ok x ∧ Ok y → (∀ p ∈ ps, Ok p.1 ∧ Ok p.2) →
      Prt s [hd, x, y] ⟨s.rows, s.names, s.cont.set j (ps.map qD ++ [qD (x, y)]), (j : Int)⟩
  | form {s : RS} {j : Nat} {hd : Str} {f : M.Form} {ds : List PyData} : s.names ≠ none → (j = 0 ∧ hd = S "given" ∨ j = 2 ∧ hd = S "ask" ∨ j = 4 ∧ hd = S "hint") → s.stage ≤ (j : Int) → s.cont[j]? = some ds → ds.length ≤ 100 → FOk f →
      Prt s (hd :: wd f) ⟨s.rows, s.names, s.cont.set j (ds ++ [fD f]), (j : Int)⟩
  | walk {s : RS} {r : Str} : s.names ≠ none → s.stage ≤ (5 : Int) → s.cont[5]? = some [] → r ∈ rules7 → Prt s (S "walk" :: Txt.split r (S " ")) ⟨s.rows, s.names, s.cont.set 5 ([] ++ [.str r]), (5 : Int)⟩
end
end C
set_option Elab.async false
set_option linter.all false
set_option pp.maxSteps 1500
set_option maxRecDepth 100000
set_option maxHeartbeats 4000000
namespace C
open PySem PySem.Spec PyProof.Rows L2 Kx M TL
local macro_rules | `(tactic| tm_at "same") => `(tactic| first
  | assumption
  | exact L2.Same.refl _
  | exact L2.Same.upd (by tm_at "same") (by tm_at "free")
  | exact sameTransR (by assumption) (by tm_at "same"))
local macro_rules | `(tactic| tm_at "free") => `(tactic| first
  | assumption
  | exact sameFreeR (by assumption) (by tm_at "same"))
local macro_rules | `(tactic| tm_at "but") => `(tactic| first
  | assumption
  | exact But.refl _ _
  | exact But.transR (by assumption) (by tm_at "but")
  | exact But.upd
  | exact But.self (by tm_at "but")
  | exact But.new1 (by tm_at "but") (by assumption)
  | exact But.new (by tm_at "but") (by tm_at "free")
  | exact L2.Same.but (by assumption) _)
local macro_rules | `(tactic| tm_at "fact") => `(tactic| first
  | exact upd_same
  | assumption
  | exact SqL.of upd_same
  | exact SqT.of upd_same
  | exact SqL.of (by assumption)
  | exact SqT.of (by assumption)
  | exact But.lstR (by assumption) (by assumption) (by tm_at "but"))
local macro_rules | `(tactic| tm_at "cond") => `(tactic| first
  | rfl
  | assumption
  | decide
  | omega
  | exact ⟨by decide, by decide⟩
  | exact .inr ⟨by decide, by decide⟩
  | exact .inl ⟨by decide, by decide⟩
  | exact ⟨by decide, by decide, by decide⟩
  | exact cdivw (by assumption) (by assumption)
  | exact log2_ok (by assumption)
  | exact Or.inl ⟨rfl, _, SqL.of upd_same⟩
  | exact Or.inl ⟨rfl, _, SqL.of (by assumption)⟩
  | exact ⟨_, rfl⟩
  | exact Nat.le_of_ble_eq_true rfl
  | exact small1000 (by omega))
local macro_rules | `(tactic| tm_at "prop") => `(tactic| first
  | assumption
  | omega)
local macro_rules | `(tactic| tm_at "s") => `(tactic| first
  | refine ⟨_, rfl, ?_⟩
  | refine ⟨_, _, rfl, rfl, ?_⟩
  | refine ⟨_, _, _, rfl, rfl, (by tm_at "fact"), (by tm_at "cond"), ?_⟩
  | refine ⟨_, _, _, _, rfl, rfl, (by tm_at "fact"), rfl, ?_⟩
  | refine ⟨_, _, rfl, (by tm_at "fact"), ?_⟩
  | refine And.intro (by tm_at "cond") ?_
  | refine .inl ⟨_, rfl, ?_⟩
  | refine ⟨_, _, rfl, .inl (by tm_at "fact"), ?_⟩
  | refine dec_false (by tm_at "prop") ?_
  | refine dec_true (by tm_at "prop") ?_
  | refine decN_false (by tm_at "prop") ?_
  | refine decN_true (by tm_at "prop") ?_
  | refine iteT ?_
  | refine iteF ?_
  | refine ⟨_, _, rfl, ?_⟩)
local macro_rules | `(tactic| tm_at "go") => `(tactic| repeat tm_at "s")

section
variable {P : Program} {w : World} {K : PySem.W.Frag} {mg : Str → Option Value} {base : Heap} {aH aR : Addr}
theorem ps_try0 {X : Cx} {x : Str} {c : Value} {body suite : List Stmt} {b₀ : Stmt} {np pos pos' : Pos} {t t2 : TS} (hs : X.stack = X.env :: X.outer) (hf : X.env.frame = some X.env.locals) (hc : Names X x c)
    (hb : ∀ (W : WX) (pn : List (Addr × Obj)) (xe : Value → Shared → Prop), Takes (X.tr pn xe) W → PassesOwn (model X.prog X.w) X.A X.env xe → PSs (X.tr pn xe) body t)
    (hsu : ∀ (a : Addr) (oe : Obj) (cls : Value) (d : Option Addr) (pn : List (Addr × Obj)), Zc cls d oe → (∃ vs, oe.data = .fields vs) → PSs (X.suite a ((a, oe) :: pn)) (b₀ :: suite) t2) :
    PS X (.Try body [.ExceptHandler (some (.Name x np)) none (b₀ :: suite) pos'] [] [] pos) t :=
  ps_try_only (tb := fun _ => t) (ts := fun _ _ _ => t2) (Wout := fun _ _ _ _ => False) hs hf hc takes0 hb hsu
theorem pe_fldK {X : Cx} {K : PySem.W.Frag} {e : Expr} {f : Str} {ta : TE} {pos : Pos} (h : X.K = K) (he : PE X e ta) (hb : attributeBase e f X.env (eval e X.env) = eval e X.env) : PE X (.Attribute e f pos) (tFld K ta f) := by
  subst h
  exact pe_fld he hb
theorem pe_bmK {X : Cx} {K : PySem.W.Frag} {o e : Expr} {es : List Expr} {to : TE} {t : TA} {T : String} {name : Str} {id : String} {r : V → List V → Hp → VK → Prop} {apos cpos : Pos} (h : X.K = K) (pa : PlainAttrs T) (slot : Slot T name id) (hty : typeOf (.builtin id) = pure (.type "method_descriptor")) (hm : MtR X id r) (ho : PE X o to) (ha : PA X (e :: es) t)
    (hbase : attributeBase o name X.env (eval o X.env) = eval o X.env := by rfl)
    (hfew : ((backTo cpos (starEach (e :: es) X.env)).all (fun x => !x.1) && (backToKw cpos (keywordEach [] X.env)).all (fun x => x.1.isSome)
      && decide ((e :: es).length + ([] : List Keyword).length + (if ([] : List Keyword).isEmpty then 0 else 1) < 30)) = true := by rfl)
    (hline : (apos.endLine == cpos.line) = true := by rfl) (hs : starEach (e :: es) X.env = (false, eval e X.env) :: starEach es X.env := by rfl) (hplain : (backTo cpos (starEach es X.env)).any (·.1) = false := by rfl) :
    PE X (.Call (.Attribute o name apos) (e :: es) [] cpos) (tBM K T r to t) := by
  subst h
  exact pe_bm pa slot hty hm ho ha hbase hfew hline hs hplain
theorem val_zip : ∀ (l : List Str) (as : List Addr) (j : Nat) (h : Str) (a : Addr), l.Nodup → l[j]? = some h → as[j]? = some a → valV ((l.zip as).map fun p => ((Sum.inr p.1 : Key), V.ref p.2)) (Sum.inr h : Key) = some (.ref a)
  | [], _, _, _, _, _, e, _ => by simp at e
  | _ :: _, [], _, _, _, _, _, e => by simp at e
  | x :: l, b :: as, 0, h, a, _, e1, e2 => by
    cases e1
    cases e2
    exact valV_pos rfl
  | x :: l, b :: as, j + 1, h, a, hn, e1, e2 => by
    obtain ⟨h1, h2⟩ := List.nodup_cons.mp hn
    have hm : h ∈ l := List.mem_of_getElem? (show l[j]? = some h from e1)
    refine (valV_neg (fun z => h1 (by rw [show x = h from Sum.inr.inj z]; exact hm))).trans ?_
    exact val_zip l as j h a h2 e1 e2
theorem part_get {ads : List Addr} {j : Nat} {h : Str} {a : Addr} (e1 : heads6[j]? = some h) (e2 : ads[j]? = some a) : valV (partKV ads) (Sum.inr h : Key) = some (.ref a) := val_zip _ _ _ _ _ heads_nodup e1 e2
/-! ### take_part -/
def spPart (K : PySem.W.Frag) (Cl : Addr) : Sp := fun vs H Q _ => ∃ (rd wl : Addr) (H0 : Hp) (s s' : RS) (ws : List Str), vs = [.ref rd, .ref wl] ∧ RdAt K Cl rd H0 H s ∧ H wl = some (.lst (ws.map V.str)) ∧ Prt s ws s' ∧
  ∀ H', RdAt K Cl rd H0 H' s' → Q (.bl true) H'
theorem idx_ok {j : Nat} {hd : Str} (e : heads6[j]? = some hd) : ∀ m, m < j → heads6[m]? ≠ some hd := fun m hm h => by
  have := nd_ix heads_nodup e h
  omega
theorem sc_ClaimReader_take_part : FnScope ["self", "words", "place", "rule"] ["self", "words"] (defScope s_ClaimReader_take_part) := ⟨rfl, rfl, rfl, by decide +kernel, rfl, by decide +kernel, by decide +kernel⟩
theorem ok_part {k : Nat} {Cl cBT : Addr} (D : MDef K Cl "take_part" "ClaimReader.take_part" s_ClaimReader_take_part ["self", "words"]) (R : Rk K Cl) (B : Bi mg) (G : Gb K mg aH aR) (gBT : mg "BadText" = some (.ref cBT)) (yH : ∃ o, K.lookup aH = some o ∧ o.cls = .type "tuple" ∧ o.dict = none)
    (c_read_form : Cal P w K mg base CX0 k "read_form" ["text"] (spReadForm K)) : MCal P w K mg base CX0 (k + 1) Cl "take_part" ["self", "words"] (spPart K Cl) := by
  refine D.cal fun f fd F => F.ok sc_ClaimReader_take_part (fun vs H Q E h => ?_) (fun cdv A outer s H vs Q E hr h => ?_)
  · obtain ⟨rd, wl, H0, s, s', ws, rfl, _⟩ := h
    rfl
  · obtain ⟨rd, wl, H0, r, r', ws, rfl, ⟨dx, lf, tn, d, vs, ads, I⟩, hw, hp, q⟩ := h
    have nd := sc_ClaimReader_take_part.nd
    have hins := I.ins
    refine ⟨_, (pss_cons (ps_set (i := 2) nd rfl (Or.inl rfl) (pe_bm PySem.F.plainAttrs_tuple PySem.F.slot_tuple_index PySem.F.type_tuple_index mt_tup_index (pe_globR (by rfl) G.HEADS) (pa_cons (pe_ix ix_list (pv 1) pe_int (fun _ _ => rfl)) pa_nil)))
      (pss_cons (ps_if (pt_cmpR op_lt (pv 2) (pe_fld (pv 0) rfl) (nomark _))
        (pss_one (ps_ret pe_bl))
        pss_nil)
      (pss_cons (ps_fld (pv 0) (pv 2) rfl)
      (pss_cons (ps_if (pt_cmpR op_in_seq (pe_ix ix_list (pv 1) pe_int (fun _ _ => rfl)) (pe_tup (pa_cons pe_str (pa_cons pe_str pa_nil))) (by rfl))
        (pss_cons (ps_if (PW.pt (pw_or (pt_cmpR op_ne (pe_callB call_len_seq (by rfl) B.len (by decide +kernel) (pa_cons (pv 1) pa_nil)) pe_int (nomark _)) (pw_or1 (pt_cmpR (op_inD (in_room hr)) (pe_tup (pa_cons (pe_ix ix_list (pv 1) pe_int (fun _ _ => rfl)) (pa_cons (pe_ix ix_list (pv 1) pe_int (fun _ _ => rfl)) pa_nil))) (pe_dget (hu_of hr) (pe_fld (pv 0) rfl) (pe_ix ix_list (pv 1) pe_int (fun _ _ => rfl)) (fun _ _ => rfl)) (by rfl)))))
          (pss_one (ps_ret pe_bl))
          pss_nil)
        (pss_cons (ps_expr (pe_bm PySem.F.plainAttrs_list PySem.F.slot_list_append PySem.F.type_list_append mt_append (pe_dget (hu_of hr) (pe_fld (pv 0) rfl) (pe_ix ix_list (pv 1) pe_int (fun _ _ => rfl)) (fun _ _ => rfl)) (pa_cons (pe_tup (pa_cons (pe_ix ix_list (pv 1) pe_int (fun _ _ => rfl)) (pa_cons (pe_ix ix_list (pv 1) pe_int (fun _ _ => rfl)) pa_nil))) pa_nil)))
        (pss_one (ps_ret pe_bl))))
        pss_nil)
      (pss_cons (ps_if (pt_cmpR op_eq (pe_ix ix_list (pv 1) pe_int (fun _ _ => rfl)) pe_str (nomark _))
        (pss_cons (ps_set (i := 3) nd rfl (Or.inl rfl) (pe_join pe_str (pe_slice sl_list (pv 1) (po_some pe_int) po_none)))
        (pss_cons (ps_if (PW.pt (pw_or (pt_cmpR op_notIn_seq (pv 3) (pe_globR (by rfl) G.RULES) (by rfl)) (pw_or1 (pt_truth (pe_dget (hu_of hr) (pe_fld (pv 0) rfl) pe_str (fun _ _ => rfl)) (by intro _; rfl)))))
          (pss_one (ps_ret pe_bl))
          pss_nil)
        (pss_cons (ps_expr (pe_bm PySem.F.plainAttrs_list PySem.F.slot_list_append PySem.F.type_list_append mt_append (pe_dget (hu_of hr) (pe_fld (pv 0) rfl) pe_str (fun _ _ => rfl)) (pa_cons (pv 3) pa_nil)))
        (pss_one (ps_ret pe_bl)))))
        pss_nil)
      (pss_cons (ps_try0 rfl rfl ⟨rfl, by decide, .inl gBT⟩ (fun W pn xe tk _ => (pss_one (ps_expr (pe_bmK (K := K) rfl PySem.F.plainAttrs_list PySem.F.slot_list_append PySem.F.type_list_append mt_append (pe_dget (hu_of hr) (pe_fldK (K := K) rfl (pv 0) rfl) (pe_ix (ix_listK (K := K) rfl) (pv 1) pe_int (fun _ _ => rfl)) (fun _ _ => rfl)) (pa_cons (pe_cal c_read_form (Room.mono hr (by omega)) (by rfl) (pa_cons (pe_joinK (K := K) rfl pe_str (pe_slice (sl_listK (K := K) rfl) (pv 1) (po_some pe_int) po_none)) pa_nil)) pa_nil))))) (fun a oe cls d pn _ _ => (pss_one (ps_ret pe_bl))))
      (pss_one (ps_ret pe_bl)))))))), ?_⟩
    have pre : ∃ hd rest j, ws = hd :: rest ∧ heads6[j]? = some hd ∧ j ≤ 5 ∧ r.stage ≤ ((j : Nat) : Int) := by
      cases hp with
      | pair _ e h2 => rcases e with ⟨rfl, rfl⟩ | ⟨rfl, rfl⟩ <;> exact ⟨_, _, _, rfl, rfl, by decide, h2⟩
      | form _ e h2 => rcases e with ⟨rfl, rfl⟩ | ⟨rfl, rfl⟩ | ⟨rfl, rfl⟩ <;> exact ⟨_, _, _, rfl, rfl, by decide, h2⟩
      | walk _ h2 => exact ⟨_, _, 5, rfl, rfl, by decide, h2⟩
    obtain ⟨hd, rest, j, rfl, hj, hj5, hst⟩ := pre
    have e0 : atI ((hd :: rest).map V.str) 0 = some (V.str hd) := atI_nat (j := 0) rfl
    refine ⟨.inr (.inl ⟨rfl, yH⟩), ?_⟩
    refine ⟨_, rfl, wl, _, _, _, rfl, rfl, SqL.of hw, e0, ?_⟩
    refine ⟨aH, heads6, hd, j, rfl, rfl, G.tH _, hj, idx_ok hj, ?_⟩
    refine ⟨_, rfl, ?_⟩
    refine ⟨_, rfl, rd, Cl, dx, _, _, rfl, hins, R.cl, R.nS, lk4 _ _ _ _, ?_⟩
    tm_at "go"
    refine ⟨rd, Cl, dx, _, rfl, hins, R.cl, R.nS, Nat.le_of_ble_eq_true rfl, ?_⟩
    rw [pu4]
    have nwr : wl ≠ rd := fun z => by
      rw [z, hins] at hw
      cases hw
    have hw1 : upd H rd (.ins Cl dx (flds (.ref lf) (.ref tn) (.ref d) (.int ((j : Nat) : Int)))) wl = some (.lst ((hd :: rest).map V.str)) := by
      rw [upd_ne nwr]
      exact hw
    have hins1 : upd H rd (.ins Cl dx (flds (.ref lf) (.ref tn) (.ref d) (.int ((j : Nat) : Int)))) rd = some (.ins Cl dx (flds (.ref lf) (.ref tn) (.ref d) (.int ((j : Nat) : Int)))) := upd_same
    have s11 : Same (upd H rd (.ins Cl dx (flds (.ref lf) (.ref tn) (.ref d) (.int ((j : Nat) : Int))))) (upd H rd (.ins Cl dx (flds (.ref lf) (.ref tn) (.ref d) (.int ((j : Nat) : Int))))) := Same.refl _
    have k1 : TK H (upd H rd (.ins Cl dx (flds (.ref lf) (.ref tn) (.ref d) (.int ((j : Nat) : Int))))) := TK.ins hins
    have fr : ∀ b o, b ≠ rd → H b = some o → upd H rd (.ins Cl dx (flds (.ref lf) (.ref tn) (.ref d) (.int ((j : Nat) : Int)))) b = some o := fun b o nb e => by
      rw [upd_ne nb]
      exact e
    have push := fun (a : Addr) (ws : List V) (ds : List PyData) (dd : PyData) (v : V) (H2 : Hp) => I.push (H2 := H2) (j := j) (a := a) (ws := ws) (ds := ds) (dd := dd) (v := v) (st := ((j : Nat) : Int))
    generalize upd H rd (.ins Cl dx (flds (.ref lf) (.ref tn) (.ref d) (.int ((j : Nat) : Int)))) = H1 at hw1 hins1 s11 k1 fr push ⊢
    refine ⟨_, rfl, wl, _, _, _, rfl, rfl, SqL.of hw1, e0, ?_⟩
    tm_at "go"
    refine fun p np => ?_
    have sp : Same H1 (upd H1 p (.tup [.str (S "same"), .str (S "keep")])) := same_new np
    refine ⟨p, [.str (S "same"), .str (S "keep")], rfl, .inr (SqT.of upd_same), rfl, rfl, ?_⟩
    refine ⟨_, rfl, ?_⟩
    have hw2 := sp _ _ hw1
    have hins2 := sp _ _ hins1
    generalize upd H1 p (.tup [.str (S "same"), .str (S "keep")]) = H2 at sp hw2 hins2 ⊢
    cases hp with
    | pair hn e h2 hc hl hnm hxy hps =>
      rename_i jj x y ps
      obtain rfl : jj = j := by
        rcases e with ⟨rfl, rfl⟩ | ⟨rfl, rfl⟩
        · exact nd_ix heads_nodup (i := 1) (j := j) (x := S "same") rfl hj
        · exact nd_ix heads_nodup (i := 3) (j := j) (x := S "keep") rfl hj
      have hin : L2.inV (V.str hd) [V.str (S "same"), V.str (S "keep")] = true := by
        rcases e with ⟨_, rfl⟩ | ⟨_, rfl⟩ <;> decide +kernel
      have e1 : atI ([hd, x, y].map V.str) 1 = some (V.str x) := atI_nat (j := 1) rfl
      have e2 : atI ([hd, x, y].map V.str) 2 = some (V.str y) := atI_nat (j := 2) rfl
      rw [show (if false = true then !L2.inV (V.str hd) [V.str (S "same"), V.str (S "keep")] else L2.inV (V.str hd) [V.str (S "same"), V.str (S "keep")]) = true by rw [if_neg Bool.false_ne_true]; exact hin]
      refine iteT ?_
      tm_at "go"
      refine fun t nt => ?_
      have st : Same H2 (upd H2 t (.tup [.str x, .str y])) := same_new nt
      have hw3 := st _ _ hw2
      have hins3 := st _ _ hins2
      have ht3 : upd H2 t (.tup [.str x, .str y]) t = some (.tup [.str x, .str y]) := upd_same
      have s13 := sp.trans st
      generalize upd H2 t (.tup [.str x, .str y]) = H3 at st hw3 hins3 ht3 s13 ⊢
      refine ⟨_, rfl, rd, Cl, dx, _, _, rfl, hins3, R.cl, R.nP, lk3 _ _ _ _, ?_⟩
      refine ⟨_, rfl, wl, _, _, _, rfl, rfl, SqL.of hw3, e0, ?_⟩
      have ndr : d ≠ rd := fun z => by
        have := I.prt
        rw [z, I.ins] at this
        cases this
      have hd3 := s13 _ _ (fr _ _ ndr I.prt)
      have hjl : jj < ads.length := by
        rw [I.len]
        exact (List.getElem?_eq_some_iff.mp hc).1
      have ha : ads[jj]? = some ads[jj] := List.getElem?_eq_getElem hjl
      obtain ⟨us, hus, ius⟩ := I.at_ jj _ _ ha hc
      have nar : ads[jj] ≠ rd := fun z => by
        rw [z, hins] at hus
        cases hus
      have hus3 := s13 _ _ (fr _ _ nar hus)
      have ius3 := s13.tk.ims (k1.ims ius)
      have hul := ius.length
      rw [List.length_map] at hul
      have dg : DGet H3 d (.str hd) (some (.ref ads[jj])) := by
        rw [← part_get hj ha]
        exact DGet.k (k := Sum.inr hd) hd3
      refine ⟨d, .ref ads[jj], rfl, dg, ?_⟩
      refine ⟨qD (x, y), ps.map qD, Im.dp _ (qD_of (p := (x, y)) (SqT.of ht3)), .lst (SqL.of hus3) (Ims.dp _ ius3), shaped_q hxy, shaped_qs hps, ?_⟩
      rw [any_q, decide_eq_false hnm]
      refine ⟨_, rfl, ?_⟩
      refine iteF ?_
      refine ⟨_, rfl, rd, Cl, dx, _, _, rfl, hins3, R.cl, R.nP, lk3 _ _ _ _, ?_⟩
      refine ⟨_, rfl, wl, _, _, _, rfl, rfl, SqL.of hw3, e0, ?_⟩
      refine ⟨d, .ref ads[jj], rfl, dg, ?_⟩
      refine ⟨.inl ⟨rfl, _, SqL.of hus3⟩, ?_⟩
      tm_at "go"
      refine fun t2 nt2 => ?_
      have s4 : Same H3 (upd H3 t2 (.tup [.str x, .str y])) := same_new nt2
      refine ⟨ads[jj], us, .ref t2, rfl, rfl, s4 _ _ hus3, small1000 (by omega), ?_⟩
      exact q _ (push ads[jj] us (ps.map qD) (qD (x, y)) (.ref t2) _ ha hc (s13.trans s4) (s4 _ _ hus3) (s4.tk.ims ius3) (qD_of (p := (x, y)) (SqT.of upd_same)))
    | form hn e h2 hc hl hf =>
      rename_i jj f ds
      obtain rfl : jj = j := by
        rcases e with ⟨rfl, rfl⟩ | ⟨rfl, rfl⟩ | ⟨rfl, rfl⟩
        · exact nd_ix heads_nodup (i := 0) (j := j) (x := S "given") rfl hj
        · exact nd_ix heads_nodup (i := 2) (j := j) (x := S "ask") rfl hj
        · exact nd_ix heads_nodup (i := 4) (j := j) (x := S "hint") rfl hj
      have hin : L2.inV (V.str hd) [V.str (S "same"), V.str (S "keep")] = false := by
        rcases e with ⟨_, rfl⟩ | ⟨_, rfl⟩ | ⟨_, rfl⟩ <;> decide +kernel
      have hnw : ¬ V.str hd = V.str (S "walk") := by
        rcases e with ⟨_, rfl⟩ | ⟨_, rfl⟩ | ⟨_, rfl⟩ <;> decide +kernel
      rw [show (if false = true then !L2.inV (V.str hd) [V.str (S "same"), V.str (S "keep")] else L2.inV (V.str hd) [V.str (S "same"), V.str (S "keep")]) = false by rw [if_neg Bool.false_ne_true]; exact hin]
      refine iteF ?_
      refine ⟨_, rfl, wl, _, _, _, rfl, rfl, SqL.of hw2, e0, ?_⟩
      tm_at "s"
      rw [decide_eq_false hnw]
      refine ⟨_, rfl, ?_⟩
      refine iteF ?_
      have ndr : d ≠ rd := fun z => by
        have := I.prt
        rw [z, I.ins] at this
        cases this
      have hd3 := sp _ _ (fr _ _ ndr I.prt)
      have hjl : jj < ads.length := by
        rw [I.len]
        exact (List.getElem?_eq_some_iff.mp hc).1
      have ha : ads[jj]? = some ads[jj] := List.getElem?_eq_getElem hjl
      obtain ⟨us, hus, ius⟩ := I.at_ jj _ _ ha hc
      have nar : ads[jj] ≠ rd := fun z => by
        rw [z, hins] at hus
        cases hus
      have hus3 := sp _ _ (fr _ _ nar hus)
      have ius3 := sp.tk.ims (k1.ims ius)
      have hul := ius.length
      have dg : DGet H2 d (.str hd) (some (.ref ads[jj])) := by
        rw [← part_get hj ha]
        exact DGet.k (k := Sum.inr hd) hd3
      refine ⟨_, rfl, rd, Cl, dx, _, _, rfl, hins2, R.cl, R.nP, lk3 _ _ _ _, ?_⟩
      refine ⟨_, rfl, wl, _, _, _, rfl, rfl, SqL.of hw2, e0, ?_⟩
      refine ⟨d, .ref ads[jj], rfl, dg, ?_⟩
      refine ⟨.inl ⟨rfl, _, SqL.of hus3⟩, ?_⟩
      tm_at "go"
      refine fun p3 np3 => ?_
      have ecut : cutV ((hd :: wd f).map V.str) (some 1) none = (wd f).map V.str := cutV_from _ 1
      rw [ecut]
      have hwc := wd_count hf
      have hws := sum_le (wd_lens hf)
      refine ⟨S " ", p3, wd f, rfl, rfl, .inl (SqL.of upd_same), ?_, ?_⟩
      · have : (S " ").length = 1 := by decide +kernel
        rw [this]
        omega
      rw [← wr_join]
      have s3 : Same H2 (upd H2 p3 (.lst ((wd f).map V.str))) := same_new np3
      refine ⟨f, rfl, hf, fun v H4 s4 iv => ?_⟩
      have s24 := s3.trans s4
      refine ⟨ads[jj], us, v, rfl, rfl, s24 _ _ hus3, small1000 (by omega), ?_⟩
      exact q _ (push ads[jj] us ds (fD f) v _ ha hc (sp.trans s24) (s24 _ _ hus3) (s24.tk.ims ius3) iv)
    | walk hn h2 hc hr =>
      rename_i rl
      obtain rfl : j = 5 := nd_ix heads_nodup (i := j) (j := 5) (x := S "walk") hj rfl
      have hin : L2.inV (V.str (S "walk")) [V.str (S "same"), V.str (S "keep")] = false := by decide +kernel
      rw [show (if false = true then !L2.inV (V.str (S "walk")) [V.str (S "same"), V.str (S "keep")] else L2.inV (V.str (S "walk")) [V.str (S "same"), V.str (S "keep")]) = false by rw [if_neg Bool.false_ne_true]; exact hin]
      refine iteF ?_
      refine ⟨_, rfl, wl, _, _, _, rfl, rfl, SqL.of hw2, e0, ?_⟩
      tm_at "go"
      refine fun p3 np3 => ?_
      have hru : ∀ z ∈ rules7, (Txt.split z (S " ")).length ≤ 5 ∧ ((Txt.split z (S " ")).map (·.length)).sum ≤ 30 ∧ Txt.join (S " ") (Txt.split z (S " ")) = z := by decide +kernel
      obtain ⟨q1, q2, q3⟩ := hru rl hr
      have ecut : cutV ((S "walk" :: Txt.split rl (S " ")).map V.str) (some 1) none = (Txt.split rl (S " ")).map V.str := cutV_from _ 1
      rw [ecut]
      refine ⟨S " ", p3, Txt.split rl (S " "), rfl, rfl, .inl (SqL.of upd_same), ?_, ?_⟩
      · have : (S " ").length = 1 := by decide +kernel
        rw [this]
        omega
      rw [q3]
      have s3 : Same H2 (upd H2 p3 (.lst ((Txt.split rl (S " ")).map V.str))) := same_new np3
      have hins3 := s3 _ _ hins2
      have s13 := sp.trans s3
      generalize upd H2 p3 (.lst ((Txt.split rl (S " ")).map V.str)) = H3 at s3 hins3 s13 ⊢
      have hnin : L2.inV (V.str rl) (rules7.map V.str) = true := by
        have : ∀ z ∈ rules7, L2.inV (V.str z) (rules7.map V.str) = true := by decide +kernel
        exact this rl hr
      refine ⟨_, rfl, aR, rules7.map V.str, rfl, .inr (G.tR _), rfl, rfl, ?_⟩
      rw [show (if true = true then !L2.inV (V.str rl) (rules7.map V.str) else L2.inV (V.str rl) (rules7.map V.str)) = false by rw [if_pos rfl, hnin]; rfl]
      refine ⟨_, rfl, ?_⟩
      refine iteF ?_
      have ndr : d ≠ rd := fun z => by
        have := I.prt
        rw [z, I.ins] at this
        cases this
      have hd3 := s13 _ _ (fr _ _ ndr I.prt)
      have hjl : 5 < ads.length := by
        rw [I.len]
        exact (List.getElem?_eq_some_iff.mp hc).1
      have ha : ads[5]? = some ads[5] := List.getElem?_eq_getElem hjl
      obtain ⟨us, hus, ius⟩ := I.at_ 5 _ _ ha hc
      obtain rfl := Ims.nil_inv ius
      have nar : ads[5] ≠ rd := fun z => by
        rw [z, hins] at hus
        cases hus
      have hus3 := s13 _ _ (fr _ _ nar hus)
      have dg : DGet H3 d (.str (S "walk")) (some (.ref ads[5])) := by
        rw [← part_get hj ha]
        exact DGet.k (k := Sum.inr (S "walk")) hd3
      refine ⟨_, rfl, rd, Cl, dx, _, _, rfl, hins3, R.cl, R.nP, lk3 _ _ _ _, ?_⟩
      refine ⟨d, .ref ads[5], rfl, dg, ?_⟩
      refine ⟨false, .inl ⟨[], SqL.of hus3, rfl⟩, ?_⟩
      refine iteF ?_
      refine ⟨_, rfl, rd, Cl, dx, _, _, rfl, hins3, R.cl, R.nP, lk3 _ _ _ _, ?_⟩
      refine ⟨d, .ref ads[5], rfl, dg, ?_⟩
      refine ⟨.inl ⟨rfl, _, SqL.of hus3⟩, ?_⟩
      refine ⟨_, rfl, ?_⟩
      refine ⟨ads[5], [], .str rl, rfl, rfl, hus3, by decide, ?_⟩
      exact q _ (push ads[5] [] [] (.str rl) (.str rl) _ ha hc s13 hus3 .nil (.str _))
end
end C
set_option Elab.async false
set_option linter.all false
set_option pp.maxSteps 1500
set_option maxRecDepth 100000
set_option maxHeartbeats 4000000
namespace C
open PySem PySem.Spec PyProof.Rows L2 Kx M TL
local macro_rules | `(tactic| tm_at "same") => `(tactic| first
  | assumption
  | exact L2.Same.refl _
  | exact L2.Same.upd (by tm_at "same") (by tm_at "free")
  | exact sameTransR (by assumption) (by tm_at "same"))
local macro_rules | `(tactic| tm_at "free") => `(tactic| first
  | assumption
  | exact sameFreeR (by assumption) (by tm_at "same"))
local macro_rules | `(tactic| tm_at "but") => `(tactic| first
  | assumption
  | exact But.refl _ _
  | exact But.transR (by assumption) (by tm_at "but")
  | exact But.upd
  | exact But.self (by tm_at "but")
  | exact But.new1 (by tm_at "but") (by assumption)
  | exact But.new (by tm_at "but") (by tm_at "free")
  | exact L2.Same.but (by assumption) _)
local macro_rules | `(tactic| tm_at "fact") => `(tactic| first
  | exact upd_same
  | assumption
  | exact SqL.of upd_same
  | exact SqT.of upd_same
  | exact SqL.of (by assumption)
  | exact SqT.of (by assumption)
  | exact But.lstR (by assumption) (by assumption) (by tm_at "but"))
local macro_rules | `(tactic| tm_at "cond") => `(tactic| first
  | rfl
  | assumption
  | decide
  | omega
  | exact ⟨by decide, by decide⟩
  | exact .inr ⟨by decide, by decide⟩
  | exact .inl ⟨by decide, by decide⟩
  | exact ⟨by decide, by decide, by decide⟩
  | exact cdivw (by assumption) (by assumption)
  | exact log2_ok (by assumption)
  | exact Or.inl ⟨rfl, _, SqL.of upd_same⟩
  | exact Or.inl ⟨rfl, _, SqL.of (by assumption)⟩
  | exact ⟨_, rfl⟩
  | exact Nat.le_of_ble_eq_true rfl
  | exact small1000 (by omega))
local macro_rules | `(tactic| tm_at "prop") => `(tactic| first
  | assumption
  | omega)
local macro_rules | `(tactic| tm_at "s") => `(tactic| first
  | refine ⟨_, rfl, ?_⟩
  | refine ⟨_, _, rfl, rfl, ?_⟩
  | refine ⟨_, _, _, rfl, rfl, (by tm_at "fact"), (by tm_at "cond"), ?_⟩
  | refine ⟨_, _, _, _, rfl, rfl, (by tm_at "fact"), rfl, ?_⟩
  | refine ⟨_, _, rfl, (by tm_at "fact"), ?_⟩
  | refine And.intro (by tm_at "cond") ?_
  | refine .inl ⟨_, rfl, ?_⟩
  | refine ⟨_, _, rfl, .inl (by tm_at "fact"), ?_⟩
  | refine dec_false (by tm_at "prop") ?_
  | refine dec_true (by tm_at "prop") ?_
  | refine decN_false (by tm_at "prop") ?_
  | refine decN_true (by tm_at "prop") ?_
  | refine iteT ?_
  | refine iteF ?_
  | refine ⟨_, _, rfl, ?_⟩)
local macro_rules | `(tactic| tm_at "go") => `(tactic| repeat tm_at "s")

section
variable {P : Program} {w : World} {K : PySem.W.Frag} {mg : Str → Option Value} {base : Heap} {aH aR : Addr}
/-! ### take_end -/
def spEnd (K : PySem.W.Frag) (Cl : Addr) : Sp := fun vs H Q _ => ∃ (rd : Addr) (H0 : Hp) (s : RS) (a b : Str) (c0 c1 c2 c3 c4 : List PyData) (rl : Str) (c5 : List PyData), vs = [.ref rd] ∧ RdAt K Cl rd H0 H s ∧ s.names = some (a, b) ∧ s.cont = [c0, c1, c2, c3, c4, c5] ∧ (c5 = [] ∧ rl = S "any" ∨ c5 = [.str rl]) ∧
  (∀ c ∈ s.cont, c.length ≤ 100) ∧ s.rows.length ≤ 100 ∧
  ∀ H', RdAt K Cl rd H0 H' ⟨s.rows ++ [.tuple [.tuple [.str a, .str b, .tuple c0, .tuple c1, .tuple c2, .tuple c3], .tuple c4, .str rl]], none, s.cont, s.stage⟩ → Q .non H'
theorem RdIn.done {K : PySem.W.Frag} {Cl rd : Addr} {H0 H H2 H3 : Hp} {s : RS} {dx lf tn d tn2 : Addr} {vs : List V} {ads : List Addr} (I : RdIn K Cl rd H0 H s dx lf tn d vs ads) {v : V} {dd : PyData}
    (s2 : Same H H2) (iv : Im K H2 v dd) (s3 : Same (upd H2 lf (.lst (vs ++ [v]))) H3) (ht : H3 tn2 = some (.tup [])) :
    RdAt K Cl rd H0 (upd H3 rd (.ins Cl dx (flds (.ref lf) (.ref tn2) (.ref d) (.int s.stage)))) ⟨s.rows ++ [dd], none, s.cont, s.stage⟩ := by
  have hlr : lf ≠ rd := fun z => by
    have := I.lst
    rw [z, I.ins] at this
    cases this
  have hdr : d ≠ rd := fun z => by
    have := I.prt
    rw [z, I.ins] at this
    cases this
  have hdl : d ≠ lf := fun z => by
    have := I.prt
    rw [z, I.lst] at this
    cases this
  have fr : ∀ b o, b ≠ lf → H b = some o → H3 b = some o := fun b o n e => s3 _ _ (by rw [upd_ne n]; exact s2 _ _ e)
  have hrd3 := fr _ _ hlr.symm I.ins
  have hlf3 : H3 lf = some (.lst (vs ++ [v])) := s3 _ _ upd_same
  have htr : tn2 ≠ rd := fun z => by
    rw [z, hrd3] at ht
    cases ht
  have k2 : TK H2 H3 := (TK.lst (s2 _ _ I.lst)).trans s3.tk
  have k : TK H2 (upd H3 rd (.ins Cl dx (flds (.ref lf) (.ref tn2) (.ref d) (.int s.stage)))) := k2.trans (TK.ins hrd3)
  refine ⟨dx, lf, tn2, d, vs ++ [v], ads, ?_, upd_same, I.n0, ?_, I.nl, Ims.snoc ((s2.tk.trans k).ims I.rows) (k.im iv), SqT.of ?_, ?_, I.len, fun z => absurd rfl z, I.nd, I.lf_ads, I.na, ?_⟩
  · intro b o e
    have nb : b ≠ rd := fun z => by
      rw [z, I.n0] at e
      cases e
    have nl : b ≠ lf := fun z => by
      rw [z, I.nl] at e
      cases e
    rw [upd_ne nb]
    exact fr _ _ nl (I.same _ _ e)
  · rw [upd_ne hlr]
    exact hlf3
  · rw [upd_ne htr]
    exact ht
  · rw [upd_ne hdr]
    exact fr _ _ hdl I.prt
  · intro i y es e1 e2
    obtain ⟨us, h1, h2⟩ := I.at_ i y es e1 e2
    have hyr : y ≠ rd := fun z => by
      rw [z, I.ins] at h1
      cases h1
    have hyl : y ≠ lf := fun z => I.lf_ads (by rw [← z]; exact List.mem_of_getElem? e1)
    refine ⟨us, ?_, (s2.tk.trans k).ims h2⟩
    rw [upd_ne hyr]
    exact fr _ _ hyl h1
theorem sc_ClaimReader_take_end : FnScope ["self", "parts", "claim", "rule"] ["self"] (defScope s_ClaimReader_take_end) := ⟨rfl, rfl, rfl, by decide +kernel, rfl, by decide +kernel, by decide +kernel⟩
theorem ok_end {k : Nat} {Cl : Addr} (D : MDef K Cl "take_end" "ClaimReader.take_end" s_ClaimReader_take_end ["self"]) (R : Rk K Cl) (B : Bi mg) (G : Gb K mg aH aR) : MCal P w K mg base CX0 (k + 1) Cl "take_end" ["self"] (spEnd K Cl) := by
  refine D.cal fun f fd F => F.ok sc_ClaimReader_take_end (fun vs H Q E h => ?_) (fun cdv A outer s H vs Q E hr h => ?_)
  · obtain ⟨rd, H0, s, a, b, c0, c1, c2, c3, c4, rl, c5, rfl, _⟩ := h
    rfl
  · obtain ⟨rd, H0, r, a, b, c0, c1, c2, c3, c4, rl, c5, rfl, ⟨dx, lf, tn, d, vs, ads, I⟩, hn, hc, hr5, hcl, hrl, q⟩ := h
    have nd := sc_ClaimReader_take_end.nd
    have hins := I.ins
    refine ⟨_, (pss_cons (ps_set (i := 1) nd rfl (Or.inl rfl) (pe_fld (pv 0) rfl))
      (pss_cons (ps_set (i := 2) nd rfl (Or.inl rfl) (pe_op op_catA (pe_fld (pv 0) rfl) (pe_tup (pa_cons (pe_callTy call_tuple_of (by rfl) B.tuple (by decide +kernel) (pa_cons (pe_dget (hu_of hr) (pv 1) pe_str (fun _ _ => rfl)) pa_nil)) (pa_cons (pe_callTy call_tuple_of (by rfl) B.tuple (by decide +kernel) (pa_cons (pe_dget (hu_of hr) (pv 1) pe_str (fun _ _ => rfl)) pa_nil)) (pa_cons (pe_callTy call_tuple_of (by rfl) B.tuple (by decide +kernel) (pa_cons (pe_dget (hu_of hr) (pv 1) pe_str (fun _ _ => rfl)) pa_nil)) (pa_cons (pe_callTy call_tuple_of (by rfl) B.tuple (by decide +kernel) (pa_cons (pe_dget (hu_of hr) (pv 1) pe_str (fun _ _ => rfl)) pa_nil)) pa_nil)))))))
      (C8.pss_cut (ps_set (i := 3) nd rfl (Or.inl rfl) (pe_ifExp (pt_truth (pe_dget (hu_of hr) (pv 1) pe_str (fun _ _ => rfl)) (by intro _; rfl)) (pe_ix ix_list (pe_dget (hu_of hr) (pv 1) pe_str (fun _ _ => rfl)) pe_int (fun _ _ => rfl)) (pe_globS (by rfl) G.ANY_RULE)))
      (pss_cons (ps_expr (pe_bm PySem.F.plainAttrs_list PySem.F.slot_list_append PySem.F.type_list_append mt_append (pe_fld (pv 0) rfl) (pa_cons (pe_tup (pa_cons (pv 2) (pa_cons (pe_callTy call_tuple_of (by rfl) B.tuple (by decide +kernel) (pa_cons (pe_dget (hu_of hr) (pv 1) pe_str (fun _ _ => rfl)) pa_nil)) (pa_cons (pv 3) pa_nil)))) pa_nil)))
      (pss_one (ps_fld (pv 0) (pe_tup pa_nil) rfl)))))), ?_⟩
    refine ⟨_, rfl, rd, Cl, dx, _, _, rfl, hins, R.cl, R.nP, lk3 _ _ _ _, ?_⟩
    refine ⟨_, rfl, rd, Cl, dx, _, _, rfl, hins, R.cl, R.nN, lk2 _ _ _ _, ?_⟩
    have hl := I.len
    rw [hc] at hl
    obtain ⟨a0, a1, a2, a3, a4, a5, rfl⟩ : ∃ a0 a1 a2 a3 a4 a5, ads = [a0, a1, a2, a3, a4, a5] := by
      match ads, hl with
      | [a0, a1, a2, a3, a4, a5], _ => exact ⟨_, _, _, _, _, _, rfl⟩
    obtain ⟨w0, h0, i0⟩ := I.at_ 0 a0 c0 rfl (by rw [hc]; rfl)
    obtain ⟨w1, h1, i1⟩ := I.at_ 1 a1 c1 rfl (by rw [hc]; rfl)
    obtain ⟨w2, h2, i2⟩ := I.at_ 2 a2 c2 rfl (by rw [hc]; rfl)
    obtain ⟨w3, h3, i3⟩ := I.at_ 3 a3 c3 rfl (by rw [hc]; rfl)
    obtain ⟨w4, h4, i4⟩ := I.at_ 4 a4 c4 rfl (by rw [hc]; rfl)
    obtain ⟨w5, h5, i5⟩ := I.at_ 5 a5 c5 rfl (by rw [hc]; rfl)
    have dg : ∀ H', Same H H' → ∀ (j : Nat) (h : Str) (a : Addr), heads6[j]? = some h → [a0, a1, a2, a3, a4, a5][j]? = some a → DGet H' d (.str h) (some (.ref a)) := fun H' s' j h a e1 e2 => by
      rw [← part_get e1 e2]
      exact DGet.k (k := Sum.inr h) (s' _ _ I.prt)
    have r0 := Same.refl H
    refine ⟨_, rfl, d, .ref a0, rfl, dg _ r0 0 _ _ rfl rfl, ?_⟩
    refine ⟨a0, w0, rfl, .inl ⟨SqL.of h0, fun t0 n0 => ?_⟩⟩
    have s1 : Same H (upd H t0 (.tup w0)) := same_new n0
    have e0 : upd H t0 (.tup w0) t0 = some (.tup w0) := upd_same
    generalize upd H t0 (.tup w0) = H1 at s1 e0 ⊢
    refine ⟨_, rfl, d, .ref a1, rfl, dg _ s1 1 _ _ rfl rfl, ?_⟩
    refine ⟨a1, w1, rfl, .inl ⟨SqL.of (s1 _ _ h1), fun t1 n1 => ?_⟩⟩
    have s12 : Same H1 (upd H1 t1 (.tup w1)) := same_new n1
    have e1 : upd H1 t1 (.tup w1) t1 = some (.tup w1) := upd_same
    generalize upd H1 t1 (.tup w1) = H2 at s12 e1 ⊢
    have s2 := s1.trans s12
    refine ⟨_, rfl, d, .ref a2, rfl, dg _ s2 2 _ _ rfl rfl, ?_⟩
    refine ⟨a2, w2, rfl, .inl ⟨SqL.of (s2 _ _ h2), fun t2 n2 => ?_⟩⟩
    have s23 : Same H2 (upd H2 t2 (.tup w2)) := same_new n2
    have e2 : upd H2 t2 (.tup w2) t2 = some (.tup w2) := upd_same
    generalize upd H2 t2 (.tup w2) = H3 at s23 e2 ⊢
    have s3 := s2.trans s23
    refine ⟨_, rfl, d, .ref a3, rfl, dg _ s3 3 _ _ rfl rfl, ?_⟩
    refine ⟨a3, w3, rfl, .inl ⟨SqL.of (s3 _ _ h3), fun t3 n3 => ?_⟩⟩
    have s34 : Same H3 (upd H3 t3 (.tup w3)) := same_new n3
    have e3 : upd H3 t3 (.tup w3) t3 = some (.tup w3) := upd_same
    generalize upd H3 t3 (.tup w3) = H4 at s34 e3 ⊢
    have s4 := s3.trans s34
    tm_at "go"
    refine fun tt ntt => ?_
    have s45 : Same H4 (upd H4 tt (.tup [.ref t0, .ref t1, .ref t2, .ref t3])) := same_new ntt
    have ett : upd H4 tt (.tup [.ref t0, .ref t1, .ref t2, .ref t3]) tt = some (.tup [.ref t0, .ref t1, .ref t2, .ref t3]) := upd_same
    generalize upd H4 tt (.tup [.ref t0, .ref t1, .ref t2, .ref t3]) = H5 at s45 ett ⊢
    have s5 := s4.trans s45
    have hnm := s5.tk.tup I.nms
    rw [hn] at hnm
    have hsz : (nmV (some (a, b))).length + [V.ref t0, V.ref t1, V.ref t2, V.ref t3].length ≤ sizeLine := Nat.le_of_ble_eq_true rfl
    refine ⟨tn, tt, nmV (some (a, b)), [.ref t0, .ref t1, .ref t2, .ref t3], rfl, rfl, hnm, SqT.of ett, hsz, fun z => (by cases z), fun _ z => (by cases z), fun _ _ tc ntc => ?_⟩
    have s56 : Same H5 (upd H5 tc (.tup (nmV (some (a, b)) ++ [.ref t0, .ref t1, .ref t2, .ref t3]))) := same_new ntc
    have etc : upd H5 tc (.tup (nmV (some (a, b)) ++ [.ref t0, .ref t1, .ref t2, .ref t3])) tc = some (.tup (nmV (some (a, b)) ++ [.ref t0, .ref t1, .ref t2, .ref t3])) := upd_same
    generalize upd H5 tc (.tup (nmV (some (a, b)) ++ [.ref t0, .ref t1, .ref t2, .ref t3])) = H6 at s56 etc ⊢
    have s6 := s5.trans s56
    refine ⟨fun σ H' => σ = [some (.ref rd), some (.ref d), some (.ref tc), some (.str rl)] ∧ H' = H6, ?_, ?_⟩
    · refine ⟨_, rfl, d, .ref a5, rfl, dg _ s6 5 _ _ rfl rfl, ?_⟩
      rcases hr5 with ⟨rfl, rfl⟩ | rfl
      · obtain rfl := Ims.nil_inv i5
        refine ⟨false, .inl ⟨[], SqL.of (s6 _ _ h5), rfl⟩, ?_⟩
        refine iteF ?_
        exact ⟨rfl, rfl⟩
      · obtain ⟨v, r, rfl, iv, ir⟩ := Ims.cons_inv i5
        obtain rfl := Ims.nil_inv ir
        obtain rfl := Im.str_inv iv
        refine ⟨true, .inl ⟨[.str rl], SqL.of (s6 _ _ h5), rfl⟩, ?_⟩
        refine iteT ?_
        refine ⟨_, rfl, d, .ref a5, rfl, dg _ s6 5 _ _ rfl rfl, ?_⟩
        refine ⟨_, _, _, .str rl, rfl, rfl, SqL.of (s6 _ _ h5), atI_nat (j := 0) rfl, ?_⟩
        exact ⟨rfl, rfl⟩
    · rintro σ H7 ⟨rfl, rfl⟩
      refine ⟨_, rfl, rd, Cl, dx, _, _, rfl, s6 _ _ hins, R.cl, R.nF, lk1 _ _ _ _, ?_⟩
      refine ⟨.inl ⟨rfl, _, SqL.of (s6 _ _ I.lst)⟩, ?_⟩
      refine ⟨_, rfl, _, rfl, d, .ref a4, rfl, dg _ s6 4 _ _ rfl rfl, ?_⟩
      refine ⟨a4, w4, rfl, .inl ⟨SqL.of (s6 _ _ h4), fun t4 n4 => ?_⟩⟩
      have s67 : Same H7 (upd H7 t4 (.tup w4)) := same_new n4
      have e4 : upd H7 t4 (.tup w4) t4 = some (.tup w4) := upd_same
      generalize upd H7 t4 (.tup w4) = H8 at s67 e4 ⊢
      tm_at "go"
      refine fun tr ntr => ?_
      have s78 : Same H8 (upd H8 tr (.tup [.ref tc, .ref t4, .str rl])) := same_new ntr
      have er : upd H8 tr (.tup [.ref tc, .ref t4, .str rl]) tr = some (.tup [.ref tc, .ref t4, .str rl]) := upd_same
      generalize upd H8 tr (.tup [.ref tc, .ref t4, .str rl]) = H9 at s78 er ⊢
      have s9 := (s6.trans s67).trans s78
      have s69 := s67.trans s78
      have s59 := s56.trans s69
      have s49 := s45.trans s59
      have s39 := s34.trans s49
      have s29 := s23.trans s39
      have s19 := s12.trans s29
      have hvl := I.rows.length
      refine ⟨lf, vs, .ref tr, rfl, rfl, s9 _ _ I.lst, small1000 (by omega), ?_⟩
      have iv : Im K H9 (.ref tr) (.tuple [.tuple [.str a, .str b, .tuple c0, .tuple c1, .tuple c2, .tuple c3], .tuple c4, .str rl]) := by
        refine .tup (SqT.of er) (.cons (.tup (SqT.of (s69 _ _ etc)) (.cons (.str _) (.cons (.str _) (.cons ?_ (.cons ?_ (.cons ?_ (.cons ?_ .nil))))))) (.cons ?_ (.cons (.str _) .nil)))
        · exact .tup (SqT.of (s19 _ _ e0)) (s9.tk.ims i0)
        · exact .tup (SqT.of (s29 _ _ e1)) (s9.tk.ims i1)
        · exact .tup (SqT.of (s39 _ _ e2)) (s9.tk.ims i2)
        · exact .tup (SqT.of (s49 _ _ e3)) (s9.tk.ims i3)
        · exact .tup (SqT.of (s78 _ _ e4)) (s9.tk.ims i4)
      tm_at "go"
      refine fun tn2 ntn2 => ?_
      have hlr : lf ≠ rd := fun z => by
        have := I.lst
        rw [z, hins] at this
        cases this
      have sA : Same (upd H9 lf (.lst (vs ++ [.ref tr]))) (upd (upd H9 lf (.lst (vs ++ [.ref tr]))) tn2 (.tup [])) := same_new ntn2
      have hA : upd H9 lf (.lst (vs ++ [.ref tr])) rd = some (.ins Cl dx (flds (.ref lf) (.ref tn) (.ref d) (.int r.stage))) := by
        rw [upd_ne hlr.symm]
        exact s9 _ _ hins
      refine ⟨_, rfl, rd, Cl, dx, _, rfl, sA _ _ hA, R.cl, R.nN, Nat.le_of_ble_eq_true rfl, ?_⟩
      rw [pu2]
      exact q _ (I.done s9 iv sA upd_same)
end
end C
set_option Elab.async false
set_option linter.all false
set_option pp.maxSteps 1500
set_option maxRecDepth 100000
set_option maxHeartbeats 4000000
namespace C
open PySem PySem.Spec PyProof.Rows L2 Kx M TL
local macro_rules | `(tactic| tm_at "same") => `(tactic| first
  | assumption
  | exact L2.Same.refl _
  | exact L2.Same.upd (by tm_at "same") (by tm_at "free")
  | exact sameTransR (by assumption) (by tm_at "same"))
local macro_rules | `(tactic| tm_at "free") => `(tactic| first
  | assumption
  | exact sameFreeR (by assumption) (by tm_at "same"))
local macro_rules | `(tactic| tm_at "but") => `(tactic| first
  | assumption
  | exact But.refl _ _
  | exact But.transR (by assumption) (by tm_at "but")
  | exact But.upd
  | exact But.self (by tm_at "but")
  | exact But.new1 (by tm_at "but") (by assumption)
  | exact But.new (by tm_at "but") (by tm_at "free")
  | exact L2.Same.but (by assumption) _)
local macro_rules | `(tactic| tm_at "fact") => `(tactic| first
  | exact upd_same
  | assumption
  | exact SqL.of upd_same
  | exact SqT.of upd_same
  | exact SqL.of (by assumption)
  | exact SqT.of (by assumption)
  | exact But.lstR (by assumption) (by assumption) (by tm_at "but"))
local macro_rules | `(tactic| tm_at "cond") => `(tactic| first
  | rfl
  | assumption
  | decide
  | omega
  | exact ⟨by decide, by decide⟩
  | exact .inr ⟨by decide, by decide⟩
  | exact .inl ⟨by decide, by decide⟩
  | exact ⟨by decide, by decide, by decide⟩
  | exact cdivw (by assumption) (by assumption)
  | exact log2_ok (by assumption)
  | exact Or.inl ⟨rfl, _, SqL.of upd_same⟩
  | exact Or.inl ⟨rfl, _, SqL.of (by assumption)⟩
  | exact ⟨_, rfl⟩
  | exact Nat.le_of_ble_eq_true rfl
  | exact small1000 (by omega))
local macro_rules | `(tactic| tm_at "prop") => `(tactic| first
  | assumption
  | omega)
local macro_rules | `(tactic| tm_at "s") => `(tactic| first
  | refine ⟨_, rfl, ?_⟩
  | refine ⟨_, _, rfl, rfl, ?_⟩
  | refine ⟨_, _, _, rfl, rfl, (by tm_at "fact"), (by tm_at "cond"), ?_⟩
  | refine ⟨_, _, _, _, rfl, rfl, (by tm_at "fact"), rfl, ?_⟩
  | refine ⟨_, _, rfl, (by tm_at "fact"), ?_⟩
  | refine And.intro (by tm_at "cond") ?_
  | refine .inl ⟨_, rfl, ?_⟩
  | refine ⟨_, _, rfl, .inl (by tm_at "fact"), ?_⟩
  | refine dec_false (by tm_at "prop") ?_
  | refine dec_true (by tm_at "prop") ?_
  | refine decN_false (by tm_at "prop") ?_
  | refine decN_true (by tm_at "prop") ?_
  | refine iteT ?_
  | refine iteF ?_
  | refine ⟨_, _, rfl, ?_⟩)
local macro_rules | `(tactic| tm_at "go") => `(tactic| repeat tm_at "s")

section
variable {P : Program} {w : World} {K : PySem.W.Frag} {mg : Str → Option Value} {base : Heap} {aH aR : Addr}
/-! ### the reader stays while other things come -/
theorem RdIn.next {K : PySem.W.Frag} {Cl rd : Addr} {H0 H H' : Hp} {s : RS} {dx lf tn d : Addr} {vs : List V} {ads : List Addr} (I : RdIn K Cl rd H0 H s dx lf tn d vs ads) (t : Same H H') : RdIn K Cl rd H0 H' s dx lf tn d vs ads :=
  ⟨I.same.trans t, t _ _ I.ins, I.n0, t _ _ I.lst, I.nl, t.tk.ims I.rows, t.tk.tup I.nms, t _ _ I.prt, I.len, I.six, I.nd, I.lf_ads, I.na, fun i a ds e1 e2 => by
    obtain ⟨ws, h1, h2⟩ := I.at_ i a ds e1 e2
    exact ⟨ws, t _ _ h1, t.tk.ims h2⟩⟩
theorem RdAt.next {K : PySem.W.Frag} {Cl rd : Addr} {H0 H H' : Hp} {s : RS} (I : RdAt K Cl rd H0 H s) (t : Same H H') : RdAt K Cl rd H0 H' s := by
  obtain ⟨dx, lf, tn, d, vs, ads, J⟩ := I
  exact ⟨dx, lf, tn, d, vs, ads, J.next t⟩
theorem RdAt.same {K : PySem.W.Frag} {Cl rd : Addr} {H0 H : Hp} {s : RS} (I : RdAt K Cl rd H0 H s) : Same H0 H := by
  obtain ⟨dx, lf, tn, d, vs, ads, J⟩ := I
  exact J.same
/-- what is new is left alone too -/
theorem RdAt.frame {K : PySem.W.Frag} {Cl rd : Addr} {H0 H : Hp} {s : RS} (I : RdAt K Cl rd H0 H s) {p : Addr} {o : HO} (np : H p = none) : RdAt K Cl rd (upd H0 p o) (upd H p o) s := by
  obtain ⟨dx, lf, tn, d, vs, ads, J⟩ := I
  have J2 := J.next (same_new (o := o) np)
  refine ⟨dx, lf, tn, d, vs, ads, ?_, J2.ins, ?_, J2.lst, ?_, J2.rows, J2.nms, J2.prt, J2.len, J2.six, J2.nd, J2.lf_ads, fun a ha => ?_, J2.at_⟩
  · intro b x e
    by_cases h : b = p
    · subst h
      rw [upd_same] at e ⊢
      exact e
    · rw [upd_ne h] at e ⊢
      exact J.same _ _ e
  · rw [upd_ne (ne_of_none J.ins np)]
    exact J.n0
  · rw [upd_ne (ne_of_none J.lst np)]
    exact J.nl
  · obtain ⟨i, hi, e⟩ := List.getElem_of_mem ha
    have hi2 : i < s.cont.length := by
      rw [← J.len]
      exact hi
    obtain ⟨ws, h1, _⟩ := J.at_ i a _ (by rw [List.getElem?_eq_getElem hi, e]) (List.getElem?_eq_getElem hi2)
    rw [upd_ne (ne_of_none h1 np)]
    exact J.na a ha
/-! ### lists of texts as data -/
theorem eqv_strs : ∀ (ws us : List Str), PyData.eqvAll (ws.map PyData.str) (us.map PyData.str) = decide (ws = us)
  | [], [] => by simp only [List.map_nil, PyData.eqvAll]; rfl
  | [], _ :: _ => by simp only [List.map_nil, List.map_cons, PyData.eqvAll]; rfl
  | _ :: _, [] => by simp only [List.map_nil, List.map_cons, PyData.eqvAll]; rfl
  | w :: ws, u :: us => by
    simp only [List.map_cons, PyData.eqvAll, PyData.eqv]
    rw [eqv_strs ws us, beq_dec]
    by_cases h1 : w = u
    · by_cases h2 : ws = us
      · rw [decide_eq_true h1, decide_eq_true h2, decide_eq_true (by rw [h1, h2])]
        rfl
      · rw [decide_eq_false h2, Bool.and_false, decide_eq_false fun e => h2 (List.cons.inj e).2]
    · rw [decide_eq_false h1, Bool.false_and, decide_eq_false fun e => h1 (List.cons.inj e).1]
theorem lay_strs : ∀ {ws : List Str}, (∀ x ∈ ws, Ok x) → PyData.canLayAll0 (ws.map PyData.str) = true
  | [], _ => by simp only [List.map_nil, PyData.canLayAll0]
  | w :: ws, h => by
    simp only [List.map_cons, PyData.canLayAll0, PyData.canLay0]
    rw [lay_strs fun x hx => h x (List.mem_cons_of_mem _ hx), show PyData.strOk w = true from h w (List.mem_cons_self ..)]
    rfl
theorem depth_strs : ∀ ws : List Str, PyData.depthAll (ws.map PyData.str) ≤ 1
  | [] => by simp only [List.map_nil, PyData.depthAll]; exact Nat.zero_le _
  | w :: ws => by
    have := depth_strs ws
    simp only [List.map_cons, PyData.depthAll, PyData.depth]
    omega
theorem shaped_strs {ws : List Str} (h : ∀ x ∈ ws, Ok x) : SeqAt.shaped (.list (ws.map PyData.str)) = true := by
  unfold SeqAt.shaped
  rw [show PyData.canLay0 (.list (ws.map PyData.str)) = PyData.canLayAll0 (ws.map PyData.str) by simp only [PyData.canLay0], lay_strs h]
  have h1 := depth_strs ws
  have h2 : PyData.depth (.list (ws.map PyData.str)) = PyData.depthAll (ws.map PyData.str) + 1 := by simp only [PyData.depth]
  rw [h2, decide_eq_true (by omega)]
  rfl
theorem shaped_tstrs {ws : List Str} (h : ∀ x ∈ ws, Ok x) : SeqAt.shaped (.tuple (ws.map PyData.str)) = true := by
  unfold SeqAt.shaped
  rw [show PyData.canLay0 (.tuple (ws.map PyData.str)) = PyData.canLayAll0 (ws.map PyData.str) by simp only [PyData.canLay0], lay_strs h]
  have h1 := depth_strs ws
  have h2 : PyData.depth (.tuple (ws.map PyData.str)) = PyData.depthAll (ws.map PyData.str) + 1 := by simp only [PyData.depth]
  rw [h2, decide_eq_true (by omega)]
  rfl
/-! ### take -/
def rowD (a b : Str) (c0 c1 c2 c3 c4 : List PyData) (rl : Str) : PyData := .tuple [.tuple [.str a, .str b, .tuple c0, .tuple c1, .tuple c2, .tuple c3], .tuple c4, .str rl]
inductive Stp : RS → List Str → RS → Prop
  | head {s : RS} {a b : Str} : s.names = none → Stp s [S "claim", a, S "with", b] ⟨s.rows, some (a, b), List.replicate 6 [], 0⟩
  | part {s s' : RS} {ws : List Str} : Prt s ws s' → Stp s ws s'
  | fin {s : RS} {a b : Str} {c0 c1 c2 c3 c4 c5 : List PyData} {rl : Str} : s.names = some (a, b) → s.cont = [c0, c1, c2, c3, c4, c5] → (c5 = [] ∧ rl = S "any" ∨ c5 = [.str rl]) → (∀ c ∈ s.cont, c.length ≤ 100) → s.rows.length ≤ 100 →
      Stp s [S "end"] ⟨s.rows ++ [rowD a b c0 c1 c2 c3 c4 rl], none, s.cont, s.stage⟩
/-- the names of a claim under way can be laid -/
def NOk (s : RS) : Prop := ∀ p, s.names = some p → Ok p.1 ∧ Ok p.2
def spTake (K : PySem.W.Frag) (Cl : Addr) : Sp := fun vs H Q _ => ∃ (rd : Addr) (H0 : Hp) (s s' : RS) (L : Str), vs = [.ref rd, .str L] ∧ RdAt K Cl rd H0 H s ∧ NOk s ∧ L.length ≤ 20000 ∧ (∀ x ∈ Txt.words L, Ok x) ∧ Stp s (Txt.words L) s' ∧
  ∀ H', RdAt K Cl rd H0 H' s' → Q (.bl true) H'
theorem lkno {m : Str} (a b c d : V) (h1 : ¬ S "found" = m) (h2 : ¬ S "names" = m) (h3 : ¬ S "parts" = m) (h4 : ¬ S "stage" = m) : (flds a b c d).lookup m = none := by
  unfold flds
  rw [lk h1, lk h2, lk h3, lk h4]
  rfl
theorem nm_eqv (s : RS) : PyData.eqv (.tuple (nmD s.names)) (.tuple []) = decide (s.names = none) := by
  cases h : s.names with
  | none => simp only [nmD, PyData.eqv, PyData.eqvAll]; rfl
  | some p => simp only [nmD, PyData.eqv, PyData.eqvAll]; rfl
theorem end1 : ∀ x ∈ [S "end"], Ok x := fun x hx => by
  rw [List.mem_singleton.mp hx]
  exact (by decide +kernel : PyData.strOk (S "end") = true)
theorem nm_shaped {s : RS} (h : NOk s) : SeqAt.shaped (.tuple (nmD s.names)) = true := by
  cases e : s.names with
  | none => rfl
  | some p =>
    refine shaped_tstrs (ws := [p.1, p.2]) fun x hx => ?_
    rcases List.mem_cons.mp hx with z | z
    · rw [z]; exact (h p e).1
    · rw [List.mem_singleton.mp z]; exact (h p e).2
theorem sc_ClaimReader_take : FnScope ["self", "line", "words"] ["self", "line"] (defScope s_ClaimReader_take) := ⟨rfl, rfl, rfl, by decide +kernel, rfl, by decide +kernel, by decide +kernel⟩
theorem fn_take {k : Nat} {Cl f : Addr} {fd : FuncData} (F : Fun K "take" "ClaimReader.take" s_ClaimReader_take f fd) (R : Rk K Cl) (B : Bi mg) (G : Gb K mg aH aR)
    (m_ClaimReader_take_head : MCal P w K mg base CX0 k Cl "take_head" ["self", "words"] (spHead K Cl)) (m_ClaimReader_take_part : MCal P w K mg base CX0 k Cl "take_part" ["self", "words"] (spPart K Cl)) (m_ClaimReader_take_end : MCal P w K mg base CX0 k Cl "take_end" ["self"] (spEnd K Cl)) :
    FnOk P w K mg base CX0 (k + 1) f fd ["self", "line"] (spTake K Cl) := by
  refine F.ok sc_ClaimReader_take (fun vs H Q E h => ?_) (fun cdv A outer s H vs Q E hr h => ?_)
  · obtain ⟨rd, H0, s, s', L, rfl, _⟩ := h
    rfl
  · obtain ⟨rd, H0, r, r', L, rfl, hR, hnk, hL, hok, hst, q⟩ := h
    have nd := sc_ClaimReader_take.nd
    have cl_ClaimReader := R.cl
    have big : (100000 : Nat) ≤ sizeLine := by decide
    refine ⟨_, (pss_cons (ps_set (i := 2) nd rfl (Or.inl rfl) (pe_words (pv 1)))
      (pss_cons (ps_if (pt_cmpR op_eq (pe_ix ix_list (pv 2) pe_int (fun _ _ => rfl)) pe_str (nomark _))
        (pss_one (ps_ret (pe_mcal cl_ClaimReader m_ClaimReader_take_head (Room.mono hr (by omega)) (pv 0) (pa_cons (pv 2) pa_nil))))
        pss_nil)
      (pss_cons (ps_if (pt_cmpR (op_eqD hr.units) (pe_fld (pv 0) rfl) (pe_tup pa_nil) (nomark _))
        (pss_one (ps_ret pe_bl))
        pss_nil)
      (pss_cons (ps_if (pt_cmpR (op_eqD hr.units) (pv 2) (pe_lst (pa_cons pe_str pa_nil)) (nomark _))
        (pss_cons (ps_expr (pe_mcal0 cl_ClaimReader m_ClaimReader_take_end (Room.mono hr (by omega)) (pv 0)))
        (pss_one (ps_ret pe_bl)))
        pss_nil)
      (pss_one (ps_ret (pe_and (pe_cmpR op_in_seq (pe_ix ix_list (pv 2) pe_int (fun _ _ => rfl)) (pe_globR (by rfl) G.HEADS) (by rfl)) (pe_one (pe_mcal cl_ClaimReader m_ClaimReader_take_part (Room.mono hr (by omega)) (pv 0) (pa_cons (pv 2) pa_nil)))))))))), ?_⟩
    generalize hW : Txt.words L = W at hok hst
    tm_at "go"
    refine fun wl nwl => ?_
    rw [hW]
    have s1 : Same H (upd H wl (.lst (W.map V.str))) := same_new nwl
    have hw : upd H wl (.lst (W.map V.str)) wl = some (.lst (W.map V.str)) := upd_same
    have hR1 := hR.next s1
    generalize upd H wl (.lst (W.map V.str)) = H1 at s1 hw hR1 ⊢
    obtain ⟨dx, lf, tn, d, vs, ads, I⟩ := id hR1
    cases hst with
    | head hn =>
      rename_i a b
      have e0 : atI ([S "claim", a, S "with", b].map V.str) 0 = some (V.str (S "claim")) := atI_nat (j := 0) rfl
      refine ⟨_, rfl, wl, _, _, _, rfl, rfl, SqL.of hw, e0, ?_⟩
      refine ⟨rfl, _, rfl, ?_⟩
      rw [decide_eq_true rfl]
      refine iteT ?_
      exact ⟨_, rfl, rd, dx, _, rfl, I.ins, lkno _ _ _ _ (by decide +kernel) (by decide +kernel) (by decide +kernel) (by decide +kernel), _, rfl, rd, wl, H0, r, a, b, rfl, hR1, SqL.of hw, hn, q⟩
    | part hp =>
      have pre : ∃ (hd : Str) (rest : List Str) (j : Nat), W = hd :: rest ∧ heads6[j]? = some hd ∧ r.names ≠ none := by
        cases hp with
        | pair h0 e h2 => rcases e with ⟨rfl, rfl⟩ | ⟨rfl, rfl⟩ <;> first | exact ⟨_, _, 1, rfl, rfl, h0⟩ | exact ⟨_, _, 3, rfl, rfl, h0⟩
        | form h0 e h2 => rcases e with ⟨rfl, rfl⟩ | ⟨rfl, rfl⟩ | ⟨rfl, rfl⟩ <;> first | exact ⟨_, _, 0, rfl, rfl, h0⟩ | exact ⟨_, _, 2, rfl, rfl, h0⟩ | exact ⟨_, _, 4, rfl, rfl, h0⟩
        | walk h0 h2 => exact ⟨_, _, 5, rfl, rfl, h0⟩
      obtain ⟨hd, rest, j, rfl, hj, hnn⟩ := pre
      have hdm := List.mem_of_getElem? hj
      have hh : ∀ z ∈ heads6, z ≠ S "claim" ∧ z ≠ S "end" ∧ L2.inV (V.str z) (heads6.map V.str) = true := by decide +kernel
      obtain ⟨z1, z2, z3⟩ := hh hd hdm
      have e0 : atI ((hd :: rest).map V.str) 0 = some (V.str hd) := atI_nat (j := 0) rfl
      refine ⟨_, rfl, wl, _, _, _, rfl, rfl, SqL.of hw, e0, ?_⟩
      refine ⟨rfl, _, rfl, ?_⟩
      rw [decide_eq_false (fun z => z1 (V.str.inj z))]
      refine iteF ?_
      refine ⟨_, rfl, rd, Cl, dx, _, _, rfl, I.ins, R.cl, R.nN, lk2 _ _ _ _, ?_⟩
      tm_at "go"
      refine fun p np => ?_
      have sp : Same H1 (upd H1 p (.tup [])) := same_new np
      refine ⟨_, .tuple [], .tup (sp.tk.tup I.nms) (nm_ims _).dp, .tup (SqT.of upd_same) .nil, nm_shaped hnk, rfl, ?_⟩
      rw [nm_eqv, decide_eq_false hnn]
      refine ⟨_, rfl, ?_⟩
      refine iteF ?_
      have hw2 := sp _ _ hw
      have hR2 := hR1.next sp
      generalize upd H1 p (.tup []) = H2 at sp hw2 hR2 ⊢
      tm_at "go"
      refine fun p2 np2 => ?_
      have sp2 : Same H2 (upd H2 p2 (.lst [.str (S "end")])) := same_new np2
      refine ⟨_, .list ([S "end"].map PyData.str), .lst (SqL.of (sp2 _ _ hw2)) (ims_strs (H := upd H2 p2 (.lst [.str (S "end")])) (hd :: rest)).dp, .lst (SqL.of upd_same) (.cons (.str _) .nil), shaped_strs hok, shaped_strs end1, ?_⟩
      rw [show PyData.eqv (.list ((hd :: rest).map PyData.str)) (.list ([S "end"].map PyData.str)) = false from (eqv_strs _ _).trans (decide_eq_false fun e => z2 (List.cons.inj e).1)]
      refine ⟨_, rfl, ?_⟩
      refine iteF ?_
      have hw3 := sp2 _ _ hw2
      have hR3 := hR2.next sp2
      generalize upd H2 p2 (.lst [.str (S "end")]) = H3 at sp2 hw3 hR3 ⊢
      refine ⟨_, rfl, wl, _, _, _, rfl, rfl, SqL.of hw3, e0, ?_⟩
      refine ⟨aH, heads6.map V.str, rfl, .inr (G.tH _), rfl, rfl, ?_⟩
      rw [show (if false = true then !L2.inV (V.str hd) (heads6.map V.str) else L2.inV (V.str hd) (heads6.map V.str)) = true by rw [if_neg Bool.false_ne_true]; exact z3]
      refine ⟨_, rfl, ?_⟩
      refine iteT ?_
      obtain ⟨dx3, lf3, tn3, d3, vs3, ads3, I3⟩ := id hR3
      exact ⟨_, rfl, rd, dx3, _, rfl, I3.ins, lkno _ _ _ _ (by decide +kernel) (by decide +kernel) (by decide +kernel) (by decide +kernel), _, rfl, rd, wl, H0, r, r', hd :: rest, rfl, hR3, hw3, hp, q⟩
    | fin hn hc hr5 hcl hrl =>
      rename_i a b c0 c1 c2 c3 c4 c5 rl
      have e0 : atI ([S "end"].map V.str) 0 = some (V.str (S "end")) := atI_nat (j := 0) rfl
      have e01 : ¬ V.str (S "end") = V.str (S "claim") := by decide +kernel
      refine ⟨_, rfl, wl, _, _, _, rfl, rfl, SqL.of hw, e0, ?_⟩
      refine ⟨rfl, _, rfl, ?_⟩
      rw [decide_eq_false e01]
      refine iteF ?_
      refine ⟨_, rfl, rd, Cl, dx, _, _, rfl, I.ins, R.cl, R.nN, lk2 _ _ _ _, ?_⟩
      tm_at "go"
      refine fun p np => ?_
      have sp : Same H1 (upd H1 p (.tup [])) := same_new np
      refine ⟨_, .tuple [], .tup (sp.tk.tup I.nms) (nm_ims _).dp, .tup (SqT.of upd_same) .nil, nm_shaped hnk, rfl, ?_⟩
      rw [nm_eqv, decide_eq_false (by rw [hn]; intro z; cases z)]
      refine ⟨_, rfl, ?_⟩
      refine iteF ?_
      have hw2 := sp _ _ hw
      have hR2 := hR1.next sp
      generalize upd H1 p (.tup []) = H2 at sp hw2 hR2 ⊢
      tm_at "go"
      refine fun p2 np2 => ?_
      have sp2 : Same H2 (upd H2 p2 (.lst [.str (S "end")])) := same_new np2
      refine ⟨.list ([S "end"].map PyData.str), .list ([S "end"].map PyData.str), .lst (SqL.of (sp2 _ _ hw2)) (.cons (.str _) .nil), .lst (SqL.of upd_same) (.cons (.str _) .nil), shaped_strs hok, shaped_strs hok, ?_⟩
      rw [show PyData.eqv (.list ([S "end"].map PyData.str)) (.list ([S "end"].map PyData.str)) = true from (eqv_strs _ _).trans (decide_eq_true rfl)]
      refine ⟨_, rfl, ?_⟩
      refine iteT ?_
      have hR3 := hR2.next sp2
      generalize upd H2 p2 (.lst [.str (S "end")]) = H3 at sp2 hR3 ⊢
      obtain ⟨dx3, lf3, tn3, d3, vs3, ads3, I3⟩ := id hR3
      refine ⟨_, rfl, rd, dx3, _, rfl, I3.ins, lkno _ _ _ _ (by decide +kernel) (by decide +kernel) (by decide +kernel) (by decide +kernel), ?_⟩
      exact ⟨rd, H0, r, a, b, c0, c1, c2, c3, c4, rl, c5, rfl, hR3, hn, hc, hr5, hcl, hrl, q⟩
theorem ok_take {k : Nat} {Cl : Addr} (D : MDef K Cl "take" "ClaimReader.take" s_ClaimReader_take ["self", "line"]) (R : Rk K Cl) (B : Bi mg) (G : Gb K mg aH aR)
    (m_ClaimReader_take_head : MCal P w K mg base CX0 k Cl "take_head" ["self", "words"] (spHead K Cl)) (m_ClaimReader_take_part : MCal P w K mg base CX0 k Cl "take_part" ["self", "words"] (spPart K Cl)) (m_ClaimReader_take_end : MCal P w K mg base CX0 k Cl "take_end" ["self"] (spEnd K Cl)) :
    MCal P w K mg base CX0 (k + 1) Cl "take" ["self", "line"] (spTake K Cl) :=
  D.cal fun f fd F => fn_take F R B G m_ClaimReader_take_head m_ClaimReader_take_part m_ClaimReader_take_end
end
end C
set_option Elab.async false
set_option linter.all false
set_option pp.maxSteps 1500
set_option maxRecDepth 100000
set_option maxHeartbeats 4000000
namespace C
open PySem PySem.Spec PyProof.Rows L2 Kx M TL
local macro_rules | `(tactic| tm_at "same") => `(tactic| first
  | assumption
  | exact L2.Same.refl _
  | exact L2.Same.upd (by tm_at "same") (by tm_at "free")
  | exact sameTransR (by assumption) (by tm_at "same"))
local macro_rules | `(tactic| tm_at "free") => `(tactic| first
  | assumption
  | exact sameFreeR (by assumption) (by tm_at "same"))
local macro_rules | `(tactic| tm_at "but") => `(tactic| first
  | assumption
  | exact But.refl _ _
  | exact But.transR (by assumption) (by tm_at "but")
  | exact But.upd
  | exact But.self (by tm_at "but")
  | exact But.new1 (by tm_at "but") (by assumption)
  | exact But.new (by tm_at "but") (by tm_at "free")
  | exact L2.Same.but (by assumption) _)
local macro_rules | `(tactic| tm_at "fact") => `(tactic| first
  | exact upd_same
  | assumption
  | exact SqL.of upd_same
  | exact SqT.of upd_same
  | exact SqL.of (by assumption)
  | exact SqT.of (by assumption)
  | exact But.lstR (by assumption) (by assumption) (by tm_at "but"))
local macro_rules | `(tactic| tm_at "cond") => `(tactic| first
  | rfl
  | assumption
  | decide
  | omega
  | exact ⟨by decide, by decide⟩
  | exact .inr ⟨by decide, by decide⟩
  | exact .inl ⟨by decide, by decide⟩
  | exact ⟨by decide, by decide, by decide⟩
  | exact cdivw (by assumption) (by assumption)
  | exact log2_ok (by assumption)
  | exact Or.inl ⟨rfl, _, SqL.of upd_same⟩
  | exact Or.inl ⟨rfl, _, SqL.of (by assumption)⟩
  | exact ⟨_, rfl⟩
  | exact Nat.le_of_ble_eq_true rfl
  | exact small1000 (by omega))
local macro_rules | `(tactic| tm_at "prop") => `(tactic| first
  | assumption
  | omega)
local macro_rules | `(tactic| tm_at "s") => `(tactic| first
  | refine ⟨_, rfl, ?_⟩
  | refine ⟨_, _, rfl, rfl, ?_⟩
  | refine ⟨_, _, _, rfl, rfl, (by tm_at "fact"), (by tm_at "cond"), ?_⟩
  | refine ⟨_, _, _, _, rfl, rfl, (by tm_at "fact"), rfl, ?_⟩
  | refine ⟨_, _, rfl, (by tm_at "fact"), ?_⟩
  | refine And.intro (by tm_at "cond") ?_
  | refine .inl ⟨_, rfl, ?_⟩
  | refine ⟨_, _, rfl, .inl (by tm_at "fact"), ?_⟩
  | refine dec_false (by tm_at "prop") ?_
  | refine dec_true (by tm_at "prop") ?_
  | refine decN_false (by tm_at "prop") ?_
  | refine decN_true (by tm_at "prop") ?_
  | refine iteT ?_
  | refine iteF ?_
  | refine ⟨_, _, rfl, ?_⟩)
local macro_rules | `(tactic| tm_at "go") => `(tactic| repeat tm_at "s")

section
variable {P : Program} {w : World} {K : PySem.W.Frag} {mg : Str → Option Value} {base : Heap} {aH aR : Addr}
/-! ### read_claims -/
inductive Run : RS → List (List Str) → RS → Prop
  | nil {s : RS} : Run s [] s
  | cons {s s1 s2 : RS} {ws : List Str} {W : List (List Str)} : Stp s ws s1 → Run s1 W s2 → Run s (ws :: W) s2
theorem Run.append {s s1 s2 : RS} {W X : List (List Str)} (a : Run s W s1) (b : Run s1 X s2) : Run s (W ++ X) s2 := by
  induction a with
  | nil => exact b
  | cons h _ ih => exact .cons h (ih b)
theorem Run.one {s s1 : RS} {ws : List Str} (h : Stp s ws s1) : Run s [ws] s1 := .cons h .nil
theorem stp_nok {s s' : RS} {ws : List Str} (h : NOk s) (hw : ∀ x ∈ ws, Ok x) (t : Stp s ws s') : NOk s' := by
  cases t with
  | head _ =>
    intro p e
    cases e
    exact ⟨hw _ (by simp), hw _ (by simp)⟩
  | part t =>
    cases t with
    | pair => exact h
    | form => exact h
    | walk => exact h
  | fin =>
    intro p e
    cases e
def wf (w : List Str) : Bool := !w.isEmpty
def spReadC (K : PySem.W.Frag) : Sp := fun vs H Q _ => ∃ (T : Str) (Ls : List Str) (sE : RS), vs = [.str T] ∧ T.length + 2 ≤ sizeLine ∧ Txt.split T (S "\n") = Ls ∧ (∀ L ∈ Ls, L.length ≤ 20000) ∧ (∀ L ∈ Ls, ∀ x ∈ Txt.words L, Ok x) ∧
  Run s0 ((Ls.map Txt.words).filter wf) sE ∧ sE.names = none ∧ ∀ v H', Same H H' → Im K H' v (.tuple sE.rows) → Q v H'
theorem sc_read_claims : FnScope ["text", "reader", "lines", "number", "line"] ["text"] (defScope s_read_claims) := ⟨rfl, rfl, rfl, by decide +kernel, rfl, by decide +kernel, by decide +kernel⟩
theorem ok_read_claims {k : Nat} {Cl : Addr} (D : Def K mg "read_claims" "read_claims" s_read_claims ["text"]) (R : Rk K Cl) (B : Bi mg) (G : Gb K mg aH aR) (gC_ClaimReader : mg "ClaimReader" = some (.ref Cl))
    (i_ClaimReader : KCal P w K mg base CX0 k Cl ["self"] (spInit K Cl)) (m_ClaimReader_take : MCal P w K mg base CX0 (k + 1) Cl "take" ["self", "line"] (spTake K Cl)) : Cal P w K mg base CX0 (k + 2) "read_claims" ["text"] (spReadC K) := by
  refine D.cal fun f fd F => F.ok sc_read_claims (fun vs H Q E h => ?_) (fun cdv A outer s H vs Q E hr h => ?_)
  · obtain ⟨T, Ls, sE, rfl, _⟩ := h
    rfl
  · obtain ⟨T, Ls, sE, rfl, hT, hs, hl, hok, hrun, hnn, q⟩ := h
    have nd := sc_read_claims.nd
    have cl_ClaimReader := R.cl
    have big : (100000 : Nat) ≤ sizeLine := by decide
    refine ⟨_, (pss_cons (ps_set (i := 1) nd rfl (Or.inl rfl) (pe_kcal i_ClaimReader (Room.mono hr (by omega)) (by rfl) gC_ClaimReader))
      (pss_cons (ps_set (i := 2) nd rfl (Or.inl rfl) (pe_split (pv 0) pe_str))
      (pss_cons (ps_for PassesOwn.never rfl (pi_enum (by rfl) B.enumerate (pa_cons (pv 2) pa_nil)) (pg_tup rfl (pgs_cons (pg_name (i := 3) nd rfl (Or.inl rfl)) (pgs_cons (pg_name (i := 4) nd rfl (Or.inl rfl)) pgs_nil)))
        (pss_one (ps_if (PW.pt (pw_and (pt_truth (pe_words (pv 4)) (by intro _; rfl)) (pw_and1 (pt_not (pt_val (pe_mcal cl_ClaimReader m_ClaimReader_take (Room.mono hr (by omega)) (pv 1) (pa_cons (pv 4) pa_nil)))))))
          (pss_one ps_never)
          pss_nil)))
      (pss_cons (ps_if (pt_cmpR (op_neD hr.units) (pe_fld (pv 1) rfl) (pe_tup pa_nil) (nomark _))
        (pss_one ps_never)
        pss_nil)
      (pss_one (ps_ret (pe_callTy call_tuple_of (by rfl) B.tuple (by decide +kernel) (pa_cons (pe_fld (pv 1) rfl) pa_nil)))))))), ?_⟩
    intro x dx nx ndx nex
    have sx : Same H (upd (upd H dx (.own x)) x (.ins Cl dx [])) := fun b o e => by
      rw [upd_ne (ne_of_none e nx), upd_ne (ne_of_none e ndx)]
      exact e
    refine ⟨x, dx, H, rfl, upd_same, sx, nx, fun H1 R1 => ⟨rfl, ?_⟩⟩
    tm_at "go"
    refine fun lp nlp => ?_
    have R2 := R1.frame (o := .lst (Ls.map V.str)) nlp
    have hs2 : Txt.split T (Str.ofString "\n") = Ls := hs
    rw [hs2]
    have sb : Same H (upd H lp (.lst (Ls.map V.str))) := same_new (R1.same.free nlp)
    have hb : upd H lp (.lst (Ls.map V.str)) lp = some (.lst (Ls.map V.str)) := upd_same
    generalize upd H1 lp (.lst (Ls.map V.str)) = H2 at R2 ⊢
    generalize upd H lp (.lst (Ls.map V.str)) = Hb at R2 sb hb
    refine ⟨_, rfl, lp, Ls.map V.str, rfl, SqL.of (R2.same _ _ hb), ?_⟩
    refine for_it walk_enum (fun i σ H' => ∃ v3 v4 s, σ = [some (.str T), some (.ref x), some (.ref lp), v3, v4] ∧ RdAt K Cl x Hb H' s ∧ NOk s ∧ Run s (((Ls.drop i).map Txt.words).filter wf) sE)
      ⟨_, _, s0, rfl, R2, fun p e => (by cases e), hrun⟩ (fun i σ H' _ ⟨_, _, s, _, r, _⟩ => SqL.of (r.same _ _ hb)) ?_ ?_
    · rintro i v σ H3 H4 hi ⟨v3, v4, s, rfl, r3, hn3, run3⟩ ⟨t, y1, y2, rfl, nt, rfl, e1, e2⟩
      cases e1
      have hi2 : i < Ls.length := by
        rw [List.length_map] at hi
        exact hi
      have hL : Ls[i]? = some Ls[i] := List.getElem?_eq_getElem hi2
      have e3 : y2 = V.str Ls[i] := by
        have e2' : (Ls.map V.str)[i]? = some y2 := e2
        rw [List.getElem?_map, hL] at e2'
        cases e2'
        rfl
      subst e3
      have hmem := List.getElem_mem hi2
      rw [List.drop_eq_getElem_cons hi2, List.map_cons] at run3
      have lenL := hl _ hmem
      have okL := hok _ hmem
      generalize Ls[i] = L at run3 lenL okL ⊢
      have st : Same H3 (upd H3 t (.tup [.int ((i : Nat) : Int), .str L])) := same_new nt
      have r4 := r3.next st
      refine ⟨t, _, rfl, SqT.of upd_same, rfl, ?_⟩
      generalize upd H3 t (.tup [.int ((i : Nat) : Int), .str L]) = H4 at st r4 ⊢
      have lenS : L.length + 2 ≤ sizeLine := by omega
      tm_at "go"
      refine fun p np => ?_
      have sp : Same H4 (upd H4 p (.lst ((Txt.words L).map V.str))) := same_new np
      have r5 := r4.next sp
      refine ⟨!((Txt.words L).map V.str).isEmpty, .inl ⟨_, SqL.of upd_same, rfl⟩, ?_⟩
      generalize upd H4 p (.lst ((Txt.words L).map V.str)) = H5 at r5 ⊢
      by_cases hw : wf (Txt.words L) = true
      · rw [List.filter_cons_of_pos hw] at run3
        have he : (!((Txt.words L).map V.str).isEmpty) = true := by
          unfold wf at hw
          cases h : Txt.words L with
          | nil => rw [h] at hw; cases hw
          | cons _ _ => rfl
        rw [he]
        refine iteT ?_
        cases run3 with
        | cons t1 run4 =>
          rename_i s1
          obtain ⟨dx3, lf3, tn3, d3, vs3, ads3, I3⟩ := id r5
          refine ⟨_, rfl, x, dx3, _, rfl, I3.ins, lkno _ _ _ _ (by decide +kernel) (by decide +kernel) (by decide +kernel) (by decide +kernel), _, rfl, x, Hb, s, s1, L, rfl, r5, hn3, lenL, okL, t1, fun H6 r6 => ?_⟩
          refine ⟨_, rfl, ?_⟩
          refine iteF ?_
          exact ⟨_, _, s1, rfl, r6, stp_nok hn3 okL t1, run4⟩
      · rw [List.filter_cons_of_neg hw] at run3
        have he : (!((Txt.words L).map V.str).isEmpty) = false := by
          unfold wf at hw
          cases h : Txt.words L with
          | nil => rfl
          | cons _ _ => rw [h] at hw; exact absurd rfl hw
        rw [he]
        refine iteF ?_
        refine iteF ?_
        exact ⟨_, _, s, rfl, r5, hn3, run3⟩
    · rintro σ H3 ⟨v3, v4, s, rfl, r3, hn3, run3⟩
      have ed : Ls.drop (Ls.map V.str).length = [] := by
        rw [List.length_map]
        exact List.drop_length
      rw [ed] at run3
      cases run3
      obtain ⟨dx3, lf3, tn3, d3, vs3, ads3, I3⟩ := id r3
      refine ⟨_, rfl, x, Cl, dx3, _, _, rfl, I3.ins, R.cl, R.nN, lk2 _ _ _ _, ?_⟩
      tm_at "go"
      refine fun p np => ?_
      have sp : Same H3 (upd H3 p (.tup [])) := same_new np
      refine ⟨_, .tuple [], .tup (sp.tk.tup I3.nms) (nm_ims _).dp, .tup (SqT.of upd_same) .nil, nm_shaped hn3, rfl, ?_⟩
      rw [nm_eqv, decide_eq_true hnn]
      refine ⟨_, rfl, ?_⟩
      refine iteF ?_
      have I4 := I3.next sp
      have r4 := r3.next sp
      generalize upd H3 p (.tup []) = H4 at I4 r4 ⊢
      refine ⟨_, rfl, x, Cl, dx3, _, _, rfl, I4.ins, R.cl, R.nF, lk1 _ _ _ _, ?_⟩
      refine ⟨lf3, vs3, rfl, .inl ⟨SqL.of I4.lst, fun l nl => ?_⟩⟩
      have sl : Same H4 (upd H4 l (.tup vs3)) := same_new nl
      exact q _ _ ((sb.trans r4.same).trans sl) (.tup (SqT.of upd_same) (sl.tk.ims I4.rows))
end
end C
set_option Elab.async false
set_option linter.all false
set_option pp.maxSteps 1500
set_option maxRecDepth 100000
set_option maxHeartbeats 4000000
namespace C
open PySem PySem.Spec PyProof.Rows L2 Kx M TL
local macro_rules | `(tactic| tm_at "same") => `(tactic| first
  | assumption
  | exact L2.Same.refl _
  | exact L2.Same.upd (by tm_at "same") (by tm_at "free")
  | exact sameTransR (by assumption) (by tm_at "same"))
local macro_rules | `(tactic| tm_at "free") => `(tactic| first
  | assumption
  | exact sameFreeR (by assumption) (by tm_at "same"))
local macro_rules | `(tactic| tm_at "but") => `(tactic| first
  | assumption
  | exact But.refl _ _
  | exact But.transR (by assumption) (by tm_at "but")
  | exact But.upd
  | exact But.self (by tm_at "but")
  | exact But.new1 (by tm_at "but") (by assumption)
  | exact But.new (by tm_at "but") (by tm_at "free")
  | exact L2.Same.but (by assumption) _)
local macro_rules | `(tactic| tm_at "fact") => `(tactic| first
  | exact upd_same
  | assumption
  | exact SqL.of upd_same
  | exact SqT.of upd_same
  | exact SqL.of (by assumption)
  | exact SqT.of (by assumption)
  | exact But.lstR (by assumption) (by assumption) (by tm_at "but"))
local macro_rules | `(tactic| tm_at "cond") => `(tactic| first
  | rfl
  | assumption
  | decide
  | omega
  | exact ⟨by decide, by decide⟩
  | exact .inr ⟨by decide, by decide⟩
  | exact .inl ⟨by decide, by decide⟩
  | exact ⟨by decide, by decide, by decide⟩
  | exact cdivw (by assumption) (by assumption)
  | exact log2_ok (by assumption)
  | exact Or.inl ⟨rfl, _, SqL.of upd_same⟩
  | exact Or.inl ⟨rfl, _, SqL.of (by assumption)⟩
  | exact ⟨_, rfl⟩
  | exact Nat.le_of_ble_eq_true rfl
  | exact small1000 (by omega))
local macro_rules | `(tactic| tm_at "prop") => `(tactic| first
  | assumption
  | omega)
local macro_rules | `(tactic| tm_at "s") => `(tactic| first
  | refine ⟨_, rfl, ?_⟩
  | refine ⟨_, _, rfl, rfl, ?_⟩
  | refine ⟨_, _, _, rfl, rfl, (by tm_at "fact"), (by tm_at "cond"), ?_⟩
  | refine ⟨_, _, _, _, rfl, rfl, (by tm_at "fact"), rfl, ?_⟩
  | refine ⟨_, _, rfl, (by tm_at "fact"), ?_⟩
  | refine And.intro (by tm_at "cond") ?_
  | refine .inl ⟨_, rfl, ?_⟩
  | refine ⟨_, _, rfl, .inl (by tm_at "fact"), ?_⟩
  | refine dec_false (by tm_at "prop") ?_
  | refine dec_true (by tm_at "prop") ?_
  | refine decN_false (by tm_at "prop") ?_
  | refine decN_true (by tm_at "prop") ?_
  | refine iteT ?_
  | refine iteF ?_
  | refine ⟨_, _, rfl, ?_⟩)
local macro_rules | `(tactic| tm_at "go") => `(tactic| repeat tm_at "s")

section
variable {P : Program} {w : World} {K : PySem.W.Frag} {mg : Str → Option Value} {base : Heap} {aH aR : Addr}
/-! ### the rows' lines are read as the rows -/
theorem run_forms {hd : Str} {j : Nat} (hj : j = 0 ∧ hd = S "given" ∨ j = 2 ∧ hd = S "ask" ∨ j = 4 ∧ hd = S "hint") : ∀ (fs : List Form) (rows : List PyData) (nm : Str × Str) (cont : List (List PyData)) (st : Int) (ds : List PyData),
    st ≤ (j : Int) → cont[j]? = some ds → ds.length + fs.length ≤ 100 → (∀ f ∈ fs, FOk f) → ∃ st', st' ≤ (j : Int) ∧ Run ⟨rows, some nm, cont, st⟩ (fs.map (fW hd)) ⟨rows, some nm, cont.set j (ds ++ fs.map fD), st'⟩
  | [], rows, nm, cont, st, ds, h1, h2, _, _ => by
    refine ⟨st, h1, ?_⟩
    rw [List.map_nil, List.map_nil, List.append_nil]
    have e : cont.set j ds = cont := by
      obtain ⟨hlt, e⟩ := List.getElem?_eq_some_iff.mp h2
      rw [← e]
      exact List.set_getElem_self hlt
    rw [e]
    exact .nil
  | f :: fs, rows, nm, cont, st, ds, h1, h2, h3, h4 => by
    have hl : f.1 = f.1 := rfl
    rw [List.length_cons] at h3
    have hlt : j < cont.length := (List.getElem?_eq_some_iff.mp h2).1
    obtain ⟨st', k1, k2⟩ := run_forms hj fs rows nm (cont.set j (ds ++ [fD f])) (j : Int) (ds ++ [fD f]) (Int.le_refl _) (by rw [List.getElem?_set_self hlt]) (by rw [List.length_append, List.length_singleton]; omega) fun g hg => h4 g (List.mem_cons_of_mem _ hg)
    refine ⟨st', k1, ?_⟩
    rw [List.set_set, List.append_assoc] at k2
    exact .cons (.part (.form (s := ⟨rows, some nm, cont, st⟩) (fun z => nomatch z) hj h1 h2 (by omega) (h4 f (List.mem_cons_self ..)))) k2
theorem run_pairs {hd : Str} {j : Nat} (hj : j = 1 ∧ hd = S "same" ∨ j = 3 ∧ hd = S "keep") : ∀ (ps : List (Str × Str)) (rows : List PyData) (nm : Str × Str) (cont : List (List PyData)) (st : Int) (qs : List (Str × Str)),
    st ≤ (j : Int) → cont[j]? = some (qs.map qD) → qs.length + ps.length ≤ 100 → (qs ++ ps).Nodup → (∀ p ∈ qs ++ ps, Ok p.1 ∧ Ok p.2) → ∃ st', st' ≤ (j : Int) ∧ Run ⟨rows, some nm, cont, st⟩ (ps.map (pW hd)) ⟨rows, some nm, cont.set j ((qs ++ ps).map qD), st'⟩
  | [], rows, nm, cont, st, qs, h1, h2, _, _, _ => by
    refine ⟨st, h1, ?_⟩
    rw [List.map_nil, List.append_nil]
    have e : cont.set j (qs.map qD) = cont := by
      obtain ⟨hlt, e⟩ := List.getElem?_eq_some_iff.mp h2
      rw [← e]
      exact List.set_getElem_self hlt
    rw [e]
    exact .nil
  | p :: ps, rows, nm, cont, st, qs, h1, h2, h3, h4, h5 => by
    rw [List.length_cons] at h3
    have hlt : j < cont.length := (List.getElem?_eq_some_iff.mp h2).1
    have ea : (qs ++ [p]) ++ ps = qs ++ p :: ps := by rw [List.append_assoc]; rfl
    have em : qs.map qD ++ [qD p] = (qs ++ [p]).map qD := by rw [List.map_append]; rfl
    have hni : p ∉ qs := by
      intro z
      have := (List.nodup_append.mp h4).2.2 p z p (List.mem_cons_self ..)
      exact this rfl
    obtain ⟨st', k1, k2⟩ := run_pairs hj ps rows nm (cont.set j (qs.map qD ++ [qD p])) (j : Int) (qs ++ [p]) (Int.le_refl _) (by rw [List.getElem?_set_self hlt, em]) (by rw [List.length_append, List.length_singleton]; omega) (by rw [ea]; exact h4) (by rw [ea]; exact h5)
    refine ⟨st', k1, ?_⟩
    rw [List.set_set, ea] at k2
    exact .cons (.part (.pair (s := ⟨rows, some nm, cont, st⟩) (x := p.1) (y := p.2) (fun z => nomatch z) hj h1 h2 (by omega) hni (h5 p (List.mem_append_right _ (List.mem_cons_self ..))) fun r hr => h5 r (List.mem_append_left _ hr))) k2
theorem run_row {r : M.Row} (h : r.Ok) (rows : List PyData) (cont : List (List PyData)) (st : Int) (hr : rows.length ≤ 100) : ∃ cont' st', Run ⟨rows, none, cont, st⟩ (rowW r) ⟨rows ++ [rD r], none, cont', st'⟩ := by
  have okp : ∀ {ps : List (Str × Str)}, (∀ p ∈ ps, Wd p.1 ∧ Wd p.2) → ∀ p ∈ [] ++ ps, Ok p.1 ∧ Ok p.2 := fun h p hp => ⟨(h p (by simpa using hp)).1.ok, (h p (by simpa using hp)).2.ok⟩
  have l1 := h.gl; have l2 := h.sl; have l3 := h.al; have l4 := h.kl; have l5 := h.hl
  obtain ⟨t0, g0, r0⟩ := run_forms (j := 0) (.inl ⟨rfl, rfl⟩) r.gs rows (r.a, r.b) [[], [], [], [], [], []] 0 [] (Int.le_refl _) rfl (by rw [List.length_nil]; omega) h.g
  obtain ⟨t1, g1, r1⟩ := run_pairs (j := 1) (.inl ⟨rfl, rfl⟩) r.ss rows (r.a, r.b) [r.gs.map fD, [], [], [], [], []] t0 [] (by omega) rfl (by rw [List.length_nil]; omega) h.sn (okp h.s)
  obtain ⟨t2, g2, r2⟩ := run_forms (j := 2) (.inr (.inl ⟨rfl, rfl⟩)) r.as rows (r.a, r.b) [r.gs.map fD, r.ss.map qD, [], [], [], []] t1 [] (by omega) rfl (by rw [List.length_nil]; omega) h.a'
  obtain ⟨t3, g3, r3⟩ := run_pairs (j := 3) (.inr ⟨rfl, rfl⟩) r.ks rows (r.a, r.b) [r.gs.map fD, r.ss.map qD, r.as.map fD, [], [], []] t2 [] (by omega) rfl (by rw [List.length_nil]; omega) h.kn (okp h.k)
  obtain ⟨t4, g4, r4⟩ := run_forms (j := 4) (.inr (.inr ⟨rfl, rfl⟩)) r.hs rows (r.a, r.b) [r.gs.map fD, r.ss.map qD, r.as.map fD, r.ks.map qD, [], []] t3 [] (by omega) rfl (by rw [List.length_nil]; omega) h.h
  have hcl : ∀ (c5 : List PyData), c5.length ≤ 1 → ∀ c ∈ [r.gs.map fD, r.ss.map qD, r.as.map fD, r.ks.map qD, r.hs.map fD, c5], c.length ≤ 100 := by
    intro c5 h5 c hc
    simp only [List.mem_cons, List.not_mem_nil, or_false] at hc
    rcases hc with rfl | rfl | rfl | rfl | rfl | rfl <;> first | (rw [List.length_map]; omega) | omega
  have hru := h.ru
  have rE := (((((Run.one (Stp.head (s := ⟨rows, none, cont, st⟩) (a := r.a) (b := r.b) rfl)).append r0).append r1).append r2).append r3).append r4
  unfold rowW
  by_cases ha : r.rule = S "any"
  · rw [if_pos ha, List.append_nil]
    exact ⟨_, _, rE.append (.one (.fin (s := ⟨rows, some (r.a, r.b), [r.gs.map fD, r.ss.map qD, r.as.map fD, r.ks.map qD, r.hs.map fD, []], t4⟩) rfl rfl (.inl ⟨rfl, ha⟩) (hcl [] (by decide)) hr))⟩
  · rw [if_neg ha]
    have h7 : r.rule ∈ rules7 := by
      rcases List.mem_append.mp hru with z | z
      · exact z
      · refine absurd ?_ ha
        simp only [List.mem_cons, List.not_mem_nil, or_false] at z
        rcases z with z | z | z <;> exact z
    have rW := rE.append (.one (.part (.walk (s := ⟨rows, some (r.a, r.b), [r.gs.map fD, r.ss.map qD, r.as.map fD, r.ks.map qD, r.hs.map fD, []], t4⟩) (fun z => nomatch z) (Int.le_trans g4 (by decide)) rfl h7)))
    exact ⟨_, _, rW.append (.one (.fin (s := ⟨rows, some (r.a, r.b), [r.gs.map fD, r.ss.map qD, r.as.map fD, r.ks.map qD, r.hs.map fD, [.str r.rule]], 5⟩) rfl rfl (.inr rfl) (hcl [.str r.rule] (Nat.le_refl 1)) hr))⟩
theorem run_rows : ∀ (rs : List M.Row) (rows : List PyData) (cont : List (List PyData)) (st : Int), rows.length + rs.length ≤ 100 → (∀ r ∈ rs, r.Ok) → ∃ cont' st', Run ⟨rows, none, cont, st⟩ (rs.flatMap rowW) ⟨rows ++ rs.map rD, none, cont', st'⟩
  | [], rows, cont, st, _, _ => ⟨cont, st, by rw [List.map_nil, List.append_nil]; exact .nil⟩
  | r :: rs, rows, cont, st, h, ho => by
    rw [List.length_cons] at h
    obtain ⟨c1, t1, k1⟩ := run_row (ho r (List.mem_cons_self ..)) rows cont st (by omega)
    obtain ⟨c2, t2, k2⟩ := run_rows rs (rows ++ [rD r]) c1 t1 (by rw [List.length_append, List.length_singleton]; omega) fun z hz => ho z (List.mem_cons_of_mem _ hz)
    refine ⟨c2, t2, ?_⟩
    rw [List.append_assoc] at k2
    exact k1.append k2
/-! ### all words of the lines -/
def okW (x : Str) : Bool := (!(tl x).isEmpty) && (tl x).all (fun c => !Unicode.isSpace c && decide (c ≤ 126)) && decide (x.length ≤ 162)
theorem okW_of {x : Str} (h : okW x = true) : Clean x ∧ x.length ≤ 162 ∧ Ok x := by
  unfold okW at h
  rw [Bool.and_eq_true, Bool.and_eq_true] at h
  obtain ⟨⟨h1, h2⟩, h3⟩ := h
  have h2' := List.all_eq_true.mp h2
  refine ⟨⟨fun e => ?_, fun c hc => ?_⟩, of_decide_eq_true h3, .of fun c hc => ?_⟩
  · rw [e] at h1
    cases h1
  · have := h2' c hc
    rw [Bool.and_eq_true] at this
    have := this.1
    cases e : Unicode.isSpace c with
    | false => rfl
    | true => rw [e] at this; cases this
  · have := h2' c hc
    rw [Bool.and_eq_true] at this
    exact of_decide_eq_true this.2
theorem small_all : ∀ c ∈ 42 :: 43 :: 45 :: (nh ++ dg), c ≤ 126 := by decide +kernel
theorem tm_ok {p : Str × Int} (h : POk p) : ∀ c ∈ tl (tm p.1 p.2.natAbs), c ≤ 126 := fun c hc => small_all c (by
  rcases tm_mem h c hc with q | q | q
  · simp [q]
  · simp [q]
  · simp [q])
theorem pm_ok (n : Int) : Ok (pm n) := by
  unfold pm
  split <;> exact (okW_of (by decide +kernel)).2.2
theorem sgtm_ok {p : Str × Int} (h : POk p) : Ok (M.sg p.2 ++ tm p.1 p.2.natAbs) := .of fun c hc => by
  rw [tl_append] at hc
  rcases List.mem_append.mp hc with q | q
  · unfold M.sg at q
    split at q
    · rw [tl_minus, List.mem_singleton] at q
      omega
    · cases q
  · exact tm_ok h c q
theorem wdl_ok : ∀ {l : List (Str × Int)}, (∀ p ∈ l, POk p) → ∀ w ∈ wdl l, Ok w
  | [], _, _, hw => by cases hw
  | p :: r, h, w, hw => by
    have hp := h p (List.mem_cons_self ..)
    rcases List.mem_cons.mp hw with e | e
    · subst e
      exact pm_ok _
    · rcases List.mem_cons.mp e with e | e
      · subst e
        exact .of (tm_ok hp)
      · exact wdl_ok (fun q hq => h q (List.mem_cons_of_mem _ hq)) w e
theorem wd_ok {f : Form} (h : FOk f) : ∀ x ∈ wd f, Ok x := by
  have hp := terms_ok h
  unfold wd
  generalize terms f = l at hp
  cases l with
  | nil =>
    intro x hx
    cases hx
  | cons p r =>
    intro x hx
    rcases List.mem_cons.mp hx with e | e
    · subst e
      exact sgtm_ok (hp p (List.mem_cons_self ..))
    · exact wdl_ok (fun q hq => hp q (List.mem_cons_of_mem _ hq)) x e
theorem wd_small {z : Str} (h : Wd z) : Clean z ∧ z.length ≤ 162 := by
  refine ⟨⟨h.1, fun c hc => ?_⟩, by have := h.2.1; omega⟩
  obtain ⟨h1, h2⟩ := h.2.2 c hc
  have hh : ∀ n : Nat, n < 127 → 33 ≤ n → Unicode.isSpace n = false := by decide +kernel
  exact hh c (by omega) h1
/-- words that can be laid, without blanks -/
structure Wk (ws : List Str) : Prop where
  ok : WOk ws
  lay : ∀ x ∈ ws, Ok x
  ne : ws ≠ []
theorem wk_form {hd : Str} (h1 : Clean hd ∧ hd.length ≤ 162 ∧ Ok hd) {f : Form} (hf : FOk f) : Wk (fW hd f) := by
  refine ⟨⟨fun x hx => ?_, ?_⟩, fun x hx => ?_, List.cons_ne_nil _ _⟩
  · rcases List.mem_cons.mp hx with e | e
    · rw [e]; exact ⟨h1.1, h1.2.1⟩
    · exact ⟨wd_clean hf x e, wd_lens hf x e⟩
  · have := wd_count hf
    show (wd f).length + 1 ≤ 102
    omega
  · rcases List.mem_cons.mp hx with e | e
    · rw [e]; exact h1.2.2
    · exact wd_ok hf x e
theorem wk_pair {hd : Str} (h1 : Clean hd ∧ hd.length ≤ 162 ∧ Ok hd) {p : Str × Str} (hp : Wd p.1 ∧ Wd p.2) : Wk (pW hd p) := by
  refine ⟨⟨fun x hx => ?_, Nat.le_of_ble_eq_true rfl⟩, fun x hx => ?_, List.cons_ne_nil _ _⟩
  all_goals
    simp only [pW, List.mem_cons, List.not_mem_nil, or_false] at hx
    rcases hx with rfl | rfl | rfl
  · exact ⟨h1.1, h1.2.1⟩
  · exact wd_small hp.1
  · exact wd_small hp.2
  · exact h1.2.2
  · exact hp.1.ok
  · exact hp.2.ok
theorem wk_rule {r : Str} (h : r ∈ rules7) : Wk (S "walk" :: Txt.split r (S " ")) := by
  have hh : ∀ z ∈ rules7, (Txt.split z (S " ")).length ≤ 5 ∧ ∀ x ∈ S "walk" :: Txt.split z (S " "), okW x = true := by decide +kernel
  obtain ⟨h1, h2⟩ := hh r h
  refine ⟨⟨fun x hx => ⟨(okW_of (h2 x hx)).1, (okW_of (h2 x hx)).2.1⟩, ?_⟩, fun x hx => (okW_of (h2 x hx)).2.2, List.cons_ne_nil _ _⟩
  rw [List.length_cons]
  omega
theorem wk_row {r : M.Row} (h : r.Ok) : ∀ ws ∈ rowW r, Wk ws := by
  intro ws hw
  unfold rowW at hw
  simp only [List.mem_append, List.mem_map, List.mem_singleton] at hw
  rcases hw with ((((((rfl | ⟨f, hf, rfl⟩) | ⟨p, hp, rfl⟩) | ⟨f, hf, rfl⟩) | ⟨p, hp, rfl⟩) | ⟨f, hf, rfl⟩) | hw) | rfl
  · have h1 := okW_of (x := S "claim") (by decide +kernel)
    have h2 := okW_of (x := S "with") (by decide +kernel)
    refine ⟨⟨fun x hx => ?_, Nat.le_of_ble_eq_true rfl⟩, fun x hx => ?_, List.cons_ne_nil _ _⟩
    all_goals
      simp only [List.mem_cons, List.not_mem_nil, or_false] at hx
      rcases hx with rfl | rfl | rfl | rfl
    · exact ⟨h1.1, h1.2.1⟩
    · exact wd_small h.wa
    · exact ⟨h2.1, h2.2.1⟩
    · exact wd_small h.wb
    · exact h1.2.2
    · exact h.wa.ok
    · exact h2.2.2
    · exact h.wb.ok
  · exact wk_form (okW_of (by decide +kernel)) (h.g f hf)
  · exact wk_pair (okW_of (by decide +kernel)) (h.s p hp)
  · exact wk_form (okW_of (by decide +kernel)) (h.a' f hf)
  · exact wk_pair (okW_of (by decide +kernel)) (h.k p hp)
  · exact wk_form (okW_of (by decide +kernel)) (h.h f hf)
  · by_cases ha : r.rule = S "any"
    · rw [if_pos ha] at hw
      cases hw
    · rw [if_neg ha, List.mem_singleton] at hw
      subst hw
      refine wk_rule ?_
      rcases List.mem_append.mp h.ru with z | z
      · exact z
      · refine absurd ?_ ha
        simp only [List.mem_cons, List.not_mem_nil, or_false] at z
        rcases z with z | z | z <;> exact z
  · refine ⟨⟨fun x hx => ?_, Nat.le_of_ble_eq_true rfl⟩, fun x hx => ?_, List.cons_ne_nil _ _⟩
    all_goals
      rw [List.mem_singleton] at hx
      subst hx
    · have h1 := okW_of (x := S "end") (by decide +kernel)
      exact ⟨h1.1, h1.2.1⟩
    · exact (okW_of (x := S "end") (by decide +kernel)).2.2
theorem row_count {r : M.Row} (h : r.Ok) : (rowW r).length ≤ 15 := by
  have l1 := h.gl; have l2 := h.sl; have l3 := h.al; have l4 := h.kl; have l5 := h.hl
  unfold rowW
  simp only [List.length_append, List.length_map, List.length_singleton]
  have : (if r.rule = S "any" then ([] : List (List Str)) else [S "walk" :: Txt.split r.rule (S " ")]).length ≤ 1 := by
    split
    · exact Nat.zero_le _
    · exact Nat.le_refl _
  omega
end
end C
set_option Elab.async false
set_option linter.all false
set_option pp.maxSteps 1500
set_option maxRecDepth 100000
set_option maxHeartbeats 4000000
namespace C
open PySem PySem.Spec PyProof.Rows L2 Kx M TL
local macro_rules | `(tactic| tm_at "same") => `(tactic| first
  | assumption
  | exact L2.Same.refl _
  | exact L2.Same.upd (by tm_at "same") (by tm_at "free")
  | exact sameTransR (by assumption) (by tm_at "same"))
local macro_rules | `(tactic| tm_at "free") => `(tactic| first
  | assumption
  | exact sameFreeR (by assumption) (by tm_at "same"))
local macro_rules | `(tactic| tm_at "but") => `(tactic| first
  | assumption
  | exact But.refl _ _
  | exact But.transR (by assumption) (by tm_at "but")
  | exact But.upd
  | exact But.self (by tm_at "but")
  | exact But.new1 (by tm_at "but") (by assumption)
  | exact But.new (by tm_at "but") (by tm_at "free")
  | exact L2.Same.but (by assumption) _)
local macro_rules | `(tactic| tm_at "fact") => `(tactic| first
  | exact upd_same
  | assumption
  | exact SqL.of upd_same
  | exact SqT.of upd_same
  | exact SqL.of (by assumption)
  | exact SqT.of (by assumption)
  | exact But.lstR (by assumption) (by assumption) (by tm_at "but"))
local macro_rules | `(tactic| tm_at "cond") => `(tactic| first
  | rfl
  | assumption
  | decide
  | omega
  | exact ⟨by decide, by decide⟩
  | exact .inr ⟨by decide, by decide⟩
  | exact .inl ⟨by decide, by decide⟩
  | exact ⟨by decide, by decide, by decide⟩
  | exact cdivw (by assumption) (by assumption)
  | exact log2_ok (by assumption)
  | exact Or.inl ⟨rfl, _, SqL.of upd_same⟩
  | exact Or.inl ⟨rfl, _, SqL.of (by assumption)⟩
  | exact ⟨_, rfl⟩
  | exact Nat.le_of_ble_eq_true rfl
  | exact small1000 (by omega))
local macro_rules | `(tactic| tm_at "prop") => `(tactic| first
  | assumption
  | omega)
local macro_rules | `(tactic| tm_at "s") => `(tactic| first
  | refine ⟨_, rfl, ?_⟩
  | refine ⟨_, _, rfl, rfl, ?_⟩
  | refine ⟨_, _, _, rfl, rfl, (by tm_at "fact"), (by tm_at "cond"), ?_⟩
  | refine ⟨_, _, _, _, rfl, rfl, (by tm_at "fact"), rfl, ?_⟩
  | refine ⟨_, _, rfl, (by tm_at "fact"), ?_⟩
  | refine And.intro (by tm_at "cond") ?_
  | refine .inl ⟨_, rfl, ?_⟩
  | refine ⟨_, _, rfl, .inl (by tm_at "fact"), ?_⟩
  | refine dec_false (by tm_at "prop") ?_
  | refine dec_true (by tm_at "prop") ?_
  | refine decN_false (by tm_at "prop") ?_
  | refine decN_true (by tm_at "prop") ?_
  | refine iteT ?_
  | refine iteF ?_
  | refine ⟨_, _, rfl, ?_⟩)
local macro_rules | `(tactic| tm_at "go") => `(tactic| repeat tm_at "s")

section
variable {P : Program} {w : World} {K : PySem.W.Frag} {mg : Str → Option Value} {base : Heap} {aH aR : Addr}
/-! ### a text of lines -/
structure Rdb (T : Str) (W : List (List Str)) : Prop where
  ex : ∃ Ls, Txt.split T (S "\n") = Ls ∧ (∀ L ∈ Ls, L.length ≤ 20000) ∧ (Ls.map Txt.words).filter wf = W
  len : T.length + 2 ≤ sizeLine
theorem words_empty : Txt.words Str.empty = [] := map_tl_inj (by rw [words_tl]; rfl)
theorem tl_nl : tl (S "\n") = [10] := by decide +kernel
theorem _root_.M.Lay.len_join {ls : List Str} {W : List (List Str)} (h : Lay ls W) : (Txt.join (S "\n") ls).length ≤ ls.length * 20001 := by
  rw [join_eq]
  have h1 := join_len (S "\n") ls
  have h2 := sum_le h.len
  have e : (S "\n").length = 1 := by decide +kernel
  rw [e] at h1
  omega
theorem _root_.M.Lay.rdb {ls : List Str} {W : List (List Str)} (h : Lay ls W) (hn : ls ≠ []) (hl : ls.length ≤ 500) : Rdb (Txt.join (S "\n") ls) W := by
  refine ⟨⟨ls, split_join (s := 10) (S := []) tl_nl (by decide +kernel) hn h.nl, h.len, h.ws⟩, ?_⟩
  have h1 := h.len_join
  have h2 : ls.length * 20001 ≤ 500 * 20001 := Nat.mul_le_mul_right _ hl
  have : (10100000 : Nat) ≤ sizeLine := by decide
  omega
/-- no line is one line of nothing -/
theorem _root_.M.Lay.fill {ls : List Str} {W : List (List Str)} (h : Lay ls W) (hl : ls.length ≤ 400) : ∃ ms, Lay ms W ∧ ms ≠ [] ∧ ms.length ≤ 400 ∧ Txt.join (S "\n") ls = Txt.join (S "\n") ms := by
  cases ls with
  | nil =>
    refine ⟨[Str.empty], ?_, List.cons_ne_nil _ _, Nat.le_of_ble_eq_true rfl, rfl⟩
    have e : W = [] := h.ws.symm
    subst e
    exact Lay.blank words_empty (fun z => by cases z) (Nat.zero_le _)
  | cons x r => exact ⟨x :: r, h, List.cons_ne_nil _ _, hl, rfl⟩
theorem join_snoc (y x : Str) : ∀ {l : List Str}, l ≠ [] → Str.join y (l ++ [x]) = Str.join y l ++ y ++ x
  | [], h => absurd rfl h
  | [a], _ => rfl
  | a :: b :: r, _ => by
    have ih := join_snoc y x (l := b :: r) (List.cons_ne_nil _ _)
    show a ++ y ++ Str.join y ((b :: r) ++ [x]) = a ++ y ++ Str.join y (b :: r) ++ y ++ x
    rw [ih]
    simp only [app_assoc]
theorem join_cons (y x : Str) : ∀ {l : List Str}, l ≠ [] → Str.join y (x :: l) = x ++ y ++ Str.join y l
  | [], h => absurd rfl h
  | _ :: _, _ => rfl
theorem _root_.M.Lay.wrap {ls : List Str} {W : List (List Str)} (h : Lay ls W) (hn : ls ≠ []) (hl : ls.length ≤ 400) : Rdb (S "\n" ++ Txt.join (S "\n") ls ++ S "\n") W := by
  have b : Lay [Str.empty] [] := Lay.blank words_empty (fun z => by cases z) (Nat.zero_le _)
  have h2 : Lay ([Str.empty] ++ ls ++ [Str.empty]) ([] ++ W ++ []) := (b.append h).append b
  rw [List.nil_append, List.append_nil] at h2
  have h3 := h2.rdb (by simp) (by rw [List.length_append, List.length_append, List.length_singleton]; omega)
  have e : Txt.join (S "\n") ([Str.empty] ++ ls ++ [Str.empty]) = S "\n" ++ Txt.join (S "\n") ls ++ S "\n" := by
    rw [join_eq, join_eq]
    have e1 : [Str.empty] ++ ls ++ [Str.empty] = Str.empty :: (ls ++ [Str.empty]) := rfl
    rw [e1, join_cons _ _ (by simp), join_snoc _ _ hn, app_empty, empty_app]
    simp only [app_assoc]
  rw [e] at h3
  exact h3
/-- tight words -/
theorem wk_words {ws : List Str} (h : Wk ws) : Txt.words (Txt.join (S " ") ws) = ws := by
  refine map_tl_inj ?_
  rw [words_tl, join_eq, tl_join, tl_blank]
  have := wfold_join (ws.map tl) [] (fun e => h.ne (List.map_eq_nil_iff.mp e)) fun p hp => by
    obtain ⟨z, hz, rfl⟩ := List.mem_map.mp hp
    exact (h.ok.cl z hz).1
  rw [List.nil_append] at this
  exact this
theorem joinL_mem : ∀ (ps : List (List Nat)) (y : List Nat) (c : Nat), c ∈ joinL y ps → c ∈ y ∨ ∃ p ∈ ps, c ∈ p
  | [], _, _, h => by cases h
  | [p], _, _, h => .inr ⟨p, List.mem_singleton.mpr rfl, h⟩
  | p :: q :: r, y, c, h => by
    rcases List.mem_append.mp (show c ∈ p ++ (y ++ joinL y (q :: r)) from h) with z | z
    · exact .inr ⟨p, List.mem_cons_self .., z⟩
    · rcases List.mem_append.mp z with z | z
      · exact .inl z
      · rcases joinL_mem (q :: r) y c z with z | ⟨p', h1, h2⟩
        · exact .inl z
        · exact .inr ⟨p', List.mem_cons_of_mem _ h1, h2⟩
theorem wk_nl {ws : List Str} (h : Wk ws) : 10 ∉ tl (Txt.join (S " ") ws) := by
  intro hc
  rw [join_eq, tl_join, tl_blank] at hc
  rcases joinL_mem _ _ _ hc with z | ⟨p, h1, h2⟩
  · rw [List.mem_singleton] at z
    omega
  · obtain ⟨x, hx, rfl⟩ := List.mem_map.mp h1
    exact (h.ok.cl x hx).1.no sp10 h2
theorem wk_len {ws : List Str} (h : Wk ws) : (ws.map (·.length)).sum + ws.length * (S " ").length ≤ 17000 := by
  have h2 := sum_le (b := 162) fun x hx => (h.ok.cl x hx).2
  have h3 := h.ok.le
  have e : (S " ").length = 1 := by decide +kernel
  have h4 : ws.length * 162 ≤ 102 * 162 := Nat.mul_le_mul_right _ h3
  rw [e]
  omega
theorem wk_lay {ws : List Str} (h : Wk ws) : Lay [Txt.join (S " ") ws] [ws] := by
  refine Lay.one (wk_words h) (wk_nl h) ?_ h.ne
  rw [join_eq]
  have h1 := join_len (S " ") ws
  have h2 := wk_len h
  omega
theorem wk_lays : ∀ {W : List (List Str)}, (∀ ws ∈ W, Wk ws) → Lay (W.map (Txt.join (S " "))) W
  | [], _ => Lay.nil
  | ws :: W, h => by
    have h2 := (wk_lay (h ws (List.mem_cons_self ..))).append (wk_lays fun x hx => h x (List.mem_cons_of_mem _ hx))
    exact h2
theorem wk_rows {rs : List M.Row} (h : ∀ r ∈ rs, r.Ok) : ∀ ws ∈ rs.flatMap rowW, Wk ws := fun ws hw => by
  obtain ⟨r, h1, h2⟩ := List.mem_flatMap.mp hw
  exact wk_row (h r h1) ws h2
theorem rows_count : ∀ {rs : List M.Row}, (∀ r ∈ rs, r.Ok) → (rs.flatMap rowW).length ≤ 15 * rs.length
  | [], _ => Nat.zero_le _
  | r :: rs, h => by
    have h1 := row_count (h r (List.mem_cons_self ..))
    have h2 := rows_count (rs := rs) fun x hx => h x (List.mem_cons_of_mem _ hx)
    rw [List.flatMap_cons, List.length_append, List.length_cons]
    omega
/-! ### rows as data -/
theorem sok_all {ds : List PyData} (h : ∀ d ∈ ds, sok d = true) : soks ds = true := by
  induction ds with
  | nil => unfold soks; rfl
  | cons d r ih =>
    unfold soks
    rw [h d (List.mem_cons_self ..), ih fun x hx => h x (List.mem_cons_of_mem _ hx)]
    rfl
theorem few_all {ds : List PyData} (h : ∀ d ∈ ds, few d = true) : fews ds = true := by
  induction ds with
  | nil => unfold fews; rfl
  | cons d r ih =>
    unfold fews
    rw [h d (List.mem_cons_self ..), ih fun x hx => h x (List.mem_cons_of_mem _ hx)]
    rfl
theorem depth_all {n : Nat} {ds : List PyData} (h : ∀ d ∈ ds, d.depth ≤ n) : PyData.depthAll ds ≤ n := by
  induction ds with
  | nil => unfold PyData.depthAll; exact Nat.zero_le _
  | cons d r ih =>
    unfold PyData.depthAll
    exact Nat.max_le.mpr ⟨h d (List.mem_cons_self ..), ih fun x hx => h x (List.mem_cons_of_mem _ hx)⟩
/-- data of ints, texts and short tuples, of some depth at most -/
structure Nice (n : Nat) (d : PyData) : Prop where
  sok : sok d = true
  few : few d = true
  dep : d.depth ≤ n
theorem Nice.str (n : Nat) (x : Str) : Nice (n + 1) (.str x) := ⟨by unfold C.sok; rfl, by unfold C.few; rfl, by simp only [PyData.depth]; omega⟩
theorem Nice.int (n : Nat) (x : Int) : Nice (n + 1) (.int x) := ⟨by unfold C.sok; rfl, by unfold C.few; rfl, by simp only [PyData.depth]; omega⟩
theorem Nice.tup {n : Nat} {ds : List PyData} (h : ∀ d ∈ ds, Nice n d) (hl : ds.length < 1000) : Nice (n + 1) (.tuple ds) := by
  refine ⟨?_, ?_, ?_⟩
  · unfold C.sok
    exact sok_all fun d hd => (h d hd).sok
  · unfold C.few
    rw [decide_eq_true hl, few_all fun d hd => (h d hd).few]
    rfl
  · simp only [PyData.depth]
    have := depth_all fun d hd => (h d hd).dep
    omega
theorem nice_q (n : Nat) (p : Str × Str) : Nice (n + 2) (qD p) := .tup (by
  intro d hd
  simp only [List.mem_cons, List.not_mem_nil, or_false] at hd
  rcases hd with rfl | rfl <;> exact .str _ _) (Nat.le_of_ble_eq_true rfl)
theorem nice_f (n : Nat) {f : Form} (h : FOk f) : Nice (n + 4) (fD f) := .tup (by
  intro d hd
  simp only [List.mem_cons, List.not_mem_nil, or_false] at hd
  rcases hd with rfl | rfl
  · exact .int _ _
  · refine .tup (fun d hd => ?_) ?_
    · obtain ⟨p, _, rfl⟩ := List.mem_map.mp hd
      refine .tup (fun d hd => ?_) (Nat.le_of_ble_eq_true rfl)
      simp only [List.mem_cons, List.not_mem_nil, or_false] at hd
      rcases hd with rfl | rfl
      · exact .str _ _
      · exact .int _ _
    · have := h.len
      rw [List.length_map]
      omega) (Nat.le_of_ble_eq_true rfl)
theorem nice_row {r : M.Row} (h : r.Ok) : Nice 7 (rD r) := by
  have l1 := h.gl; have l2 := h.sl; have l3 := h.al; have l4 := h.kl; have l5 := h.hl
  have ff : ∀ {fs : List Form}, (∀ f ∈ fs, FOk f) → fs.length ≤ 2 → Nice 5 (.tuple (fs.map fD)) := fun h1 h2 => .tup (fun d hd => by
    obtain ⟨f, hf, rfl⟩ := List.mem_map.mp hd
    exact nice_f 0 (h1 f hf)) (by rw [List.length_map]; omega)
  have qq : ∀ {ps : List (Str × Str)}, ps.length ≤ 3 → Nice 5 (.tuple (ps.map qD)) := fun h2 => .tup (fun d hd => by
    obtain ⟨f, hf, rfl⟩ := List.mem_map.mp hd
    exact nice_q 2 f) (by rw [List.length_map]; omega)
  have up : ∀ {d : PyData}, Nice 5 d → Nice 6 d := fun h => ⟨h.sok, h.few, Nat.le_succ_of_le h.dep⟩
  refine .tup (fun d hd => ?_) (Nat.le_of_ble_eq_true rfl)
  simp only [List.mem_cons, List.not_mem_nil, or_false] at hd
  rcases hd with rfl | rfl | rfl
  · refine .tup (fun d hd => ?_) (Nat.le_of_ble_eq_true rfl)
    simp only [List.mem_cons, List.not_mem_nil, or_false] at hd
    rcases hd with rfl | rfl | rfl | rfl | rfl | rfl
    · exact .str _ _
    · exact .str _ _
    · exact ff h.g l1
    · exact qq l2
    · exact ff h.a' l3
    · exact qq l4
  · exact up (ff h.h l5)
  · exact .str _ _
theorem nice_rows {rs : List M.Row} (h : ∀ r ∈ rs, r.Ok) (hl : rs.length < 1000) : Nice 8 (.tuple (rs.map rD)) := .tup (fun d hd => by
  obtain ⟨r, hr, rfl⟩ := List.mem_map.mp hd
  exact nice_row (h r hr)) (by rw [List.length_map]; exact hl)
/-- what read_claims promises of such a text -/
theorem readC_of {K : PySem.W.Frag} {T : Str} {rs : List M.Row} {H : Hp} {Q : VK} {E : XK} (ho : ∀ r ∈ rs, r.Ok) (hl : rs.length ≤ 100) (h : Rdb T (rs.flatMap rowW)) (q : ∀ v H', Same H H' → Im K H' v (.tuple (rs.map rD)) → Q v H') : spReadC K [.str T] H Q E := by
  obtain ⟨Ls, h1, h2, h3⟩ := h.ex
  obtain ⟨c, t, hr⟩ := run_rows rs [] [] (-1) (by rw [List.length_nil]; omega) ho
  refine ⟨T, Ls, ⟨[] ++ rs.map rD, none, c, t⟩, rfl, h.len, h1, h2, fun L hL x hx => ?_, by rw [h3]; exact hr, rfl, q⟩
  have hm : Txt.words L ∈ (Ls.map Txt.words).filter wf := by
    refine List.mem_filter.mpr ⟨List.mem_map_of_mem hL, ?_⟩
    unfold wf
    cases e : Txt.words L with
    | nil => rw [e] at hx; cases hx
    | cons _ _ => rfl
  rw [h3] at hm
  exact (wk_rows ho _ hm).lay x hx
end
end C
set_option Elab.async false
set_option linter.all false
set_option pp.maxSteps 2500
set_option maxRecDepth 100000
set_option maxHeartbeats 4000000
/-! E0: an own error over another own error over ValueError, whose __init__ hands a text to super() and keeps one field. -/
namespace Own
open PySem PySem.W PySem.Calls PyProof.Rows PySem.HandSPX
/-- what stands of the class at C and its __init__ at fI -/
structure Facts (prog : Program) (K : Frag) (C fI cc cda : Addr) (fld : Str) (params : Arguments) (body : List Stmt) (scope : Scope) (qual : Str) : Prop where
  cls : ∃ nm q N bs bm sn sub ab col dd k0 k1 k2 k3 k5, K.lookup C = some (excClassObj nm q C N bs bm true sn sub ab col dd k0 k1 k2 k3 k5 "ValueError.__new__") ∧ refsVE bm = true
  sa : findIn K (.ref C) "__setattr__" = some (some (.builtin "object.__setattr__"))
  no : findIn K (.ref C) fld = some none
  iC : findIn K (.ref C) "__init__" = some (some (.ref fI))
  tC : typeIn K (.ref fI) = some (.type "function")
  up : ks_superIn K C C "__init__" = some (some (.builtin "ValueError.__init__"))
  isV : subIn K (.ref C) (.type "ValueError") = some true
  isC : mroIn K C (.ref C) = some true
  fn : ∃ (oc : Value) (od : Option Addr) (doc pm ct : Value) (an : Option Addr) (osl : Array (Option Value)), K.lookup fI = some ⟨oc, od, .func (fnX "__init__" qual params body scope [("__class__", cc)] .none .none doc pm an (.ref cda) ct), osl⟩
  cd : codeIn K (.ref cda) qual = true
  code : ∃ (ccl : Value) (cdd : Option Addr) (vs : Array Value) (ccs : Array (Option Value)) (file : Str) (tf : Tok), K.lookup cda = some ⟨ccl, cdd, .fields vs, ccs⟩ ∧ vs[2]? = some (.str file tf) ∧ ((prog.main.file : Str) == file) = true
  cell : ∃ (cl : Value) (cld : Option Addr) (csl : Array (Option Value)), K.lookup cc = some ⟨cl, cld, .cell (some (.ref C)), csl⟩
  kC : keepIn K (.ref C) = true
  exC : subIn K (.ref C) (.type "BaseException") = some true
  tyC : typeIn K (.ref C) = some (.type "type")
  any : nsIn K cStatics "thirdparty.any" = some none
  top : (prog.main.scope.names.lookup ("super" : Str)).isSome = false
structure End (h h' : Heap) (x C dx t1 : Addr) (fld : Str) (v : Value) : Prop where
  keep : ∀ b o, b ≠ x → h.get? b = some o → h'.get? b = some o
  obj : h'.get? x = some { cls := .ref C, dict := some dx, data := .fields #[.ref t1, .none, .none, .none, .bool false, .none] }
  dbig : h.objs.size ≤ dx
  dne : dx ≠ x
  ns : h'.Ns1 dx (fun y => if y = fld then some v else none)
section
variable {prog : Program} {w : World} {A : Around} {E : Value → Shared → Prop} {R : Result → Shared → Prop} {s : Shared} {K : Frag} {mg : Str → Option Value} {C fI cc cda : Addr}
abbrev pB : Arguments := L2.defArgs _root_.C.s_BadLine___init__
abbrev bB : List Stmt := L2.defBody _root_.C.s_BadLine___init__
abbrev sB : Scope := L2.defScope _root_.C.s_BadLine___init__
abbrev envB (L f cda cc : Addr) : Env := ksEnv "BadLine.__init__" sB L f (.ref cda) cc
theorem line_run (T : Facts prog K C fI cc cda "line" pB bB sB "BadLine.__init__") {x t0 : Addr} {n : Int} (hln : (Str.ofString (toString n)).length ≤ 1000) {tk0 : Tok} (X : K.In s.heap) (hg : s.heap.Ns mainGlobals mg) (hbl : ∃ mb, s.heap.Ns builtinsNs mb ∧ ∀ x : Str, x ≠ "__name__" → mb x = bootBuiltins x)
    (hms : mg "super" = none) (hst : mg "str" = none) (hn : n.natAbs.log2 < 1920) (hlim : s.heap.NoLimit) (hx : s.heap.get? x = some (excO C t0)) (hnx : K.lookup x = none) (hroom : A.depth < recursionLimit)
    (hq : ∀ h' tk dx t1, End s.heap h' x C dx t1 "line" (.int n tk0) → R (.ok (.ret .none)) { s with heap := h', toks := tk }) :
    codeAny (model prog w) A (.call (.ref fI) ⟨[.ref x, .int n tk0], []⟩) R s := by
  obtain ⟨oc, od, doc, pm, ct, an, osl, ho⟩ := T.fn
  obtain ⟨hh, g, d, t, os⟩ := s
  refine ks_codeAny_call_defAt (fd := fnX "__init__" "BadLine.__init__" pB bB sB [("__class__", cc)] .none .none doc pm an (.ref cda) ct) (body := bB) (binds := [(("self" : Str), .ref x), (("line" : Str), .int n tk0)]) hroom (X _ _ ho) rfl hlim (codeRec_of X T.cd) rfl (BindsTo.of_eq (by first | rfl | with_unfolding_all rfl)) (show ∀ y ∈ sB.names, y.2 ≠ .cell by decide +kernel) (fun y hy => ?_) (fun h1 hns hk => ?_) rfl rfl rfl
  · show sB.names.lookup y.1 = some .local
    simp only [List.mem_cons, List.not_mem_nil, or_false] at hy
    rcases hy with rfl | rfl
    · exact (by decide +kernel : sB.names.lookup ("self" : Str) = some .local)
    · exact (by decide +kernel : sB.names.lookup ("line" : Str) = some .local)
  show _root_.PySem.wpAt (model prog w) _ (.func bB (envB hh.objs.size fI cda cc)) (execs bB (envB hh.objs.size fI cda cc)) _ _ _
  generalize hcode : Code.func bB (envB hh.objs.size fI cda cc) = CODE
  refine ks_wpAt_execs_cons (ks_wpAt_Expr_any (ks_wpAt_MethodCall ?_))
  subst hcode
  have X1 : K.In h1 := X.keeps hk
  have hx1 := hk _ _ hx
  obtain ⟨nm, q, N, bs, bm, sn, sub, ab, col, dd, k0, k1, k2, k3, k5, hC, hbm⟩ := T.cls
  obtain ⟨ccl, cdd, vs, ccs, file, tf, hcode, hvs, hfile⟩ := T.code
  obtain ⟨cl, cld, csl, hcl⟩ := T.cell
  obtain ⟨mb, hb1, hb2⟩ := hbl
  refine ks_wpAt_super_base (env := envB hh.objs.size fI cda cc) (show sB.names.lookup ("super" : Str) = some .globalImplicit by decide +kernel) (show sB.names.lookup ("__class__" : Str) = some .free by decide +kernel) (by decide) rfl (X1 _ _ ho) rfl rfl rfl (X1 _ _ hcode) rfl hvs hfile T.top ?_
  have kS : sB.names.lookup ("super" : Str) = some .globalImplicit := by decide +kernel
  have kC : sB.names.lookup ("__class__" : Str) = some .free := by decide +kernel
  have kI : sB.names.lookup ("self" : Str) = some .local := by decide +kernel
  have kL : sB.names.lookup ("line" : Str) = some .local := by decide +kernel
  refine ks_loadName_global rfl kS (loadGlobal_builtin (env := envB hh.objs.size fI cda cc) (hg.keeps hk) hms (hb1.keeps hk) ((hb2 _ (by decide)).trans (by first | boot_by_name | rfl | kernel_rfl)) ⟨rfl, ?_⟩)
  refine wpAny_loadName_free rfl kC rfl ⟨_, X1 _ _ hcl, rfl⟩ ?_
  refine wpAny_loadName_local rfl kI hns rfl ?_
  have hD := X1 _ _ hC
  refine ks_wpAny_isType_cls hD rfl ⟨rfl, ?_⟩
  refine ks_wpAny_call_super hD rfl hx1 rfl (fun c e => by cases e) (looks_mroIn X1 T.isC) (fun h2 e2 k2 => ?_)
  have X2 : K.In h2 := X1.keeps k2
  have hx2 := k2 _ _ hx1
  have I2 : InstAt h2 x (excO C t0) C none := ⟨hx2, rfl, rfl, trivial⟩
  have hI : Looks (model prog w) h2 (isInstance (.ref x) (.type "ValueError")) true := I2.type.andThen (looks_subIn X2 T.isV)
  have hup := T.up
  unfold ks_superIn at hup
  cases hc : clsIn K C with
  | none =>
    rw [hc] at hup
    cases hup
  | some cd =>
    rw [hc] at hup
    refine kxs_getMethod kxs_ValueError e2 (looks_opaque X2 T.any) (l₀ := cd.mro) (fun A Q E s k q => wpAny_bind ((looks_clsIn X2 hc) A _ E s k (wpAny_pure q))) rfl X2 hup hI (ks_ne X2 I2 hc) (by decide) ?_
    have k3 : ∀ b o, h2.get? b = some o → (h2.push (kxs_mw "ValueError.__init__" x)).get? b = some o := fun b o e => Heap.get?_push_of_some _ e
    have eu : (h2.push (kxs_mw "ValueError.__init__" x)).get? h2.objs.size = some (kxs_mw "ValueError.__init__" x) := Heap.get?_push_at rfl rfl
    have kk : ∀ b o, hh.get? b = some o → (h2.push (kxs_mw "ValueError.__init__" x)).get? b = some o := fun b o e => k3 _ _ (k2 _ _ (hk _ _ e))
    have kl : ∀ b o, h1.get? b = some o → (h2.push (kxs_mw "ValueError.__init__" x)).get? b = some o := fun b o e => k3 _ _ (k2 _ _ e)
    have ns3 := hns.keeps kl
    generalize h2.push (kxs_mw "ValueError.__init__" x) = h3 at k3 eu kk kl ns3 ⊢
    have X3 := X.keeps kk
    refine kxs_callWith (i := "ValueError.__init__") (x := x) rfl (evalArgs_plain (spliced_cons (wpAny_BinOp (wpAny_BinOp (Constant_str ?_)))))
    have kT : sB.names.lookup ("str" : Str) = some .globalImplicit := by decide +kernel
    refine wpAny_Call_Name_kw (Name_function_global rfl kT (loadGlobal_builtin (env := envB hh.objs.size fI cda cc) (hg.keeps kk) hst (hb1.keeps kk) ((hb2 _ (by decide)).trans (by first | boot_by_name | rfl | kernel_rfl)) ?_))
    refine PyProof.Rows.callWith_type1 (spliced_cons (wpAny_Name (wpAny_loadName_local rfl kL ns3 rfl (spliced_nil ?_)) (by decide))) rfl rfl
    refine PySem.P.str_of_int hn ?_
    have c1 : ("line " : Str).length = 5 := by decide +kernel
    have c2 : (" cannot stand here" : Str).length = 18 := by decide +kernel
    have c3 := hln
    have c4 : (100000 : Nat) ≤ sizeLine := by decide
    refine PyProof.Rows.add_str (fun t' tk => ?_) (by omega)
    refine Constant_str ?_
    refine PyProof.Rows.add_str (fun t' tk => ?_) ?_
    · refine spliced_nil ⟨eu, ?_⟩
      generalize ("line " : Str) ++ Str.ofString (toString n) ++ (" cannot stand here" : Str) = MSG
      refine wpAny_call (codeAny_of_tree ?_)
      show wpAny _ _ (callAny (.ref h2.objs.size) ⟨[.str MSG t'], []⟩) _ _ _
      simp only [callAny]
      refine wpAny_bind (wpAny_load eu ?_)
      simp only [kxs_mw, show (Value.type "method-wrapper" == Value.type "method" || Value.type "method-wrapper" == Value.type "builtin_function_or_method" || Value.type "method-wrapper" == Value.type "method-wrapper") = true by decide, if_true]
      refine KFB.if_so (by decide) ?_
      have hx3 := k3 _ _ hx2
      refine wpAny_bind (check_bound_init F.excBase_ValueError.toExcCallFacts (X3 _ _ hC) hx3 rfl ?_)
      refine wpAny_bind (wpAny_pure (wpAny_pure ?_))
      refine ⟨plainId_quiet F.excBase_ValueError.init.plain _, codeAny_builtin F.excBase_ValueError.initEntry ?_⟩
      refine exc_init_tree (cls := .ref C) (t0 := t0) (dv := none) (c2 := .none) (c3 := .none) (b4 := .bool false) hx3 (by show 1 ≤ sizeLine; omega) (fun h4 k4 hx4 ht4 => ?_)
      have xL : hh.objs.size ≠ x := Nat.ne_of_gt (Heap.lt_size hx)
      have k5 : ∀ b o, b ≠ x → hh.get? b = some o → h4.get? b = some o := fun b o n e => k4 _ _ n (kk _ _ e)
      have X4 : K.In h4 := fun a o e => k5 a o (fun z => by rw [z, hnx] at e; cases e) (X _ _ e)
      have ns4 : h4.Ns hh.objs.size (fun y => [(("self" : Str), .ref x), (("line" : Str), .int n tk0)].reverse.lookup y) := by
        obtain ⟨oL, es, ep, hL, r⟩ := ns3
        exact ⟨oL, es, ep, k4 _ _ xL hL, r⟩
      have hcl' : clsIn K C = some { name := nm, bases := bs, mro := .ref C :: bm, ns := N, qualname := q, hasDict := true, slotNames := sn, subclasses := sub, abstract := ab, collection := col, hasDel := false } := by
        unfold clsIn
        rw [hC] <;> rfl
      show _root_.PySem.wpAt (model prog w) _ _ (execs _ _) _ _ _
      refine ks_wpAt_execs_cons (ks_wpAt_Assign_Attr (wpAt_of_wpAny ?_))
      refine wpAny_Name (wpAny_loadName_local rfl kL ns4 rfl ?_) (by decide)
      refine wpAny_Name (wpAny_loadName_local rfl kI ns4 rfl ?_) (by decide)
      refine set_plain X4 (ox := { cls := .ref C, data := .fields #[.ref h3.objs.size, .none, .none, .none, .bool false, .none] }) (od := none) ⟨hx4, rfl, rfl, trivial⟩ T.sa ?_
      refine HandSPX.exc_osa X4 hx4 hcl' (show refsVE (.ref C :: bm) = true from hbm) rfl T.no (fun h5 tk5 dx k6 dn dne hx5 hn5 => ?_)
      show _root_.PySem.wpAt (model prog w) _ _ (execs [] _) _ _ _
      refine wpAt_of_wpAny (wpAny_execs_nil ?_)
      have hz : hh.objs.size ≤ dx := by
        obtain ⟨oL, es, ep, hL, r⟩ := ns4
        exact Nat.le_of_lt (Nat.lt_of_lt_of_le (Heap.lt_size hL) dn)
      exact hq h5 tk5 dx h3.objs.size ⟨fun b o nb e => k6 _ _ nb (k5 _ _ nb e), hx5, hz, dne, hn5⟩
    · show (Str.ofString "line " ++ Str.ofString (toString n)).length + (Str.ofString " cannot stand here").length ≤ sizeLine
      rw [M.len_app]
      have c1' : (Str.ofString "line ").length = 5 := c1
      have c2' : (Str.ofString " cannot stand here").length = 18 := c2
      omega
/-- a made error -/
structure Made (h h' : Heap) (e C d : Addr) (fld : Str) (v : Value) : Prop where
  keep : ∀ b o, h.get? b = some o → h'.get? b = some o
  new : h.objs.size ≤ e
  obj : ∃ oe vs, h'.get? e = some oe ∧ oe.cls = .ref C ∧ oe.dict = some d ∧ oe.data = .fields vs ∧ vs[1]? = some .none
  dbig : h.objs.size ≤ d
  dne : d ≠ e
  ns : h'.Ns1 d (fun y => if y = fld then some v else none)
theorem line_made (T : Facts prog K C fI cc cda "line" pB bB sB "BadLine.__init__") {n : Int} (hln : (Str.ofString (toString n)).length ≤ 1000) {tk0 : Tok} (X : K.In s.heap) (hg : s.heap.Ns mainGlobals mg) (hbl : ∃ mb, s.heap.Ns builtinsNs mb ∧ ∀ x : Str, x ≠ "__name__" → mb x = bootBuiltins x)
    (hms : mg "super" = none) (hst : mg "str" = none) (hn : n.natAbs.log2 < 1920) (hlim : s.heap.NoLimit) (hroom : A.depth + 1 < recursionLimit)
    (hq : ∀ h' tk e d, Made s.heap h' e C d "line" (.int n tk0) → R (.ok (.ret (.ref e))) { s with heap := h', toks := tk }) :
    codeAny (model prog w) A (.call (.ref C) ⟨[.int n tk0], []⟩) R s := by
  obtain ⟨nm, q, N, bs, bm, sn, sub, ab, col, dd, k0, k1, k2, k3, k5, hC, hbm⟩ := T.cls
  obtain ⟨hp, g, dr, tk, os⟩ := s
  have k : ∀ b o, hp.get? b = some o → ((hp.push (kdv_tup [.int n tk0])).push (HandSPX.excO C hp.objs.size)).get? b = some o := fun b o e => Heap.get?_push_of_some _ (Heap.get?_push_of_some _ e)
  have hget : ((hp.push (kdv_tup [.int n tk0])).push (HandSPX.excO C hp.objs.size)).get? (hp.objs.size + 1) = some (HandSPX.excO C hp.objs.size) := by heap_get
  have hnx : K.lookup (hp.objs.size + 1) = none := by
    cases e : K.lookup (hp.objs.size + 1) with
    | none => rfl
    | some o =>
      have z : hp.get? (hp.objs.size + 1) = some o := X _ _ e
      exact absurd (Nat.lt_of_succ_lt (Heap.lt_size z)) (Nat.lt_irrefl _)
  obtain ⟨mb, hb1, hb2⟩ := hbl
  refine HandSPX.call_own F.excBase_ValueError (fun X => refsVE_contains X bm hbm) (X _ _ hC) (looks_findIn X T.iC) (fun self => bind_fn X self T.tC) (by show 1 ≤ sizeLine; decide) ?_
  refine line_run (s := ⟨(hp.push (kdv_tup [.int n tk0])).push (HandSPX.excO C hp.objs.size), g, dr, tk, os⟩) T hln (X.keeps k) (hg.keeps k) ⟨mb, hb1.keeps k, hb2⟩ hms hst hn (hlim.keeps k) hget hnx ?_ fun h' tk' dx t1 ⟨k', hx, dn, dne, hns⟩ => ?_
  · show A.depth + 1 < recursionLimit
    exact hroom
  · have old : ∀ b o, hp.get? b = some o → h'.get? b = some o := fun b o e => k' b o (Nat.ne_of_lt (Nat.lt_succ_of_lt (Heap.lt_size e))) (k b o e)
    have z : hp.objs.size + 1 + 1 ≤ dx := by
      first
        | (simpa only [Heap.size_push] using dn)
        | exact dn
        | (have q := dn; rw [Heap.size_push, Heap.size_push] at q; exact q)
    exact ⟨rfl, hq h' tk' (hp.objs.size + 1) dx ⟨old, Nat.le_succ _, ⟨_, _, hx, rfl, rfl, rfl, rfl⟩, Nat.le_trans (Nat.le_trans (Nat.le_succ _) (Nat.le_succ _)) z, dne, hns⟩⟩
end
end Own
namespace C
open PySem PySem.Spec PyProof.Rows L2 Own
theorem relO_one {f : Str} {v : V} {v' : Value} (r : RelV v v') (y : Str) : RelO (List.lookup y [(f, v)]) (if y = f then some v' else none) := by
  by_cases hw : y = f
  · subst hw
    rw [if_pos rfl]
    have q : List.lookup y [(y, v)] = some v := by simp [List.lookup]
    rw [q]
    exact r
  · rw [if_neg hw]
    have qw : (y == f) = false := by simpa using hw
    have q2 : List.lookup y [(f, v)] = none := by simp [List.lookup, qw]
    rw [q2]
    trivial
section
variable {X : Cx} {Cl fI cc cda : Addr}
/-- BadLine(e) -/
def tMkLine (Cl : Addr) (ta : TA) : L2.St → Hp → XK → Prop := fun σ H Q => ta σ H fun vs H1 => ∃ n : Int, vs = [.int n] ∧ n.natAbs.log2 < 1920 ∧ (Str.ofString (toString n)).length ≤ 1000 ∧ ∀ d, H1 d = none → Q (.ref Cl) (some d) (upd H1 d (.xd [(("line" : Str), .int n)]))
theorem pmk_line {a : Expr} {ta : TA} {p pos : Pos} {k : Nat} (T : Facts X.prog X.K Cl fI cc cda "line" pB bB sB "BadLine.__init__") (gC : X.mg "BadLine" = some (.ref Cl)) (hms : X.mg "super" = none) (hst : X.mg "str" = none) (hr : Room k X.A) (ha : PA X [a] ta) (hg : Gl X "BadLine" := by rfl)
    (he : starEach (a :: []) X.env = (false, eval a X.env) :: starEach [] X.env := by rfl) (hpl : (backTo pos (starEach [] X.env)).any (·.1) = false := by rfl) :
    PMk X (.Call (.Name "BadLine" p) [a] [] pos) (tMkLine Cl ta) := by
  intro pins s σ H Q I h
  refine wpAny_Call_Name_kw (ld_glob I hg gC ?_)
  refine PySem.W.callWith_K (h₀ := X.base) I.ok.mod.kin T.kC (thn (ha.run pos pins s σ H _ I h) fun us s1 hh => ?_) he hpl
  obtain ⟨vs, H1, I1, r1, n, ev, hn, hln, q1⟩ := hh
  subst ev
  refine ⟨I1.kIn, ?_⟩
  obtain ⟨u, rfl, tk0, rfl⟩ := vals1 r1
  show wpAny _ _ (call (.ref Cl) [.int n tk0]) _ _ _
  have hlim := I1.nolimit
  obtain ⟨mb, hb1, hb2⟩ := I1.mod.blt
  have hgl := I1.mod.glob.keeps I1.bk
  have hb1' := hb1.keeps I1.bk
  obtain ⟨hp, g, dr, tk, os⟩ := s1
  refine wpAny_call (line_made T hln I1.kIn hgl ⟨mb, hb1', hb2⟩ hms hst hn hlim (by have := hr.dp; omega) fun h' tk' e d M => ?_)
  show MkP X pins σ Q (.ref e) ⟨h', g, dr, tk', os⟩
  obtain ⟨oe, fv, hoe, hc, hd, hdat, h1⟩ := M.obj
  have hns := M.ns
  obtain ⟨G', g1, g2⟩ := restrict h' fun b => decide (b ≠ e)
  have gk : ∀ b, b ≠ e → G'.get? b = h'.get? b := fun b hb => g1 b (decide_eq_true hb)
  have ge : G'.get? e = none := g2 e (by simp)
  have old : ∀ b o, hp.get? b = some o → G'.get? b = some o := fun b o q => (gk b (Nat.ne_of_lt (Nat.lt_of_lt_of_le (Heap.lt_size q) M.new))).trans (M.keep b o q)
  have ob : ObjOk X.prog X.w (upd H1 d (.xd [(("line" : Str), .int n)])) G' d (.xd [(("line" : Str), .int n)]) :=
    ⟨_, hns.at (fun o q => (gk d M.dne).trans q), fun f => relO_one (v := .int n) ⟨_, rfl⟩ f⟩
  have J : Inv X pins σ (upd H1 d (.xd [(("line" : Str), .int n)])) ⟨G', g, dr, tk', os⟩ := I1.laid (t' := tk') old M.dbig ob
  refine ⟨e, oe, fv, ⟨G', g, dr, tk', os⟩, _, .ref Cl, some d, rfl, J, fun b o q => ?_, ge, hoe, ⟨hc, hd⟩, hdat, h1, ?_, rfl, I1.bare, raises_own T.exC T.tyC, q1 d (I1.hok.fresh M.dbig)⟩
  · by_cases hb : b = e
    · have q' : G'.get? b = some o := q
      rw [hb, ge] at q'
      cases q'
    · exact (gk b hb).symm.trans q
  · rw [upd_ne (Ne.symm M.dne)]
    exact I1.hok.fresh M.new
end
end C
set_option Elab.async false
set_option linter.all false
set_option pp.maxSteps 1500
set_option maxRecDepth 100000
set_option maxHeartbeats 4000000
namespace C
open PySem PySem.Spec PyProof.Rows L2 Kx M TL
local macro_rules | `(tactic| tm_at "same") => `(tactic| first
  | assumption
  | exact L2.Same.refl _
  | exact L2.Same.upd (by tm_at "same") (by tm_at "free")
  | exact sameTransR (by assumption) (by tm_at "same"))
local macro_rules | `(tactic| tm_at "free") => `(tactic| first
  | assumption
  | exact sameFreeR (by assumption) (by tm_at "same"))
local macro_rules | `(tactic| tm_at "but") => `(tactic| first
  | assumption
  | exact But.refl _ _
  | exact But.transR (by assumption) (by tm_at "but")
  | exact But.upd
  | exact But.self (by tm_at "but")
  | exact But.new1 (by tm_at "but") (by assumption)
  | exact But.new (by tm_at "but") (by tm_at "free")
  | exact L2.Same.but (by assumption) _)
local macro_rules | `(tactic| tm_at "fact") => `(tactic| first
  | exact upd_same
  | assumption
  | exact SqL.of upd_same
  | exact SqT.of upd_same
  | exact SqL.of (by assumption)
  | exact SqT.of (by assumption)
  | exact But.lstR (by assumption) (by assumption) (by tm_at "but"))
local macro_rules | `(tactic| tm_at "cond") => `(tactic| first
  | rfl
  | assumption
  | decide
  | omega
  | exact ⟨by decide, by decide⟩
  | exact .inr ⟨by decide, by decide⟩
  | exact .inl ⟨by decide, by decide⟩
  | exact ⟨by decide, by decide, by decide⟩
  | exact cdivw (by assumption) (by assumption)
  | exact log2_ok (by assumption)
  | exact Or.inl ⟨rfl, _, SqL.of upd_same⟩
  | exact Or.inl ⟨rfl, _, SqL.of (by assumption)⟩
  | exact ⟨_, rfl⟩
  | exact Nat.le_of_ble_eq_true rfl
  | exact small1000 (by omega))
local macro_rules | `(tactic| tm_at "prop") => `(tactic| first
  | assumption
  | omega)
local macro_rules | `(tactic| tm_at "s") => `(tactic| first
  | refine ⟨_, rfl, ?_⟩
  | refine ⟨_, _, rfl, rfl, ?_⟩
  | refine ⟨_, _, _, rfl, rfl, (by tm_at "fact"), (by tm_at "cond"), ?_⟩
  | refine ⟨_, _, _, _, rfl, rfl, (by tm_at "fact"), rfl, ?_⟩
  | refine ⟨_, _, rfl, (by tm_at "fact"), ?_⟩
  | refine And.intro (by tm_at "cond") ?_
  | refine .inl ⟨_, rfl, ?_⟩
  | refine ⟨_, _, rfl, .inl (by tm_at "fact"), ?_⟩
  | refine dec_false (by tm_at "prop") ?_
  | refine dec_true (by tm_at "prop") ?_
  | refine decN_false (by tm_at "prop") ?_
  | refine decN_true (by tm_at "prop") ?_
  | refine iteT ?_
  | refine iteF ?_
  | refine ⟨_, _, rfl, ?_⟩)
local macro_rules | `(tactic| tm_at "go") => `(tactic| repeat tm_at "s")

section
variable {P : Program} {w : World} {K : PySem.W.Frag} {mg : Str → Option Value} {base : Heap} {aH aR : Addr}
/-! ### callees that may raise -/
theorem _root_.L2.FnOk.up {k : Nat} {f : Addr} {fd : FuncData} {ps : List Str} {sp : Sp} (F : FnOk P w K mg base CX0 k f fd ps sp) : FnOk P w K mg base (L2.CX P w) k f fd ps sp :=
  ⟨F.len, fun A outer s H args us vs Q E hr he hb hv hs => codeAny_mono (F.run A outer s H args us vs Q E hr he hb hv hs) fun r s' h => by
    cases r with
    | error e => exact False.elim h
    | ok fl => cases fl <;> exact h⟩
theorem _root_.L2.FnOk.unite {k : Nat} {CX : CXT} {f : Addr} {fd : FuncData} {ps : List Str} {sp sp' : Sp} (F : FnOk P w K mg base CX k f fd ps sp) (G : FnOk P w K mg base CX k f fd ps sp') : FnOk P w K mg base CX k f fd ps (fun vs H Q E => sp vs H Q E ∨ sp' vs H Q E) :=
  ⟨fun vs H Q E h => h.elim (F.len vs H Q E) (G.len vs H Q E), fun A outer s H args us vs Q E hr he hb hv hs => hs.elim (F.run A outer s H args us vs Q E hr he hb hv) (G.run A outer s H args us vs Q E hr he hb hv)⟩
section
variable {X : Cx} {W : WX} {k : Nat} {ps : List Str} {sp : Sp} {x m : Str} {Cl : Addr} {p pos apos : Pos} {o e : Expr} {es : List Expr} {ta : TE} {t : TA}
theorem pe_calX (c : Cal X.prog X.w X.K X.mg X.base (L2.CX X.prog X.w) k x ps sp) (hr : Room k X.A) (hg : Gl X x) (tk : Takes X W) (ha : PA X (e :: es) t) (hdb : (x == ("__debug__" : Str)) = false := by decide)
    (he : starEach (e :: es) X.env = (false, eval e X.env) :: starEach es X.env := by rfl) (hpl : (backTo pos (starEach es X.env)).any (·.1) = false := by rfl) :
    PE X (.Call (.Name x p) (e :: es) [] pos) (tCallS sp (fun σ => WE W σ) t) := by
  obtain ⟨f, fd, a, b, d, q⟩ := c.ex
  exact pe_callS a hr hg b d q (fun σ => passAt tk σ) ha hdb he hpl
/-- shut: a walk stops here -/
def Bx (p : Prop) : Prop := ∀ q : Prop, (p → q) → q
theorem Bx.mk {p : Prop} (h : p) : Bx p := fun _ k => k h
theorem Bx.out {p : Prop} (h : Bx p) : p := h p id
/-- an own error without an __init__ -/
structure XT (K : PySem.W.Frag) (mg : Str → Option Value) (nm : Str) (Cl : Addr) : Prop where
  x : PySem.W.excIn K Cl [.type "ValueError", .type "Exception", .type "BaseException", .type "object"] "ValueError.__new__" = true
  g : mg nm = some (.ref Cl)
  k : PySem.W.keepIn K (.ref Cl) = true
  b : PySem.W.subIn K (.ref Cl) (.type "BaseException") = some true
  t : PySem.W.typeIn K (.ref Cl) = some (.type "type")
  e : PySem.W.exmOne K (.ref Cl) (.ref Cl) = some true
/-- isinstance(e, c), e a caught error with a dict of its own -/
def rIsEX (K : PySem.W.Frag) (a : Addr) (cls : Value) (d : Option Addr) : List V → Hp → VK → Prop := fun xs H Q => ∃ (D dd : Addr) (fs : List (Str × V)) (c : V) (cv : Value) (b : Bool), ExcC K D ∧ cls = .ref D ∧ d = some dd ∧ H dd = some (.xd fs) ∧ xs = [.ref a, c] ∧
  (∀ u, RelV c u → u = cv) ∧ PySem.W.kitOne K (.ref D) cv = some b ∧ Q (.bl b) H
theorem call_isEX {X : Cx} {a : Addr} {oe : Obj} {cls : Value} {d : Option Addr} {pn : List (Addr × Obj)} (hz : Zc cls d oe) (hf : ∃ vs, oe.data = .fields vs) : CallR (X.suite a ((a, oe) :: pn)) (.builtin "isinstance") (rIsEX X.K a cls d) := by
  intro pins s σ H xs us Q I r h
  obtain ⟨D, dd, fs, c, cv, b, T, rfl, rfl, hdd, rfl, hcv, e, q⟩ := h
  cases r with
  | cons rx rr =>
    cases rr with
    | cons rt rr =>
      cases rr
      cases rx
      obtain rfl := hcv _ rt
      obtain ⟨hget, _⟩ := I.pin (a, oe) (List.mem_append.mpr (.inl List.mem_cons_self))
      obtain ⟨vs, hv⟩ := hf
      obtain ⟨mA, hns, hr⟩ : ObjOk X.prog X.w H s.heap dd (.xd fs) := I.hok dd _ hdd
      obtain ⟨od, ho, hl⟩ := lookIn_ns hns
      have J : PySem.W.InstAt s.heap a oe D (some od) := ⟨hget, hz.1, by unfold PySem.W.notCls; rw [hv] <;> rfl, by rw [hz.2]; exact ho⟩
      have hcl : (PySem.W.clsIn X.K D).isSome = true := by
        obtain ⟨cd, hc, _⟩ := PySem.W.any_some T.hd
        rw [hc]
        rfl
      exact PySem.W.kia_one (PySem.W.kitx_exc hcl T.hg T.hk T.hs T.ha T.hn T.ht T.hm) I.kIn J e (fun z => nomatch z) fun tk => ⟨.bl b, H, I.kept (t' := tk) fun _ _ z => z, rfl, q⟩
end
end
end C
set_option Elab.async false
set_option linter.all false
set_option pp.maxSteps 1500
set_option maxRecDepth 100000
set_option maxHeartbeats 4000000
namespace C
open PySem PySem.Spec PyProof.Rows L2 Kx M TL
local macro_rules | `(tactic| tm_at "same") => `(tactic| first
  | assumption
  | exact L2.Same.refl _
  | exact L2.Same.upd (by tm_at "same") (by tm_at "free")
  | exact sameTransR (by assumption) (by tm_at "same"))
local macro_rules | `(tactic| tm_at "free") => `(tactic| first
  | assumption
  | exact sameFreeR (by assumption) (by tm_at "same"))
local macro_rules | `(tactic| tm_at "but") => `(tactic| first
  | assumption
  | exact But.refl _ _
  | exact But.transR (by assumption) (by tm_at "but")
  | exact But.upd
  | exact But.self (by tm_at "but")
  | exact But.new1 (by tm_at "but") (by assumption)
  | exact But.new (by tm_at "but") (by tm_at "free")
  | exact L2.Same.but (by assumption) _)
local macro_rules | `(tactic| tm_at "fact") => `(tactic| first
  | exact upd_same
  | assumption
  | exact SqL.of upd_same
  | exact SqT.of upd_same
  | exact SqL.of (by assumption)
  | exact SqT.of (by assumption)
  | exact But.lstR (by assumption) (by assumption) (by tm_at "but"))
local macro_rules | `(tactic| tm_at "cond") => `(tactic| first
  | rfl
  | assumption
  | decide
  | omega
  | exact ⟨by decide, by decide⟩
  | exact .inr ⟨by decide, by decide⟩
  | exact .inl ⟨by decide, by decide⟩
  | exact ⟨by decide, by decide, by decide⟩
  | exact cdivw (by assumption) (by assumption)
  | exact log2_ok (by assumption)
  | exact Or.inl ⟨rfl, _, SqL.of upd_same⟩
  | exact Or.inl ⟨rfl, _, SqL.of (by assumption)⟩
  | exact ⟨_, rfl⟩
  | exact Nat.le_of_ble_eq_true rfl
  | exact small1000 (by omega))
local macro_rules | `(tactic| tm_at "prop") => `(tactic| first
  | assumption
  | omega)
local macro_rules | `(tactic| tm_at "s") => `(tactic| first
  | refine ⟨_, rfl, ?_⟩
  | refine ⟨_, _, rfl, rfl, ?_⟩
  | refine ⟨_, _, _, rfl, rfl, (by tm_at "fact"), (by tm_at "cond"), ?_⟩
  | refine ⟨_, _, _, _, rfl, rfl, (by tm_at "fact"), rfl, ?_⟩
  | refine ⟨_, _, rfl, (by tm_at "fact"), ?_⟩
  | refine And.intro (by tm_at "cond") ?_
  | refine .inl ⟨_, rfl, ?_⟩
  | refine ⟨_, _, rfl, .inl (by tm_at "fact"), ?_⟩
  | refine dec_false (by tm_at "prop") ?_
  | refine dec_true (by tm_at "prop") ?_
  | refine decN_false (by tm_at "prop") ?_
  | refine decN_true (by tm_at "prop") ?_
  | refine iteT ?_
  | refine iteF ?_
  | refine ⟨_, _, rfl, ?_⟩)
local macro_rules | `(tactic| tm_at "go") => `(tactic| repeat tm_at "s")

section
variable {P : Program} {w : World} {K : PySem.W.Frag} {mg : Str → Option Value} {base : Heap} {aH aR : Addr}
/-! ### read_integer of any short text -/
theorem dv_lt : ∀ l : List Nat, NumText.AllDigits l → ∀ a, l.foldl (fun a c => a * 10 + (c - 48)) a < (a + 1) * 10 ^ l.length
  | [], _, a => by simp
  | c :: r, h, a => by
    have hc := h c (List.mem_cons_self ..)
    have ih := dv_lt r (fun d hd => h d (List.mem_cons_of_mem _ hd)) (a * 10 + (c - 48))
    rw [List.foldl_cons, List.length_cons, Nat.pow_succ]
    refine Nat.lt_of_lt_of_le ih ?_
    have h1 : a * 10 + (c - 48) + 1 ≤ (a + 1) * 10 := by omega
    calc (a * 10 + (c - 48) + 1) * 10 ^ r.length ≤ ((a + 1) * 10) * 10 ^ r.length := Nat.mul_le_mul_right _ h1
      _ = (a + 1) * (10 ^ r.length * 10) := by rw [Nat.mul_assoc, Nat.mul_comm 10]
theorem dg_digit {c : Nat} (h : c ∈ dg) : 48 ≤ c ∧ c ≤ 57 := by
  rw [dg_eq] at h
  simp only [List.mem_cons, List.not_mem_nil, or_false] at h
  omega
theorem digit_dg {c : Nat} (h1 : 48 ≤ c) (h2 : c ≤ 57) : c ∈ dg := by
  rw [dg_eq]
  have : c = 48 ∨ c = 49 ∨ c = 50 ∨ c = 51 ∨ c = 52 ∨ c = 53 ∨ c = 54 ∨ c = 55 ∨ c = 56 ∨ c = 57 := by omega
  rcases this with e | e | e | e | e | e | e | e | e | e <;> subst e <;> decide
/-- a text of digits is read by int -/
theorem int_dg {x : Str} (h : ∀ c ∈ tl x, c ∈ dg) (hn : tl x ≠ []) (hl : x.length ≤ 56) : ∃ n : Nat, PySem.intText? x = some (n : Int) ∧ n < 10 ^ 56 := by
  have ha : NumText.AllDigits x.cps.toList := fun c hc => dg_digit (h c hc)
  refine ⟨_, intText_digits ha hn (by omega), ?_⟩
  have h1 := dv_lt _ ha 0
  rw [Nat.zero_add, Nat.one_mul] at h1
  refine Nat.lt_of_lt_of_le h1 (Nat.pow_le_pow_right (by decide) ?_)
  rw [len_tl] at hl
  exact hl
def spReadIntX (cBT : Addr) : Sp := fun vs H Q E => ∃ (t : Str), vs = [.str t] ∧ t.length ≤ 56 ∧ (∀ (n : Int) H', n.natAbs < 10 ^ 56 → Same H H' → Q (.int n) H') ∧ ∀ H', Same H H' → E (.ref cBT) none H'
theorem okx_read_integer {k : Nat} {cBT : Addr} (D : Def K mg "read_integer" "read_integer" s_read_integer ["text"]) (B : Bi mg) (G : Gb K mg aH aR) (XB : XT K mg "BadText" cBT) : Cal P w K mg base (L2.CX P w) (k + 1) "read_integer" ["text"] (spReadIntX cBT) := by
  refine D.cal fun f fd F => F.okX sc_read_integer (fun vs H Q E h => ?_) (fun cdv A outer s H vs Q E hr h => ?_)
  · obtain ⟨x, rfl, _⟩ := h
    rfl
  · obtain ⟨t, rfl, ht, q, qe⟩ := h
    have nd := sc_read_integer.nd
    refine ⟨_, (pss_cons (ps_set (i := 1) nd rfl (Or.inl rfl) (pv 0))
      (C8.pss_cut (ps_if (pt_cmpR op_eq (pe_slice sl_str (pv 0) po_none (po_some pe_int)) pe_str (nomark _))
        (pss_one (ps_set (i := 1) nd rfl (Or.inl rfl) (pe_slice sl_str (pv 0) (po_some pe_int) po_none)))
        pss_nil)
      (C8.pss_cut (ps_if (PW.pt (pw_or (pt_cmpR op_eq (pv 1) pe_str (nomark _)) (pw_or1 (PW.pt (pw_and (pt_cmpR op_eq (pe_ix ix_str (pv 1) pe_int (fun _ _ => rfl)) pe_str (nomark _)) (pw_and1 (pt_cmpR op_ne (pv 0) pe_str (nomark _))))))))
        (pss_one (ps_raise rfl (takes_of rfl rfl rfl rfl) (pmk_own PySem.F.excBase_ValueError XB.x XB.g XB.k (raises_own XB.b XB.t) rfl)))
        pss_nil)
      (pss_cons (ps_for (passes_of rfl) rfl (pi_str (pv 1)) (pg_name (i := 2) nd rfl (Or.inl rfl))
        (pss_one (ps_if (pt_cmpR op_notIn_sign (pv 2) (pe_globS (by rfl) G.DIGITS_digits) (by rfl))
          (pss_one (ps_raise rfl (takes_of rfl rfl rfl rfl) (pmk_own PySem.F.excBase_ValueError XB.x XB.g XB.k (raises_own XB.b XB.t) rfl)))
          pss_nil)))
      (pss_cons (ps_set (i := 3) nd rfl (Or.inl rfl) (pe_op op_mod (pe_callB call_len_str (by rfl) B.len (by decide +kernel) (pa_cons (pv 1) pa_nil)) pe_int))
      (pss_cons (ps_set (i := 4) nd rfl (Or.inl rfl) pe_int)
      (pss_cons (ps_if (pt_cmpR op_gt (pv 3) pe_int (nomark _))
        (pss_one (ps_set (i := 4) nd rfl (Or.inl rfl) (pe_callTy call_int_str (by rfl) B.int (by decide +kernel) (pa_cons (pe_slice sl_str (pv 1) po_none (po_some (pv 3))) pa_nil))))
        pss_nil)
      (pss_cons (ps_for (passes_of rfl) rfl (pi_range3 (by rfl) B.range (pa_cons (pv 3) (pa_cons (pe_callB call_len_str (by rfl) B.len (by decide +kernel) (pa_cons (pv 1) pa_nil)) (pa_cons pe_int pa_nil)))) (pg_name (i := 5) nd rfl (Or.inl rfl))
        (pss_one (ps_set (i := 4) nd rfl (Or.inl rfl) (pe_op op_add (pe_op op_mul (pv 4) (pe_globI (by rfl) G.BASE)) (pe_callTy call_int_str (by rfl) B.int (by decide +kernel) (pa_cons (pe_slice sl_str (pv 1) (po_some (pv 5)) (po_some (pe_op op_add (pv 5) pe_int))) pa_nil))))))
      (pss_cons (ps_if (pt_cmpR op_eq (pe_ix ix_str (pv 0) pe_int (fun _ _ => rfl)) pe_str (nomark _))
        (pss_one (ps_ret (pe_un un_neg (pv 4))))
        pss_nil)
      (pss_one (ps_ret (pv 4)))))))))))), ?_⟩
    have hs : (1000 : Nat) ≤ sizeLine := by decide
    have hts : t.length ≤ sizeLine := by omega
    refine ⟨_, rfl, ?_⟩
    refine ⟨fun σ H1 => Bx (∃ D, σ = [some (.str t), some (.str D), none, none, none, none] ∧ D.length ≤ 56 ∧ H1 = H ∧ (tl D ≠ [] → tl t ≠ [])), ?_, ?_⟩
    · by_cases hz : V.str (cutS t none (some 1)) = V.str (S "-")
      · tm_at "go"
        have e1 : tl (cutS t (some 1) none) = (tl t).drop 1 := cut_from t 1
        refine .mk ⟨_, rfl, ?_, rfl, fun hn ht0 => hn ?_⟩
        · rw [len_tl, e1, List.length_drop, ← len_tl]
          omega
        · rw [e1, ht0]
          rfl
      · tm_at "go"
        exact .mk ⟨t, rfl, ht, rfl, id⟩
    · rintro σ H1 bx
      obtain ⟨D, rfl, hD, rfl, hDt⟩ := bx.out
      have hDs : D.length ≤ sizeLine := by omega
      refine ⟨fun σ H2 => Bx (σ = [some (.str t), some (.str D), none, none, none, none] ∧ H2 = H1 ∧ tl D ≠ []), ?_, ?_⟩
      · by_cases hz : V.str D = V.str (S "")
        · tm_at "go"
          exact qe _ (Same.refl _)
        · have hne : tl D ≠ [] := fun e => hz (congrArg V.str (ext_tl (by rw [e]; exact (by decide +kernel : [] = tl (S "")))))
          obtain ⟨c, r, e⟩ := List.exists_cons_of_ne_nil hne
          have hlen : D.length = r.length + 1 := by
            rw [len_tl, e]
            rfl
          have hat : atI D.cps.toList 0 = some c := by
            show atI (tl D) 0 = some c
            rw [e]
            exact atI_nat (j := 0) rfl
          by_cases c1 : V.str (⟨#[c]⟩ : Str) = V.str (S "0")
          · by_cases c2 : V.str t = V.str (S "0")
            · tm_at "go"
              exact .mk ⟨rfl, rfl, hne⟩
            · tm_at "go"
              exact qe _ (Same.refl _)
          · tm_at "go"
            exact .mk ⟨rfl, rfl, hne⟩
      · rintro σ H2 bx
        obtain ⟨rfl, rfl, hne⟩ := bx.out
        tm_at "go"
        refine for_it walk_str (fun i σ H' => Bx (∃ v, σ = [some (.str t), some (.str D), v, none, none, none] ∧ H' = H2 ∧ ∀ j d, j < i → (tl D)[j]? = some d → d ∈ dg)) (.mk ⟨_, rfl, rfl, fun j d hj => absurd hj (by omega)⟩) (fun _ _ _ _ _ => trivial) ?_ ?_
        · rintro i v σ H3 H4 hi bx ⟨rfl, d, hd2, rfl⟩
          obtain ⟨v0, rfl, rfl, hdig⟩ := bx.out
          have hc2 : (tl D)[i]? = some d := by
            rw [← hd2]
            simp [tl]
          by_cases hdg : d ∈ dg
          · tm_at "go"
            refine .mk ⟨_, rfl, rfl, fun j d' hj hd' => ?_⟩
            by_cases hji : j = i
            · subst hji
              rw [hc2] at hd'
              cases hd'
              exact hdg
            · exact hdig j d' (by omega) hd'
          · tm_at "go"
            exact qe _ (Same.refl _)
        · rintro σ H3 bx
          obtain ⟨v0, rfl, rfl, hdig⟩ := bx.out
          have hall : ∀ c ∈ tl D, c ∈ dg := fun c hc => by
            obtain ⟨j, hj, e⟩ := List.getElem_of_mem hc
            exact hdig j c (by simpa [tl] using hj) (by rw [List.getElem?_eq_getElem hj, e])
          obtain ⟨n, hint, hnb⟩ := int_dg hall hne hD
          have hmod : (D.length : Int) % 64 = (D.length : Int) := by omega
          have hfull : cutS D none (some (D.length : Int)) = D := by
            refine ext_tl ?_
            rw [cut_to, len_tl, List.take_of_length_le (Nat.le_refl _)]
          have hiX : PySem.intText? (cutS D none (some ((D.length : Int) % 64))) = some (n : Int) := by
            rw [hmod, hfull]
            exact hint
          have hcl : (cutS D none (some ((D.length : Int) % 64))).length ≤ 640 := by
            rw [hmod, hfull]
            omega
          have hpos : 0 < D.length := by
            rw [len_tl]
            exact List.length_pos_iff.mpr hne
          obtain ⟨ct, rt, et⟩ := List.exists_cons_of_ne_nil (hDt hne)
          have hat : atI t.cps.toList 0 = some ct := by
            show atI (tl t) 0 = some ct
            rw [et]
            exact atI_nat (j := 0) rfl
          tm_at "go"
          refine ⟨_, _, _, 0, rfl, ?_, ?_⟩
          · rw [hmod]
            exact rg_none (by decide) (by decide) (by omega) (by omega)
          · refine for_it walk_rangeC (fun i σ H' => Bx (σ = [some (.str t), some (.str D), v0, some (.int ((D.length : Int) % 64)), some (.int (n : Int)), none] ∧ H' = H3)) (.mk ⟨rfl, rfl⟩) (fun _ _ _ _ _ => trivial) ?_ ?_
            · rintro i v σ H4 H5 hi
              exact absurd hi (by omega)
            · rintro σ H4 bx
              obtain ⟨rfl, rfl⟩ := bx.out
              have hnb2 : (-(n : Int)).natAbs < 10 ^ 56 := by omega
              have hnb3 : ((n : Int)).natAbs < 10 ^ 56 := by omega
              by_cases c3 : V.str (⟨#[ct]⟩ : Str) = V.str (S "-")
              · tm_at "go"
                exact q _ _ hnb2 (Same.refl _)
              · tm_at "go"
                exact q _ _ hnb3 (Same.refl _)
end
end C
set_option Elab.async false
set_option linter.all false
set_option pp.maxSteps 1500
set_option maxRecDepth 100000
set_option maxHeartbeats 4000000
namespace C
open PySem PySem.Spec PyProof.Rows L2 Kx M TL
local macro_rules | `(tactic| tm_at "same") => `(tactic| first
  | assumption
  | exact L2.Same.refl _
  | exact L2.Same.upd (by tm_at "same") (by tm_at "free")
  | exact sameTransR (by assumption) (by tm_at "same"))
local macro_rules | `(tactic| tm_at "free") => `(tactic| first
  | assumption
  | exact sameFreeR (by assumption) (by tm_at "same"))
local macro_rules | `(tactic| tm_at "but") => `(tactic| first
  | assumption
  | exact But.refl _ _
  | exact But.transR (by assumption) (by tm_at "but")
  | exact But.upd
  | exact But.self (by tm_at "but")
  | exact But.new1 (by tm_at "but") (by assumption)
  | exact But.new (by tm_at "but") (by tm_at "free")
  | exact L2.Same.but (by assumption) _)
local macro_rules | `(tactic| tm_at "fact") => `(tactic| first
  | exact upd_same
  | assumption
  | exact SqL.of upd_same
  | exact SqT.of upd_same
  | exact SqL.of (by assumption)
  | exact SqT.of (by assumption)
  | exact But.lstR (by assumption) (by assumption) (by tm_at "but"))
local macro_rules | `(tactic| tm_at "cond") => `(tactic| first
  | rfl
  | assumption
  | decide
  | omega
  | exact ⟨by decide, by decide⟩
  | exact .inr ⟨by decide, by decide⟩
  | exact .inl ⟨by decide, by decide⟩
  | exact ⟨by decide, by decide, by decide⟩
  | exact cdivw (by assumption) (by assumption)
  | exact log2_ok (by assumption)
  | exact Or.inl ⟨rfl, _, SqL.of upd_same⟩
  | exact Or.inl ⟨rfl, _, SqL.of (by assumption)⟩
  | exact ⟨_, rfl⟩
  | exact Nat.le_of_ble_eq_true rfl
  | exact small1000 (by omega))
local macro_rules | `(tactic| tm_at "prop") => `(tactic| first
  | assumption
  | omega)
local macro_rules | `(tactic| tm_at "s") => `(tactic| first
  | refine ⟨_, rfl, ?_⟩
  | refine ⟨_, _, rfl, rfl, ?_⟩
  | refine ⟨_, _, _, rfl, rfl, (by tm_at "fact"), (by tm_at "cond"), ?_⟩
  | refine ⟨_, _, _, _, rfl, rfl, (by tm_at "fact"), rfl, ?_⟩
  | refine ⟨_, _, rfl, (by tm_at "fact"), ?_⟩
  | refine And.intro (by tm_at "cond") ?_
  | refine .inl ⟨_, rfl, ?_⟩
  | refine ⟨_, _, rfl, .inl (by tm_at "fact"), ?_⟩
  | refine dec_false (by tm_at "prop") ?_
  | refine dec_true (by tm_at "prop") ?_
  | refine decN_false (by tm_at "prop") ?_
  | refine decN_true (by tm_at "prop") ?_
  | refine iteT ?_
  | refine iteF ?_
  | refine ⟨_, _, rfl, ?_⟩)
local macro_rules | `(tactic| tm_at "go") => `(tactic| repeat tm_at "s")

section
variable {P : Program} {w : World} {K : PySem.W.Frag} {mg : Str → Option Value} {base : Heap} {aH aR : Addr}
/-! ### read_term of any short text -/
def spReadTermX (K : PySem.W.Frag) (cBT : Addr) : Sp := fun vs H Q E => ∃ (T : Str) (s : Int), vs = [.str T, .int s] ∧ T.length ≤ 56 ∧ (s = 1 ∨ s = -1) ∧
  (∀ (nm : Str) (a : Int) r H', (nm = Str.empty ∨ NameOk nm) → a.natAbs < 10 ^ 56 → Same H H' → Im K H' r (pD (nm, a)) → Q r H') ∧ ∀ H', Same H H' → E (.ref cBT) none H'
theorem star_cases (T : Str) : (Txt.partition T (S "*") = (T, Str.empty, Str.empty)) ∨ ∃ x y : Str, x.length ≤ T.length ∧ y.length ≤ T.length ∧ Txt.partition T (S "*") = (x, S "*", y) := by
  by_cases h : 42 ∈ tl T
  · obtain ⟨as, bs, e, hn⟩ := List.eq_append_cons_of_mem h
    refine .inr ⟨⟨as.toArray⟩, ⟨bs.toArray⟩, ?_, ?_, ?_⟩
    · rw [len_tl T, e, List.length_append]
      show as.toArray.size ≤ _
      rw [List.size_toArray]
      omega
    · rw [len_tl T, e, List.length_append, List.length_cons]
      show bs.toArray.size ≤ _
      rw [List.size_toArray]
      omega
    · have eT : T = ⟨as.toArray⟩ ++ S "*" ++ ⟨bs.toArray⟩ := by
        refine ext_tl ?_
        rw [tl_append, tl_append, tl_star, e]
        show as ++ 42 :: bs = as ++ [42] ++ bs
        rw [List.append_assoc]
        rfl
      rw [eT]
      exact partition_app tl_star hn
  · exact .inl (partition_none tl_star h)
theorem okx_read_term {k : Nat} {cBT : Addr} (D : Def K mg "read_term" "read_term" s_read_term ["text", "sign"]) (B : Bi mg) (XB : XT K mg "BadText" cBT) (c_is_name : Cal P w K mg base CX0 k "is_name" ["text"] spIsName)
    (x_read_integer : Cal P w K mg base (L2.CX P w) k "read_integer" ["text"] (spReadIntX cBT)) : Cal P w K mg base (L2.CX P w) (k + 1) "read_term" ["text", "sign"] (spReadTermX K cBT) := by
  refine D.cal fun f fd F => F.okX sc_read_term (fun vs H Q E h => ?_) (fun cdv A outer s H vs Q E hr h => ?_)
  · obtain ⟨T, s, rfl, _⟩ := h
    rfl
  · obtain ⟨T, sg, rfl, hT, hsg, q, qe⟩ := h
    have nd := sc_read_term.nd
    have hbig : (1000 : Nat) ≤ sizeLine := by decide
    have hTs : T.length ≤ sizeLine := by omega
    have hmul : ∀ z : Int, CMul sg z := fun z => .inl (by rcases hsg with e | e <;> subst e <;> exact ⟨by decide, by decide⟩)
    have hsb : ∀ z : Int, z.natAbs < 10 ^ 56 → (sg * z).natAbs < 10 ^ 56 := fun z hz => by rcases hsg with e | e <;> subst e <;> omega
    have hs1 : sg.natAbs < 10 ^ 56 := by
      have e60 : (2 : Nat) ≤ 10 ^ 56 := by decide
      rcases hsg with e | e <;> subst e <;> omega
    refine ⟨_, (pss_cons (ps_asg (pe_partition (pv 0) pe_str) (pg_tup rfl (pgs_cons (pg_name (i := 2) nd rfl (Or.inl rfl)) (pgs_cons (pg_name (i := 3) nd rfl (Or.inl rfl)) (pgs_cons (pg_name (i := 4) nd rfl (Or.inl rfl)) pgs_nil)))))
      (pss_cons (ps_if (PW.pt (pw_and (pt_cmpR op_eq (pv 3) pe_str (nomark _)) (pw_and1 (pt_val (pe_cal c_is_name (Room.mono hr (by omega)) (by rfl) (pa_cons (pv 2) pa_nil))))))
        (pss_one (ps_ret (pe_tup (pa_cons (pv 2) (pa_cons (pv 1) pa_nil)))))
        pss_nil)
      (pss_cons (ps_if (PW.pt (pw_and (pt_cmpR op_ne (pv 3) pe_str (nomark _)) (pw_and1 (pt_not (pt_val (pe_cal c_is_name (Room.mono hr (by omega)) (by rfl) (pa_cons (pv 4) pa_nil)))))))
        (pss_one (ps_raise rfl (takes_of rfl rfl rfl rfl) (pmk_own PySem.F.excBase_ValueError XB.x XB.g XB.k (raises_own XB.b XB.t) rfl)))
        pss_nil)
      (pss_one (ps_ret (pe_tup (pa_cons (pv 4) (pa_cons (pe_op op_mul (pv 1) (pe_calX x_read_integer (Room.mono hr (by omega)) (by rfl) (takes_of rfl rfl rfl rfl) (pa_cons (pv 2) pa_nil))) pa_nil)))))))), ?_⟩
    have part := star_cases T
    tm_at "go"
    refine fun p np => ?_
    have s0 : ∀ o, Same H (upd H p o) := fun o => same_new np
    rcases part with ep | ⟨x, y, hx, hy, ep⟩
    · rw [ep]
      tm_at "go"
      refine ⟨by show T.length ≤ 1000; omega, fun H1 s1 => ?_⟩
      have s01 := (s0 _).trans s1
      by_cases hn : isN T = true
      · have e1 : isN (T, Str.empty, Str.empty).1 = true := hn
        rw [e1]
        tm_at "go"
        refine fun t nt => ?_
        exact q _ _ _ _ (.inr ⟨hn, by omega⟩) hs1 (Same.upd s01 (s01.free nt)) (pD_of (SqT.of upd_same))
      · have e1 : isN (T, Str.empty, Str.empty).1 = false := eq_false_of_ne_true hn
        rw [e1]
        tm_at "go"
        refine ⟨fun n H2 hn2 s2 => ?_, fun H2 s2 => qe _ (s01.trans s2)⟩
        refine ⟨_, _, rfl, rfl, hmul _, ?_⟩
        tm_at "go"
        refine fun t nt => ?_
        exact q _ _ _ _ (.inl rfl) (hsb _ hn2) (Same.upd (s01.trans s2) ((s01.trans s2).free nt)) (pD_of (SqT.of upd_same))
    · rw [ep]
      tm_at "go"
      refine ⟨by show y.length ≤ 1000; omega, fun H1 s1 => ?_⟩
      have s01 := (s0 _).trans s1
      by_cases hn : isN y = true
      · have e1 : isN (x, S "*", y).2.2 = true := hn
        rw [e1]
        tm_at "go"
        refine ⟨by show x.length ≤ 56; omega, fun n H2 hn2 s2 => ?_, fun H2 s2 => qe _ (s01.trans s2)⟩
        refine ⟨_, _, rfl, rfl, hmul _, ?_⟩
        tm_at "go"
        refine fun t nt => ?_
        exact q _ _ _ _ (.inr ⟨hn, by show y.length ≤ 100; omega⟩) (hsb _ hn2) (Same.upd (s01.trans s2) ((s01.trans s2).free nt)) (pD_of (SqT.of upd_same))
      · have e1 : isN (x, S "*", y).2.2 = false := eq_false_of_ne_true hn
        rw [e1]
        tm_at "go"
        exact qe _ s01
end
end C
set_option Elab.async false
set_option linter.all false
set_option pp.maxSteps 1500
set_option maxRecDepth 100000
set_option maxHeartbeats 4000000
namespace C
open PySem PySem.Spec PyProof.Rows L2 Kx M TL
local macro_rules | `(tactic| tm_at "same") => `(tactic| first
  | assumption
  | exact L2.Same.refl _
  | exact L2.Same.upd (by tm_at "same") (by tm_at "free")
  | exact sameTransR (by assumption) (by tm_at "same"))
local macro_rules | `(tactic| tm_at "free") => `(tactic| first
  | assumption
  | exact sameFreeR (by assumption) (by tm_at "same"))
local macro_rules | `(tactic| tm_at "but") => `(tactic| first
  | assumption
  | exact But.refl _ _
  | exact But.transR (by assumption) (by tm_at "but")
  | exact But.upd
  | exact But.self (by tm_at "but")
  | exact But.new1 (by tm_at "but") (by assumption)
  | exact But.new (by tm_at "but") (by tm_at "free")
  | exact L2.Same.but (by assumption) _)
local macro_rules | `(tactic| tm_at "fact") => `(tactic| first
  | exact upd_same
  | assumption
  | exact SqL.of upd_same
  | exact SqT.of upd_same
  | exact SqL.of (by assumption)
  | exact SqT.of (by assumption)
  | exact But.lstR (by assumption) (by assumption) (by tm_at "but"))
local macro_rules | `(tactic| tm_at "cond") => `(tactic| first
  | rfl
  | assumption
  | decide
  | omega
  | exact ⟨by decide, by decide⟩
  | exact .inr ⟨by decide, by decide⟩
  | exact .inl ⟨by decide, by decide⟩
  | exact ⟨by decide, by decide, by decide⟩
  | exact cdivw (by assumption) (by assumption)
  | exact log2_ok (by assumption)
  | exact Or.inl ⟨rfl, _, SqL.of upd_same⟩
  | exact Or.inl ⟨rfl, _, SqL.of (by assumption)⟩
  | exact ⟨_, rfl⟩
  | exact Nat.le_of_ble_eq_true rfl
  | exact small1000 (by omega))
local macro_rules | `(tactic| tm_at "prop") => `(tactic| first
  | assumption
  | omega)
local macro_rules | `(tactic| tm_at "s") => `(tactic| first
  | refine ⟨_, rfl, ?_⟩
  | refine ⟨_, _, rfl, rfl, ?_⟩
  | refine ⟨_, _, _, rfl, rfl, (by tm_at "fact"), (by tm_at "cond"), ?_⟩
  | refine ⟨_, _, _, _, rfl, rfl, (by tm_at "fact"), rfl, ?_⟩
  | refine ⟨_, _, rfl, (by tm_at "fact"), ?_⟩
  | refine And.intro (by tm_at "cond") ?_
  | refine .inl ⟨_, rfl, ?_⟩
  | refine ⟨_, _, rfl, .inl (by tm_at "fact"), ?_⟩
  | refine dec_false (by tm_at "prop") ?_
  | refine dec_true (by tm_at "prop") ?_
  | refine decN_false (by tm_at "prop") ?_
  | refine decN_true (by tm_at "prop") ?_
  | refine iteT ?_
  | refine iteF ?_
  | refine ⟨_, _, rfl, ?_⟩)
local macro_rules | `(tactic| tm_at "go") => `(tactic| repeat tm_at "s")

section
variable {P : Program} {w : World} {K : PySem.W.Frag} {mg : Str → Option Value} {base : Heap} {aH aR : Addr}
/-! ### read_form of a text that is no written form -/
theorem fok_tms2 {c : Int} {ps : List (Str × Int)} {ys : List Str} (hc : c.natAbs ≤ 40 * 10 ^ 56) (hp : ∀ p ∈ ps, NameOk p.1 ∧ p.2.natAbs ≤ 10 ^ 56) (hl : ps.length ≤ 40) (hy : ys.Perm ((totals ps).map (·.1))) (hs : ys.Pairwise sLe) : FOk (c, tms ps ys) := by
  have n60 : (10 : Nat) ^ 60 = 10000 * 10 ^ 56 := by decide
  have hn : ys.Nodup := hy.nodup_iff.mpr (totals_nodup ps)
  have mem : ∀ p ∈ tms ps ys, p.1 ∈ ys ∧ p.2 = look (totals ps) p.1 ∧ p.2 ≠ 0 := by
    intro p h
    unfold tms at h
    obtain ⟨h1, h2⟩ := List.mem_filter.mp h
    obtain ⟨n, h3, rfl⟩ := List.mem_map.mp h1
    refine ⟨h3, rfl, fun e => ?_⟩
    unfold nzp at h2
    rw [decide_eq_true e] at h2
    exact absurd h2 (by decide)
  have p56 : 0 < (10 : Nat) ^ 56 := by decide
  refine ⟨fun p h => ?_, fun p h => (mem p h).2.2, fun p h => ?_, ?_, ?_, ?_⟩
  · have h1 := hy.subset (mem p h).1
    rcases tot_keys ps [] _ h1 with z | z
    · cases z
    · obtain ⟨q, h2, h3⟩ := List.mem_map.mp z
      rw [← h3]
      exact (hp q h2).1
  · rw [(mem p h).2.1]
    have := look_tot (b := 10 ^ 56) p.1 ps [] fun q h => (hp q h).2
    show (look (ps.foldl addP []) p.1).natAbs < _
    have e : (look [] p.1).natAbs = 0 := rfl
    rw [e] at this
    have h5 : ps.length * 10 ^ 56 ≤ 40 * 10 ^ 56 := Nat.mul_le_mul_right _ hl
    rw [n60]
    generalize (10 : Nat) ^ 56 = Z at *
    omega
  · have e : (tms ps ys).map (·.1) = ys.filter fun n => nzp (n, look (totals ps) n) := by
      unfold tms
      rw [List.filter_map, List.map_map]
      show List.map (fun n => n) _ = _
      rw [List.map_id']
      rfl
    show ((tms ps ys).map (·.1)).Pairwise sLt
    rw [e]
    exact (le_lt hs hn).filter _
  · show c.natAbs < _
    rw [n60]
    generalize (10 : Nat) ^ 56 = Z at *
    omega
  · show (tms ps ys).length ≤ 50
    have h1 : (tms ps ys).length ≤ ys.length := by
      unfold tms
      refine Nat.le_trans (List.length_filter_le _ _) ?_
      rw [List.length_map]
      exact Nat.le_refl _
    have h2 := hy.length_eq
    rw [List.length_map] at h2
    have h3 := totals_len ps
    omega
theorem sum_abs {b : Nat} : ∀ l : List Int, (∀ z ∈ l, z.natAbs ≤ b) → l.sum.natAbs ≤ l.length * b
  | [], _ => by simp
  | z :: r, h => by
    have h1 := h z (List.mem_cons_self ..)
    have h2 := sum_abs r fun y hy => h y (List.mem_cons_of_mem _ hy)
    rw [List.sum_cons, List.length_cons, Nat.add_mul]
    omega
def TOk (p : Str × Int) : Prop := (p.1 = Str.empty ∨ NameOk p.1) ∧ p.2.natAbs < 10 ^ 56
def spReadFormX (K : PySem.W.Frag) (cBT : Addr) : Sp := fun vs H Q E => ∃ (T : Str) (WS : List Str), vs = [.str T] ∧ T.length ≤ 5000 ∧ Txt.split T (S " ") = WS ∧ WS ≠ [] ∧ WS.length ≤ 39 ∧ (∀ w ∈ WS, w.length ≤ 56) ∧ (∀ f, FOk f → wr f ≠ T) ∧ ∀ H', Same H H' → E (.ref cBT) none H'
theorem okx_read_form {k : Nat} {cBT : Addr} (D : Def K mg "read_form" "read_form" s_read_form ["text"]) (B : Bi mg) (XB : XT K mg "BadText" cBT) (x_read_term : Cal P w K mg base (L2.CX P w) k "read_term" ["text", "sign"] (spReadTermX K cBT))
    (c_form : Cal P w K mg base CX0 k "form" ["constant", "pairs"] (spForm K)) (c_write_form : Cal P w K mg base CX0 k "write_form" ["f"] (spWriteForm K)) : Cal P w K mg base (L2.CX P w) (k + 1) "read_form" ["text"] (spReadFormX K cBT) := by
  refine D.cal fun f fd F => F.okX sc_read_form (fun vs H Q E h => ?_) (fun cdv A outer s H vs Q E hr h => ?_)
  · obtain ⟨g, _, rfl, _⟩ := h
    rfl
  · obtain ⟨T, WS, rfl, hT, hsplit, hne, hwl, hw, hno, qe⟩ := h
    have nd := sc_read_form.nd
    have hbig : (20000 : Nat) ≤ sizeLine := by decide
    obtain ⟨w0, rest, eW⟩ := List.exists_cons_of_ne_nil hne
    have hw0 : w0.length ≤ 56 := hw w0 (by rw [eW]; exact List.mem_cons_self ..)
    refine ⟨_, (pss_cons (ps_set (i := 1) nd rfl (Or.inl rfl) (pe_split (pv 0) pe_str))
      (pss_cons (ps_set (i := 2) nd rfl (Or.inl rfl) (pe_ix ix_list (pv 1) pe_int (fun _ _ => rfl)))
      (pss_cons (ps_set (i := 3) nd rfl (Or.inl rfl) pe_int)
      (C8.pss_cut (ps_if (pt_cmpR op_eq (pe_slice sl_str (pv 2) po_none (po_some pe_int)) pe_str (nomark _))
        (pss_cons (ps_set (i := 3) nd rfl (Or.inl rfl) (pe_un un_neg pe_int))
        (pss_one (ps_set (i := 2) nd rfl (Or.inl rfl) (pe_slice sl_str (pv 2) (po_some pe_int) po_none))))
        pss_nil)
      (pss_cons (ps_set (i := 4) nd rfl (Or.inl rfl) (pe_lst (pa_cons (pe_calX x_read_term (Room.mono hr (by omega)) (by rfl) (takes_of rfl rfl rfl rfl) (pa_cons (pv 2) (pa_cons (pv 3) pa_nil))) pa_nil)))
      (pss_cons (ps_if (pt_cmpR op_eq (pe_op op_mod (pe_callB call_len_seq (by rfl) B.len (by decide +kernel) (pa_cons (pv 1) pa_nil)) pe_int) pe_int (nomark _))
        (pss_one (ps_raise rfl (takes_of rfl rfl rfl rfl) (pmk_own PySem.F.excBase_ValueError XB.x XB.g XB.k (raises_own XB.b XB.t) rfl)))
        pss_nil)
      (pss_cons (ps_for (passes_of rfl) rfl (pi_range3 (by rfl) B.range (pa_cons pe_int (pa_cons (pe_callB call_len_seq (by rfl) B.len (by decide +kernel) (pa_cons (pv 1) pa_nil)) (pa_cons pe_int pa_nil)))) (pg_name (i := 5) nd rfl (Or.inl rfl))
        (pss_cons (ps_if (pt_cmpR op_notIn_seq (pe_ix ix_list (pv 1) (pv 5) (fun _ _ => rfl)) (pe_tup (pa_cons pe_str (pa_cons pe_str pa_nil))) (by rfl))
          (pss_one (ps_raise rfl (takes_of rfl rfl rfl rfl) (pmk_own PySem.F.excBase_ValueError XB.x XB.g XB.k (raises_own XB.b XB.t) rfl)))
          pss_nil)
        (pss_one (ps_expr (pe_bm PySem.F.plainAttrs_list PySem.F.slot_list_append PySem.F.type_list_append mt_append (pv 4) (pa_cons (pe_calX x_read_term (Room.mono hr (by omega)) (by rfl) (takes_of rfl rfl rfl rfl) (pa_cons (pe_ix ix_list (pv 1) (pe_op op_add (pv 5) pe_int) (fun _ _ => rfl)) (pa_cons (pe_ifExp (pt_cmpR op_eq (pe_ix ix_list (pv 1) (pv 5) (fun _ _ => rfl)) pe_str (nomark _)) pe_int (pe_un un_neg pe_int)) pa_nil))) pa_nil))))))
      (pss_cons (ps_set (i := 6) nd rfl (Or.inl rfl) (pe_cal c_form (Room.mono hr (by omega)) (by rfl) (pa_cons (pe_callB (cr_sum rfl) (by rfl) B.sum (by decide +kernel) (pa_cons (pe_lc (own := [("name", 7), ("number", 8)]) (by rfl) nd (pi_list (pv 4)) (blkOk_by (own := [("name", 7), ("number", 8)]) (N := ["text", "words", "first", "sign", "pairs", "k", "found", "name", "number", "pair"]) (sc := defScope s_read_form) (by decide +kernel)) (fun _ _ _ _ _ => (pg_tupK (K := K) (n := 2) rfl rfl (pgs_cons (pg_name (i := 7) nd rfl (Or.inl rfl)) (pgs_cons (pg_name (i := 8) nd rfl (Or.inl rfl)) pgs_nil)))) (fun _ _ _ _ _ => (pts_one (pt_cmpR op_eq (pv 7) pe_str (nomark _)))) (fun _ _ _ _ _ => (pv 8))) pa_nil)) (pa_cons (pe_lc (own := [("pair", 9)]) (by rfl) nd (pi_list (pv 4)) (blkOk_by (own := [("pair", 9)]) (N := ["text", "words", "first", "sign", "pairs", "k", "found", "name", "number", "pair"]) (sc := defScope s_read_form) (by decide +kernel)) (fun _ _ _ _ _ => (pg_name (i := 9) nd rfl (Or.inl rfl))) (fun _ _ _ _ _ => (pts_one (pt_cmpR op_ne (pe_ix (ix_tupK (K := K) rfl) (pv 9) pe_int (fun _ _ => rfl)) pe_str (nomark _)))) (fun _ _ _ _ _ => (pv 9))) pa_nil))))
      (pss_cons (ps_if (pt_cmpR op_ne (pe_cal c_write_form (Room.mono hr (by omega)) (by rfl) (pa_cons (pv 6) pa_nil)) (pv 0) (nomark _))
        (pss_one (ps_raise rfl (takes_of rfl rfl rfl rfl) (pmk_own PySem.F.excBase_ValueError XB.x XB.g XB.k (raises_own XB.b XB.t) rfl)))
        pss_nil)
      (pss_one (ps_ret (pv 6)))))))))))), ?_⟩
    tm_at "go"
    refine fun lw nlw => ?_
    have e1 : Txt.split T (Str.ofString " ") = WS := hsplit
    rw [e1]
    have s0 : Same H (upd H lw (.lst (WS.map V.str))) := same_new nlw
    have hlw0 : upd H lw (.lst (WS.map V.str)) lw = some (.lst (WS.map V.str)) := upd_same
    generalize upd H lw (.lst (WS.map V.str)) = H1 at s0 hlw0 ⊢
    tm_at "go"
    refine ⟨_, _, _, V.str w0, rfl, rfl, SqL.of hlw0, atI_nat (j := 0) (by rw [eW]; rfl), ?_⟩
    have hw0s : w0.length ≤ sizeLine := by omega
    refine ⟨fun σ H2 => Bx (∃ T0 SG, σ = [some (.str T), some (.ref lw), some (.str T0), some (.int SG), none, none, none, none, none, none] ∧ T0.length ≤ 56 ∧ (SG = 1 ∨ SG = -1) ∧ H2 = H1), ?_, ?_⟩
    · by_cases hz : V.str (cutS w0 none (some 1)) = V.str (S "-")
      · tm_at "go"
        refine .mk ⟨_, _, rfl, ?_, .inr rfl, rfl⟩
        have e1 : tl (cutS w0 (some 1) none) = (tl w0).drop 1 := cut_from w0 1
        rw [len_tl, e1, List.length_drop, ← len_tl]
        omega
      · tm_at "go"
        exact .mk ⟨_, _, rfl, hw0, .inl rfl, rfl⟩
    · rintro σ H2 bx
      obtain ⟨T0, SG, rfl, hT0, hSG, rfl⟩ := bx.out
      tm_at "go"
      refine ⟨fun nm0 a0 r0 H2 hnm0 ha0 s2 im0 => ?_, fun H2 s2 => qe _ (s0.trans s2)⟩
      tm_at "go"
      refine fun lp nlp => ?_
      have s3 : Same H H2 := s0.trans s2
      have s4 : Same H (upd H2 lp (.lst [r0])) := s3.upd (s3.free nlp)
      have hlw2 : H2 lw = some (.lst (WS.map V.str)) := s2 _ _ hlw0
      have nlwp : lw ≠ lp := ne_of_none hlw2 nlp
      have hlw : (upd H2 lp (.lst [r0])) lw = some (.lst (WS.map V.str)) := by
        rw [upd_ne nlwp]
        exact hlw2
      have hlp : (upd H2 lp (.lst [r0])) lp = some (.lst [r0]) := upd_same
      have him : Ims K (upd H2 lp (.lst [r0])) [r0] ([(nm0, a0)].map pD) := .cons ((TK.new nlp).im im0) .nil
      have hnlp : H lp = none := s3.free nlp
      generalize upd H2 lp (.lst [r0]) = H3 at s4 hlw hlp him ⊢
      have hWl : (WS.map V.str).length = WS.length := List.length_map ..
      by_cases hev : V.int (((WS.map V.str).length : Int) % 2) = V.int 0
      · tm_at "go"
        exact qe _ s4
      · have hodd : WS.length % 2 = 1 := by
          rw [hWl] at hev
          have : ¬ ((WS.length : Int) % 2) = 0 := fun z => hev (congrArg V.int z)
          omega
        tm_at "go"
        refine ⟨_, _, _, WS.length / 2, rfl, rg_odd (by rw [hWl]; omega) (by omega), ?_⟩
        refine for_it walk_rangeC (fun i σ H' => Bx (∃ (v : Option V) (vs : List V) (ps : List (Str × Int)), σ = [some (.str T), some (.ref lw), some (.str T0), some (.int SG), some (.ref lp), v, none, none, none, none] ∧ Same H H' ∧ H' lw = some (.lst (WS.map V.str)) ∧ H' lp = some (.lst vs) ∧ Ims K H' vs (ps.map pD) ∧ ps.length = i + 1 ∧ ∀ p ∈ ps, TOk p))
          (.mk ⟨_, _, [(nm0, a0)], rfl, s4, hlw, hlp, him, rfl, fun p hp => by rw [List.mem_singleton.mp hp]; exact ⟨hnm0, ha0⟩⟩) (fun _ _ _ _ _ => trivial) ?_ ?_
        · rintro i v σ H4 H5 hi bx ⟨rfl, rfl⟩
          obtain ⟨v0, vs, ps, rfl, s5, hw5, hp5, im5, hpl, hpo⟩ := bx.out
          have g1 : 2 * i + 1 < WS.length := by omega
          have g2 : 2 * i + 1 + 1 < WS.length := by omega
          have a1 : atI (WS.map V.str) (1 + ((i : Nat) : Int) * 2) = some (V.str WS[2 * i + 1]) := at_of (j := 2 * i + 1) (by omega) (by
            rw [List.getElem?_map, List.getElem?_eq_getElem g1]
            rfl)
          have a2 : atI (WS.map V.str) (1 + ((i : Nat) : Int) * 2 + 1) = some (V.str WS[2 * i + 1 + 1]) := at_of (j := 2 * i + 1 + 1) (by omega) (by
            rw [List.getElem?_map, List.getElem?_eq_getElem g2]
            rfl)
          have hx2 := hw _ (List.getElem_mem g2)
          generalize WS[2 * i + 1] = y1 at a1
          generalize WS[2 * i + 1 + 1] = y2 at a2 hx2
          have hvl := im5.length
          rw [List.length_map] at hvl
          refine ⟨_, rfl, _, rfl, _, _, _, _, rfl, rfl, SqL.of hw5, a1, ?_⟩
          tm_at "go"
          refine fun t nt => ⟨t, _, rfl, .inr (SqT.of upd_same), rfl, rfl, ?_⟩
          have s6 : Same H5 (upd H5 t (.tup [V.str (S "+"), V.str (S "-")])) := same_new nt
          have hw6 := s6 _ _ hw5
          have hp6 := s6 _ _ hp5
          generalize upd H5 t (.tup [V.str (S "+"), V.str (S "-")]) = H6 at s6 hw6 hp6 ⊢
          refine ⟨_, rfl, ?_⟩
          show if (!L2.inV (V.str y1) [V.str (S "+"), V.str (S "-")]) = true then _ else _
          cases hin : L2.inV (V.str y1) [V.str (S "+"), V.str (S "-")] with
          | false =>
            refine iteT ?_
            exact qe _ (s5.trans s6)
          | true =>
            refine iteF ?_
            refine ⟨_, rfl, .inl ⟨rfl, _, SqL.of hp6⟩, ?_⟩
            refine ⟨_, rfl, _, rfl, _, _, rfl, rfl, _, _, _, _, rfl, rfl, SqL.of hw6, a2, ?_⟩
            refine ⟨_, rfl, _, rfl, _, _, _, _, rfl, rfl, SqL.of hw6, a1, ?_⟩
            refine ⟨rfl, _, rfl, ?_⟩
            show if decide (V.str y1 = V.str (S "+")) = true then _ else _
            have fin : ∀ (nm : Str) (a : Int) (r : V) (H' : Hp), (nm = Str.empty ∨ NameOk nm) → a.natAbs < 10 ^ 56 → Same H6 H' → Im K H' r (pD (nm, a)) →
                ∃ l xs y, V.ref lp = .ref l ∧ [r] = [y] ∧ H' l = some (.lst xs) ∧ xs.length < sizeLine ∧ Bx (∃ (v : Option V) (vs : List V) (ps : List (Str × Int)), [some (V.str T), some (.ref lw), some (.str T0), some (.int SG), some (.ref lp), some (.int (1 + ((i : Nat) : Int) * 2)), none, none, none, none] = [some (.str T), some (.ref lw), some (.str T0), some (.int SG), some (.ref lp), v, none, none, none, none] ∧
                  Same H (upd H' l (.lst (xs ++ [y]))) ∧ (upd H' l (.lst (xs ++ [y]))) lw = some (.lst (WS.map V.str)) ∧ (upd H' l (.lst (xs ++ [y]))) lp = some (.lst vs) ∧ Ims K (upd H' l (.lst (xs ++ [y]))) vs (ps.map pD) ∧ ps.length = i + 1 + 1 ∧ ∀ p ∈ ps, TOk p) := fun nm a r H' hnm ha sr imr => by
              have hp7 : H' lp = some (.lst vs) := sr _ _ hp6
              refine ⟨lp, vs, r, rfl, rfl, hp7, small1000 (by omega), .mk ⟨_, vs ++ [r], ps ++ [(nm, a)], rfl, ?_, ?_, upd_same, ?_, by rw [List.length_append, hpl]; rfl, fun p hp => ?_⟩⟩
              · exact ((s5.trans s6).trans sr).upd hnlp
              · rw [upd_ne nlwp]
                exact sr _ _ hw6
              · rw [List.map_append]
                exact (TK.lst hp7).ims (Ims.snoc (sr.tk.ims (s6.tk.ims im5)) imr)
              · rcases List.mem_append.mp hp with z | z
                · exact hpo p z
                · rw [List.mem_singleton.mp z]
                  exact ⟨hnm, ha⟩
            by_cases hpl2 : V.str y1 = V.str (S "+")
            · rw [decide_eq_true hpl2]
              refine iteT ?_
              exact ⟨y2, 1, rfl, hx2, .inl rfl, fin, fun H7 s7 => qe _ ((s5.trans s6).trans s7)⟩
            · rw [decide_eq_false hpl2]
              refine iteF ?_
              exact ⟨1, rfl, y2, -1, rfl, hx2, .inr rfl, fin, fun H7 s7 => qe _ ((s5.trans s6).trans s7)⟩
        · rintro σ H4 bx
          obtain ⟨v0, vs, ps, rfl, s5, hw5, hp5, im5, hpl, hpo⟩ := bx.out
          have hpl2 : ps.length ≤ 39 := by omega
          tm_at "go"
          have hvl := im5.length
          rw [List.length_map] at hvl
          refine ⟨⟨_, SqL.of hp5⟩, fun D nD => ?_⟩
          refine lc_it walk_list (fun i H' => Same H4 H' ∧ H' D = some (.lst ((((ps.take i).filter fun p => decide (p.1 = Str.empty)).map (·.2)).map V.int))) ⟨same_new nD, upd_same⟩ (fun i H' _ ⟨s, _⟩ => SqL.of (s _ _ hp5)) ?_ ?_
          · rintro i v Hx Hy hlt ⟨sx, hDx⟩ ⟨rfl, hv⟩
            obtain ⟨p, hp, hpi⟩ := ims_at im5 hv
            obtain ⟨t, rfl, ht⟩ := pD_inv (sx.tk.im hpi)
            have hbl : ((((ps.take i).filter fun p => decide (p.1 = Str.empty)).map (·.2)).map V.int).length < sizeLine := by
              rw [List.length_map, List.length_map]
              have h1 := List.length_filter_le (fun p : Str × Int => decide (p.1 = Str.empty)) (ps.take i)
              rw [List.length_take] at h1
              exact small1000 (by omega)
            refine ⟨t, _, rfl, ht, rfl, _, _, rfl, _, _, rfl, rfl, rfl, ?_⟩
            tm_at "go"
            refine ite2 (fun c => ?_) (fun c => ?_)
            · have c1 : p.1 = Str.empty := V.str.inj (of_decide_eq_true (show decide (V.str p.1 = V.str Str.empty) = true from c))
              tm_at "go"
              refine ⟨_, hDx, hbl, sx.upd nD, ?_⟩
              rw [upd_same, take_snoc hp, List.filter_append, List.map_append, List.map_append]
              have : [p].filter (fun p => decide (p.1 = Str.empty)) = [p] := List.filter_cons_of_pos (decide_eq_true c1)
              rw [this]
              rfl
            · have c1 : ¬ p.1 = Str.empty := fun z => c (decide_eq_true (congrArg V.str z))
              refine ⟨sx, ?_⟩
              rw [hDx, take_snoc hp, List.filter_append]
              have : [p].filter (fun p => decide (p.1 = Str.empty)) = [] := List.filter_cons_of_neg (by rw [decide_eq_false c1]; exact Bool.false_ne_true)
              rw [this, List.append_nil]
          · rintro H5 ⟨s6, hD⟩
            rw [hvl, List.take_of_length_le (Nat.le_refl _)] at hD
            have hp6 : H5 lp = some (.lst vs) := s6 _ _ hp5
            refine ⟨D, _, rfl, SqL.of hD, ?_⟩
            have hsum : (((ps.filter fun p : Str × Int => decide (p.1 = Str.empty)).map (fun p : Str × Int => p.2)).sum).natAbs ≤ 40 * 10 ^ 56 := by
              have h1 := sum_abs (b := 10 ^ 56) ((ps.filter fun p : Str × Int => decide (p.1 = Str.empty)).map (fun p : Str × Int => p.2)) fun z hz => by
                obtain ⟨p, hp, rfl⟩ := List.mem_map.mp hz
                exact Nat.le_of_lt (hpo p (List.mem_filter.mp hp).1).2
              rw [List.length_map] at h1
              have h2 := List.length_filter_le (fun p : Str × Int => decide (p.1 = Str.empty)) ps
              have h3 : (ps.filter fun p : Str × Int => decide (p.1 = Str.empty)).length ≤ 40 := by omega
              exact Nat.le_trans h1 (Nat.mul_le_mul_right _ h3)
            generalize ((ps.filter fun p : Str × Int => decide (p.1 = Str.empty)).map (fun p : Str × Int => p.2)).sum = CS at hsum ⊢
            refine ⟨_, rfl, lp, rfl, ⟨_, SqL.of hp6⟩, fun D2 nD2 => ?_⟩
            refine lc_it walk_list (fun i H' => Same H5 H' ∧ ∃ ws, H' D2 = some (.lst ws) ∧ ws.length ≤ i ∧ Ims K H' ws (((ps.take i).filter fun p => !decide (p.1 = Str.empty)).map pD)) ⟨same_new nD2, [], upd_same, Nat.le_refl _, .nil⟩ (fun i H' _ ⟨s, _⟩ => SqL.of (s _ _ hp6)) ?_ ?_
            · rintro i v Hx Hy hlt ⟨sx, ws, hDx, hwl2, imx⟩ ⟨rfl, hv⟩
              obtain ⟨p, hp, hpi⟩ := ims_at im5 hv
              obtain ⟨t, rfl, ht⟩ := pD_inv (sx.tk.im (s6.tk.im hpi))
              refine ⟨rfl, ?_⟩
              refine ⟨_, rfl, _, _, _, _, rfl, rfl, ht, atI_nat (j := 0) rfl, ?_⟩
              refine ⟨rfl, _, rfl, ?_⟩
              show if (!decide (V.str p.1 = V.str Str.empty)) = true then _ else _
              by_cases c1 : p.1 = Str.empty
              · rw [decide_eq_true (congrArg V.str c1)]
                refine iteF ⟨sx, ws, hDx, by omega, ?_⟩
                rw [take_snoc hp, List.filter_append]
                have : [p].filter (fun p => !decide (p.1 = Str.empty)) = [] := List.filter_cons_of_neg (by rw [decide_eq_true c1]; exact Bool.false_ne_true)
                rw [this, List.append_nil]
                exact imx
              · rw [decide_eq_false (fun z => c1 (V.str.inj z))]
                refine iteT ?_
                refine ⟨_, rfl, ws, hDx, small1000 (by omega), sx.upd nD2, _, upd_same, ?_, ?_⟩
                · rw [List.length_append]
                  show ws.length + 1 ≤ i + 1
                  omega
                · rw [take_snoc hp, List.filter_append, List.map_append]
                  have : [p].filter (fun p => !decide (p.1 = Str.empty)) = [p] := List.filter_cons_of_pos (by rw [decide_eq_false c1]; rfl)
                  rw [this]
                  exact (TK.lst hDx).ims (Ims.snoc imx (pD_of ht))
            · rintro H6 ⟨s7, ws, hD2, hwl2, imx⟩
              rw [hvl, List.take_of_length_le (Nat.le_refl _)] at imx
              have hfl := List.length_filter_le (fun p : Str × Int => !decide (p.1 = Str.empty)) ps
              have hfo : ∀ p ∈ ps.filter (fun p => !decide (p.1 = Str.empty)), NameOk p.1 ∧ p.2.natAbs ≤ 10 ^ 56 := fun p hp => by
                obtain ⟨h1, h2⟩ := List.mem_filter.mp hp
                have h3 := hpo p h1
                refine ⟨?_, Nat.le_of_lt h3.2⟩
                rcases h3.1 with z | z
                · rw [decide_eq_true z] at h2
                  cases h2
                · exact z
              generalize ps.filter (fun p => !decide (p.1 = Str.empty)) = qs at imx hfl hfo
              refine ⟨CS, D2, ws, qs, rfl, SqL.of hD2, imx, by omega, fun r H7 ys py sy s8 imr => ?_⟩
              have hfok := fok_tms2 hsum hfo (by omega) py sy
              have s9 : Same H H7 := ((s5.trans s6).trans s7).trans s8
              tm_at "go"
              refine fun H8 s10 => ?_
              refine ⟨_, rfl, rfl, _, rfl, ?_⟩
              refine decN_true (fun z => hno _ hfok (V.str.inj z)) ?_
              exact qe _ (s9.trans s10)
end
end C
set_option Elab.async false
set_option linter.all false
set_option pp.maxSteps 1500
set_option maxRecDepth 100000
set_option maxHeartbeats 4000000
namespace C
open PySem PySem.Spec PyProof.Rows L2 Kx M TL
local macro_rules | `(tactic| tm_at "same") => `(tactic| first
  | assumption
  | exact L2.Same.refl _
  | exact L2.Same.upd (by tm_at "same") (by tm_at "free")
  | exact sameTransR (by assumption) (by tm_at "same"))
local macro_rules | `(tactic| tm_at "free") => `(tactic| first
  | assumption
  | exact sameFreeR (by assumption) (by tm_at "same"))
local macro_rules | `(tactic| tm_at "but") => `(tactic| first
  | assumption
  | exact But.refl _ _
  | exact But.transR (by assumption) (by tm_at "but")
  | exact But.upd
  | exact But.self (by tm_at "but")
  | exact But.new1 (by tm_at "but") (by assumption)
  | exact But.new (by tm_at "but") (by tm_at "free")
  | exact L2.Same.but (by assumption) _)
local macro_rules | `(tactic| tm_at "fact") => `(tactic| first
  | exact upd_same
  | assumption
  | exact SqL.of upd_same
  | exact SqT.of upd_same
  | exact SqL.of (by assumption)
  | exact SqT.of (by assumption)
  | exact But.lstR (by assumption) (by assumption) (by tm_at "but"))
local macro_rules | `(tactic| tm_at "cond") => `(tactic| first
  | rfl
  | assumption
  | decide
  | omega
  | exact ⟨by decide, by decide⟩
  | exact .inr ⟨by decide, by decide⟩
  | exact .inl ⟨by decide, by decide⟩
  | exact ⟨by decide, by decide, by decide⟩
  | exact cdivw (by assumption) (by assumption)
  | exact log2_ok (by assumption)
  | exact Or.inl ⟨rfl, _, SqL.of upd_same⟩
  | exact Or.inl ⟨rfl, _, SqL.of (by assumption)⟩
  | exact ⟨_, rfl⟩
  | exact Nat.le_of_ble_eq_true rfl
  | exact small1000 (by omega))
local macro_rules | `(tactic| tm_at "prop") => `(tactic| first
  | assumption
  | omega)
local macro_rules | `(tactic| tm_at "s") => `(tactic| first
  | refine ⟨_, rfl, ?_⟩
  | refine ⟨_, _, rfl, rfl, ?_⟩
  | refine ⟨_, _, _, rfl, rfl, (by tm_at "fact"), (by tm_at "cond"), ?_⟩
  | refine ⟨_, _, _, _, rfl, rfl, (by tm_at "fact"), rfl, ?_⟩
  | refine ⟨_, _, rfl, (by tm_at "fact"), ?_⟩
  | refine And.intro (by tm_at "cond") ?_
  | refine .inl ⟨_, rfl, ?_⟩
  | refine ⟨_, _, rfl, .inl (by tm_at "fact"), ?_⟩
  | refine dec_false (by tm_at "prop") ?_
  | refine dec_true (by tm_at "prop") ?_
  | refine decN_false (by tm_at "prop") ?_
  | refine decN_true (by tm_at "prop") ?_
  | refine iteT ?_
  | refine iteF ?_
  | refine ⟨_, _, rfl, ?_⟩)
local macro_rules | `(tactic| tm_at "go") => `(tactic| repeat tm_at "s")

section
variable {P : Program} {w : World} {K : PySem.W.Frag} {mg : Str → Option Value} {base : Heap} {aH aR : Addr}
/-! ### one line for the reader, any line -/
open Classical in
/-- the form that some words write -/
noncomputable def prs (ws : List Str) : Option M.Form := if h : ∃ f : M.Form, FOk f ∧ wd f = ws then some h.choose else none
theorem prs_some {ws : List Str} {f : M.Form} (h : prs ws = some f) : FOk f ∧ wd f = ws := by
  unfold prs at h
  split at h
  · rename_i x
    cases h
    exact x.choose_spec
  · cases h
theorem prs_none {ws : List Str} (h : prs ws = none) : ∀ f, FOk f → wd f ≠ ws := fun f hf e => by
  unfold prs at h
  rw [dif_pos ⟨f, hf, e⟩] at h
  cases h
def ix (hd : Str) : Option Nat := heads6.findIdx? (fun z => decide (z = hd))
theorem ix_some {hd : Str} {j : Nat} (h : ix hd = some j) : heads6[j]? = some hd ∧ j < 6 := by
  unfold ix at h
  obtain ⟨hj, h1, _⟩ := List.findIdx?_eq_some_iff_getElem.mp h
  have h2 : heads6[j] = hd := of_decide_eq_true h1
  exact ⟨by rw [List.getElem?_eq_getElem hj, h2], hj⟩
theorem ix_none {hd : Str} (h : ix hd = none) : hd ∉ heads6 := fun hm => by
  unfold ix at h
  have := List.findIdx?_eq_none_iff.mp h hd hm
  rw [decide_eq_true rfl] at this
  cases this
theorem ix_of {hd : Str} (h : hd ∈ heads6) : ∃ j, ix hd = some j := by
  cases e : ix hd with
  | none => exact absurd h (ix_none e)
  | some j => exact ⟨j, rfl⟩
def ruleD : List PyData → Str
  | [.str r] => r
  | _ => S "any"
def finS (s : RS) (a b : Str) : RS := ⟨s.rows ++ [rowD a b (s.cont.getD 0 []) (s.cont.getD 1 []) (s.cont.getD 2 []) (s.cont.getD 3 []) (s.cont.getD 4 []) (ruleD (s.cont.getD 5 []))], none, s.cont, s.stage⟩
def pushS (s : RS) (j : Nat) (d : PyData) : RS := ⟨s.rows, s.names, s.cont.set j (s.cont.getD j [] ++ [d]), (j : Int)⟩
noncomputable def partS (s : RS) (j : Nat) (r : List Str) : Option RS :=
  if (j : Int) < s.stage then none
  else if j = 1 ∨ j = 3 then
    (if r.length = 2 ∧ ((s.cont.getD j []).any fun z => PyData.eqv z (qD (r.getD 0 Str.empty, r.getD 1 Str.empty))) = false then some (pushS s j (qD (r.getD 0 Str.empty, r.getD 1 Str.empty))) else none)
  else if j = 5 then (if Txt.join (S " ") r ∈ rules7 ∧ s.cont.getD 5 [] = [] then some (pushS s j (.str (Txt.join (S " ") r))) else none)
  else (prs r).map fun f => pushS s j (fD f)
noncomputable def step (s : RS) (ws : List Str) : Option RS :=
  match s.names with
  | none => if ws.length = 4 ∧ ws.getD 0 Str.empty = S "claim" ∧ ws.getD 2 Str.empty = S "with" then some ⟨s.rows, some (ws.getD 1 Str.empty, ws.getD 3 Str.empty), List.replicate 6 [], 0⟩ else none
  | some nm => if ws = [S "end"] then some (finS s nm.1 nm.2) else match ws with
    | [] => none
    | hd :: r => (ix hd).bind fun j => partS s j r
structure RSOk (n : Nat) (s : RS) : Prop where
  rows : s.rows.length ≤ n
  nm : NOk s
  six : s.names ≠ none → ∃ (c0 c2 c4 c5 : List PyData) (p1 p3 : List (Str × Str)), s.cont = [c0, p1.map qD, c2, p3.map qD, c4, c5] ∧ (c5 = [] ∨ ∃ r, r ∈ rules7 ∧ c5 = [.str r]) ∧ (c0.length ≤ n ∧ p1.length ≤ n ∧ c2.length ≤ n ∧ p3.length ≤ n ∧ c4.length ≤ n) ∧
    (∀ p ∈ p1, Ok p.1 ∧ Ok p.2) ∧ ∀ p ∈ p3, Ok p.1 ∧ Ok p.2
theorem RSOk.start (n : Nat) : RSOk n s0 := ⟨Nat.zero_le _, fun p e => (by cases e), fun h => absurd rfl h⟩
/-- the words of a line -/
structure LW (ws : List Str) : Prop where
  ok : ∀ x ∈ ws, Clean x ∧ x.length ≤ 56 ∧ Ok x
  le : ws.length ≤ 39
theorem not_mem_of_any {ps : List (Str × Str)} {p : Str × Str} (h : ((ps.map qD).any fun z => PyData.eqv z (qD p)) = false) : p ∉ ps := by
  rw [any_q] at h
  exact of_decide_eq_false h
theorem join_split {r : List Str} (h : ∀ x ∈ r, Clean x) (hn : r ≠ []) : Txt.split (Txt.join (S " ") r) (S " ") = r := split_join (s := 32) (S := []) tl_blank (by decide +kernel) hn fun p hp => (h p hp).no sp32
theorem rules_ne : Txt.join (S " ") [] ∉ rules7 := by decide +kernel
theorem part_ok {n : Nat} {s s' : RS} {hd : Str} {r : List Str} {j : Nat} (hn : n ≤ 100) (h : RSOk n s) (hnm : s.names ≠ none) (hw : LW (hd :: r)) (hj : ix hd = some j) (e : partS s j r = some s') : Prt s (hd :: r) s' ∧ RSOk (n + 1) s' := by
  obtain ⟨h1, h2⟩ := ix_some hj
  obtain ⟨c0, c2, c4, c5, p1, p3, hc, h5, hl, ho1, ho3⟩ := h.six hnm
  unfold partS at e
  split at e
  · cases e
  rename_i hst
  have hst' : s.stage ≤ (j : Int) := by omega
  have hr : ∀ x ∈ r, Clean x ∧ x.length ≤ 56 ∧ Ok x := fun x hx => hw.ok x (List.mem_cons_of_mem _ hx)
  split at e
  · rename_i hj13
    split at e
    · rename_i hc2
      cases e
      obtain ⟨hrl, hdup⟩ := hc2
      obtain ⟨x, y, rfl⟩ : ∃ x y, r = [x, y] := by
        match r, hrl with
        | [x, y], _ => exact ⟨x, y, rfl⟩
      have hox := (hr x (by simp)).2.2
      have hoy := (hr y (by simp)).2.2
      rcases hj13 with rfl | rfl
      · have hd1 : hd = S "same" := by
          have : heads6[1]? = some (S "same") := rfl
          rw [this] at h1
          exact (Option.some.inj h1).symm
        subst hd1
        rw [hc] at hdup
        have hni := not_mem_of_any (show ((p1.map qD).any fun z => PyData.eqv z (qD (x, y))) = false from hdup)
        refine ⟨?_, h.rows |> Nat.le_succ_of_le, h.nm, fun _ => ⟨c0, c2, c4, c5, p1 ++ [(x, y)], p3, ?_, h5, ?_, ?_, ho3⟩⟩
        · have := Prt.pair (s := s) (j := 1) (hd := S "same") (x := x) (y := y) (ps := p1) hnm (.inl ⟨rfl, rfl⟩) hst' (by rw [hc]; rfl) (by omega) hni ⟨hox, hoy⟩ ho1
          have e2 : pushS s 1 (qD (x, y)) = ⟨s.rows, s.names, s.cont.set 1 (p1.map qD ++ [qD (x, y)]), ((1 : Nat) : Int)⟩ := by
            unfold pushS
            rw [hc]
            rfl
          show Prt s [S "same", x, y] (pushS s 1 (qD (x, y)))
          rw [e2]
          exact this
        · show (s.cont.set 1 (s.cont.getD 1 [] ++ [qD (x, y)])) = _
          rw [hc, List.map_append]
          rfl
        · rw [List.length_append, List.length_singleton]
          omega
        · intro p hp
          rcases List.mem_append.mp hp with z | z
          · exact ho1 p z
          · rw [List.mem_singleton.mp z]
            exact ⟨hox, hoy⟩
      · have hd1 : hd = S "keep" := by
          have : heads6[3]? = some (S "keep") := rfl
          rw [this] at h1
          exact (Option.some.inj h1).symm
        subst hd1
        rw [hc] at hdup
        have hni := not_mem_of_any (show ((p3.map qD).any fun z => PyData.eqv z (qD (x, y))) = false from hdup)
        refine ⟨?_, h.rows |> Nat.le_succ_of_le, h.nm, fun _ => ⟨c0, c2, c4, c5, p1, p3 ++ [(x, y)], ?_, h5, ?_, ho1, ?_⟩⟩
        · have := Prt.pair (s := s) (j := 3) (hd := S "keep") (x := x) (y := y) (ps := p3) hnm (.inr ⟨rfl, rfl⟩) hst' (by rw [hc]; rfl) (by omega) hni ⟨hox, hoy⟩ ho3
          have e2 : pushS s 3 (qD (x, y)) = ⟨s.rows, s.names, s.cont.set 3 (p3.map qD ++ [qD (x, y)]), ((3 : Nat) : Int)⟩ := by
            unfold pushS
            rw [hc]
            rfl
          show Prt s [S "keep", x, y] (pushS s 3 (qD (x, y)))
          rw [e2]
          exact this
        · show (s.cont.set 3 (s.cont.getD 3 [] ++ [qD (x, y)])) = _
          rw [hc, List.map_append]
          rfl
        · rw [List.length_append, List.length_singleton]
          omega
        · intro p hp
          rcases List.mem_append.mp hp with z | z
          · exact ho3 p z
          · rw [List.mem_singleton.mp z]
            exact ⟨hox, hoy⟩
    · cases e
  rename_i hn13
  split at e
  · rename_i hj5
    subst hj5
    split at e
    · rename_i hc2
      cases e
      obtain ⟨hru, hemp⟩ := hc2
      have hd1 : hd = S "walk" := by
        have : heads6[5]? = some (S "walk") := rfl
        rw [this] at h1
        exact (Option.some.inj h1).symm
      subst hd1
      have hc5 : c5 = [] := by
        rw [hc] at hemp
        exact hemp
      subst hc5
      have hne : r ≠ [] := fun z => by
        subst z
        exact rules_ne hru
      have hsp := join_split (fun x hx => (hr x hx).1) hne
      refine ⟨?_, h.rows |> Nat.le_succ_of_le, h.nm, fun _ => ⟨c0, c2, c4, [.str (Txt.join (S " ") r)], p1, p3, ?_, .inr ⟨_, hru, rfl⟩, ?_, ho1, ho3⟩⟩
      · have := Prt.walk (s := s) (r := Txt.join (S " ") r) hnm hst' (by rw [hc]; rfl) hru
        rw [hsp] at this
        have e2 : pushS s 5 (.str (Txt.join (S " ") r)) = ⟨s.rows, s.names, s.cont.set 5 ([] ++ [.str (Txt.join (S " ") r)]), (5 : Int)⟩ := by
          unfold pushS
          rw [hc]
          rfl
        rw [e2]
        exact this
      · show (s.cont.set 5 (s.cont.getD 5 [] ++ [.str (Txt.join (S " ") r)])) = _
        rw [hc]
        rfl
      · omega
    · cases e
  · rename_i hn5
    cases hp : prs r with
    | none =>
      rw [hp] at e
      cases e
    | some f =>
      rw [hp] at e
      obtain rfl : pushS s j (fD f) = s' := Option.some.inj e
      obtain ⟨hf, hwd⟩ := prs_some hp
      have hj3 : j = 0 ∨ j = 2 ∨ j = 4 := by omega
      have hee : ∀ ds : List PyData, s.cont[j]? = some ds → pushS s j (fD f) = ⟨s.rows, s.names, s.cont.set j (ds ++ [fD f]), (j : Int)⟩ := fun ds hd => by
        unfold pushS
        rw [List.getD_eq_getElem?_getD, hd]
        rfl
      rcases hj3 with rfl | rfl | rfl
      · have hd1 : hd = S "given" := by
          have : heads6[0]? = some (S "given") := rfl
          rw [this] at h1
          exact (Option.some.inj h1).symm
        subst hd1
        have hc0 : s.cont[0]? = some c0 := by rw [hc]; rfl
        refine ⟨?_, h.rows |> Nat.le_succ_of_le, h.nm, fun _ => ⟨c0 ++ [fD f], c2, c4, c5, p1, p3, ?_, h5, ?_, ho1, ho3⟩⟩
        · rw [hee _ hc0, ← hwd]
          exact Prt.form hnm (.inl ⟨rfl, rfl⟩) hst' hc0 (by omega) hf
        · rw [hee _ hc0, hc]
          rfl
        · rw [List.length_append, List.length_singleton]
          omega
      · have hd1 : hd = S "ask" := by
          have : heads6[2]? = some (S "ask") := rfl
          rw [this] at h1
          exact (Option.some.inj h1).symm
        subst hd1
        have hc0 : s.cont[2]? = some c2 := by rw [hc]; rfl
        refine ⟨?_, h.rows |> Nat.le_succ_of_le, h.nm, fun _ => ⟨c0, c2 ++ [fD f], c4, c5, p1, p3, ?_, h5, ?_, ho1, ho3⟩⟩
        · rw [hee _ hc0, ← hwd]
          exact Prt.form hnm (.inr (.inl ⟨rfl, rfl⟩)) hst' hc0 (by omega) hf
        · rw [hee _ hc0, hc]
          rfl
        · rw [List.length_append, List.length_singleton]
          omega
      · have hd1 : hd = S "hint" := by
          have : heads6[4]? = some (S "hint") := rfl
          rw [this] at h1
          exact (Option.some.inj h1).symm
        subst hd1
        have hc0 : s.cont[4]? = some c4 := by rw [hc]; rfl
        refine ⟨?_, h.rows |> Nat.le_succ_of_le, h.nm, fun _ => ⟨c0, c2, c4 ++ [fD f], c5, p1, p3, ?_, h5, ?_, ho1, ho3⟩⟩
        · rw [hee _ hc0, ← hwd]
          exact Prt.form hnm (.inr (.inr ⟨rfl, rfl⟩)) hst' hc0 (by omega) hf
        · rw [hee _ hc0, hc]
          rfl
        · rw [List.length_append, List.length_singleton]
          omega
theorem step_ok {n : Nat} {s s' : RS} {ws : List Str} (hn : n ≤ 99) (h : RSOk n s) (hw : LW ws) (e : step s ws = some s') : Stp s ws s' ∧ RSOk (n + 1) s' := by
  unfold step at e
  cases hnm : s.names with
  | none =>
    rw [hnm] at e
    dsimp only at e
    split at e
    · rename_i hc
      cases e
      obtain ⟨h4, hc0, hc2⟩ := hc
      obtain ⟨w0, a, w2, b, rfl⟩ : ∃ w0 a w2 b, ws = [w0, a, w2, b] := by
        match ws, h4 with
        | [w0, a, w2, b], _ => exact ⟨w0, a, w2, b, rfl⟩
      have e0 : w0 = S "claim" := hc0
      have e2 : w2 = S "with" := hc2
      subst e0
      subst e2
      refine ⟨Stp.head hnm, Nat.le_succ_of_le h.rows, fun p ep => ?_, fun _ => ⟨[], [], [], [], [], [], rfl, .inl rfl, ?_, fun p hp => (by cases hp), fun p hp => (by cases hp)⟩⟩
      · cases ep
        exact ⟨(hw.ok a (by simp)).2.2, (hw.ok b (by simp)).2.2⟩
      · simp only [List.length_nil]
        omega
    · cases e
  | some nm =>
    rw [hnm] at e
    dsimp only at e
    split at e
    · rename_i hend
      subst hend
      cases e
      obtain ⟨c0, c2, c4, c5, p1, p3, hc, h5, hl, ho1, ho3⟩ := h.six (by rw [hnm]; exact fun z => nomatch z)
      refine ⟨?_, ?_, fun p ep => (by cases ep), fun z => absurd rfl z⟩
      · have hr5 : c5 = [] ∧ ruleD c5 = S "any" ∨ c5 = [.str (ruleD c5)] := by
          rcases h5 with rfl | ⟨r, _, rfl⟩
          · exact .inl ⟨rfl, rfl⟩
          · exact .inr rfl
        have := Stp.fin (s := s) (a := nm.1) (b := nm.2) (c0 := c0) (c1 := p1.map qD) (c2 := c2) (c3 := p3.map qD) (c4 := c4) (c5 := c5) (rl := ruleD c5) hnm hc hr5 (fun c hcm => by
          rw [hc] at hcm
          simp only [List.mem_cons, List.not_mem_nil, or_false] at hcm
          rcases hcm with rfl | rfl | rfl | rfl | rfl | rfl
          · omega
          · rw [List.length_map]; omega
          · omega
          · rw [List.length_map]; omega
          · omega
          · rcases h5 with rfl | ⟨r, _, rfl⟩ <;> simp) (Nat.le_trans h.rows (by omega))
        unfold finS
        rw [hc]
        rw [hc] at this
        exact this
      · show (s.rows ++ [_]).length ≤ n + 1
        rw [List.length_append, List.length_singleton]
        have := h.rows
        omega
    · cases ws with
      | nil => cases e
      | cons hd r =>
        dsimp only at e
        cases hj : ix hd with
        | none =>
          rw [hj] at e
          cases e
        | some j =>
          rw [hj] at e
          have := part_ok (by omega) h (by rw [hnm]; exact fun z => nomatch z) hw hj e
          exact ⟨.part this.1, this.2⟩
end
end C
set_option Elab.async false
set_option linter.all false
set_option pp.maxSteps 1500
set_option maxRecDepth 100000
set_option maxHeartbeats 4000000
namespace C
open PySem PySem.Spec PyProof.Rows L2 Kx M TL
local macro_rules | `(tactic| tm_at "same") => `(tactic| first
  | assumption
  | exact L2.Same.refl _
  | exact L2.Same.upd (by tm_at "same") (by tm_at "free")
  | exact sameTransR (by assumption) (by tm_at "same"))
local macro_rules | `(tactic| tm_at "free") => `(tactic| first
  | assumption
  | exact sameFreeR (by assumption) (by tm_at "same"))
local macro_rules | `(tactic| tm_at "but") => `(tactic| first
  | assumption
  | exact But.refl _ _
  | exact But.transR (by assumption) (by tm_at "but")
  | exact But.upd
  | exact But.self (by tm_at "but")
  | exact But.new1 (by tm_at "but") (by assumption)
  | exact But.new (by tm_at "but") (by tm_at "free")
  | exact L2.Same.but (by assumption) _)
local macro_rules | `(tactic| tm_at "fact") => `(tactic| first
  | exact upd_same
  | assumption
  | exact SqL.of upd_same
  | exact SqT.of upd_same
  | exact SqL.of (by assumption)
  | exact SqT.of (by assumption)
  | exact But.lstR (by assumption) (by assumption) (by tm_at "but"))
local macro_rules | `(tactic| tm_at "cond") => `(tactic| first
  | rfl
  | assumption
  | decide
  | omega
  | exact ⟨by decide, by decide⟩
  | exact .inr ⟨by decide, by decide⟩
  | exact .inl ⟨by decide, by decide⟩
  | exact ⟨by decide, by decide, by decide⟩
  | exact cdivw (by assumption) (by assumption)
  | exact log2_ok (by assumption)
  | exact Or.inl ⟨rfl, _, SqL.of upd_same⟩
  | exact Or.inl ⟨rfl, _, SqL.of (by assumption)⟩
  | exact ⟨_, rfl⟩
  | exact Nat.le_of_ble_eq_true rfl
  | exact small1000 (by omega))
local macro_rules | `(tactic| tm_at "prop") => `(tactic| first
  | assumption
  | omega)
local macro_rules | `(tactic| tm_at "s") => `(tactic| first
  | refine ⟨_, rfl, ?_⟩
  | refine ⟨_, _, rfl, rfl, ?_⟩
  | refine ⟨_, _, _, rfl, rfl, (by tm_at "fact"), (by tm_at "cond"), ?_⟩
  | refine ⟨_, _, _, _, rfl, rfl, (by tm_at "fact"), rfl, ?_⟩
  | refine ⟨_, _, rfl, (by tm_at "fact"), ?_⟩
  | refine And.intro (by tm_at "cond") ?_
  | refine .inl ⟨_, rfl, ?_⟩
  | refine ⟨_, _, rfl, .inl (by tm_at "fact"), ?_⟩
  | refine dec_false (by tm_at "prop") ?_
  | refine dec_true (by tm_at "prop") ?_
  | refine decN_false (by tm_at "prop") ?_
  | refine decN_true (by tm_at "prop") ?_
  | refine iteT ?_
  | refine iteF ?_
  | refine ⟨_, _, rfl, ?_⟩)
local macro_rules | `(tactic| tm_at "go") => `(tactic| repeat tm_at "s")

section
variable {P : Program} {w : World} {K : PySem.W.Frag} {mg : Str → Option Value} {base : Heap} {aH aR : Addr}
/-! ### lines that are refused -/
theorem same_keep {H H1 : Hp} {a : Addr} {o : HO} (s : Same H H1) (n : H a = none) : Same H (L2.upd H1 a o) := fun b x e => by
  rw [upd_ne (ne_of_none e n)]
  exact s b x e
theorem inV_strs (z : Str) (l : List Str) : L2.inV (V.str z) (l.map V.str) = decide (z ∈ l) := by
  induction l with
  | nil => rfl
  | cons a r ih =>
    have e : L2.inV (V.str z) ((a :: r).map V.str) = (L2.eqV (V.str a) (V.str z) || L2.inV (V.str z) (r.map V.str)) := rfl
    rw [e, ih]
    have e2 : L2.eqV (V.str a) (V.str z) = decide (a = z) := by
      first
        | exact beq_dec a z
        | (unfold L2.eqV; exact beq_dec a z)
    rw [e2]
    by_cases h1 : a = z
    · rw [decide_eq_true h1, Bool.true_or, decide_eq_true (by rw [h1]; exact List.mem_cons_self ..)]
    · rw [decide_eq_false h1, Bool.false_or]
      by_cases h2 : z ∈ r
      · rw [decide_eq_true h2, decide_eq_true (List.mem_cons_of_mem _ h2)]
      · rw [decide_eq_false h2, decide_eq_false (fun m => (List.mem_cons.mp m).elim (fun e => h1 e.symm) h2)]
def spHeadB (K : PySem.W.Frag) (Cl : Addr) : Sp := fun vs H Q _ => ∃ (rd wl : Addr) (H0 : Hp) (s : RS) (ws : List Str), vs = [.ref rd, .ref wl] ∧ RdAt K Cl rd H0 H s ∧ NOk s ∧ H wl = some (.lst (ws.map V.str)) ∧ ws.length ≤ 39 ∧ ¬ (s.names = none ∧ ws.length = 4 ∧ ws.getD 2 Str.empty = S "with") ∧
  ∀ H', Same H0 H' → Q (.bl false) H'
theorem okB_head {k : Nat} {Cl : Addr} (D : MDef K Cl "take_head" "ClaimReader.take_head" s_ClaimReader_take_head ["self", "words"]) (R : Rk K Cl) (B : Bi mg) (G : Gb K mg aH aR) : MCal P w K mg base CX0 (k + 1) Cl "take_head" ["self", "words"] (spHeadB K Cl) := by
  refine D.cal fun f fd F => F.ok sc_ClaimReader_take_head (fun vs H Q E h => ?_) (fun cdv A outer s H vs Q E hr h => ?_)
  · obtain ⟨rd, wl, H0, s, ws, rfl, _⟩ := h
    rfl
  · obtain ⟨rd, wl, H0, r, ws, rfl, hR, hnk, hw, hwl, hbad, q⟩ := h
    obtain ⟨dx, lf, tn, d, vs, ads, I⟩ := id hR
    have nd := sc_ClaimReader_take_head.nd
    refine ⟨_, (pss_cons (ps_if (PW.pt (pw_or (pt_cmpR (op_neD hr.units) (pe_fld (pv 0) rfl) (pe_tup pa_nil) (nomark _)) (pw_or (pt_cmpR op_ne (pe_callB call_len_seq (by rfl) B.len (by decide +kernel) (pa_cons (pv 1) pa_nil)) pe_int (nomark _)) (pw_or1 (pt_cmpR op_ne (pe_ix ix_list (pv 1) pe_int (fun _ _ => rfl)) pe_str (nomark _))))))
        (pss_one (ps_ret pe_bl))
        pss_nil)
      (pss_cons (ps_fld (pv 0) (pe_tup (pa_cons (pe_ix ix_list (pv 1) pe_int (fun _ _ => rfl)) (pa_cons (pe_ix ix_list (pv 1) pe_int (fun _ _ => rfl)) pa_nil))) rfl)
      (pss_cons (ps_fld (pv 0) (pe_dc (own := [("head", 2)]) (by rfl) nd (pi_tup (pe_globR (by rfl) G.HEADS)) (blkOk_by (own := [("head", 2)]) (N := ["self", "words", "head"]) (sc := defScope s_ClaimReader_take_head) (by decide +kernel)) (fun _ _ _ _ _ => (pg_name (i := 2) nd rfl (Or.inl rfl))) (fun _ _ _ _ _ => pts_nil) (fun _ _ _ _ _ => (pv 2)) (fun _ _ _ _ _ => (pe_lst pa_nil))) rfl)
      (pss_cons (ps_fld (pv 0) pe_int rfl)
      (pss_one (ps_ret pe_bl)))))), ?_⟩
    refine ⟨_, rfl, rd, Cl, dx, _, _, rfl, I.ins, R.cl, R.nN, lk2 _ _ _ _, ?_⟩
    tm_at "go"
    refine fun p np => ?_
    have s1 : Same H (upd H p (.tup [])) := same_new np
    refine ⟨_, .tuple [], .tup (s1.tk.tup I.nms) (nm_ims _).dp, .tup (SqT.of upd_same) .nil, nm_shaped hnk, rfl, ?_⟩
    rw [nm_eqv]
    have hw1 := s1 _ _ hw
    have sq : Same H0 (upd H p (.tup [])) := hR.same.trans s1
    generalize upd H p (.tup []) = H1 at s1 hw1 sq ⊢
    refine ⟨_, rfl, ?_⟩
    by_cases hn : r.names = none
    · rw [decide_eq_true hn]
      refine iteF ?_
      have el : (ws.map V.str).length = ws.length := List.length_map ..
      refine ⟨_, rfl, wl, _, rfl, .inl (SqL.of hw1), ?_⟩
      by_cases h4 : V.int ((ws.map V.str).length : Int) = V.int 4
      · have h4' : ws.length = 4 := by
          have := V.int.inj h4
          omega
        obtain ⟨w0, a, w2, b, rfl⟩ : ∃ w0 a w2 b, ws = [w0, a, w2, b] := by
          match ws, h4' with
          | [w0, a, w2, b], _ => exact ⟨w0, a, w2, b, rfl⟩
        have h2 : ¬ V.str w2 = V.str (S "with") := fun z => hbad ⟨hn, rfl, V.str.inj z⟩
        have e2 : atI ([w0, a, w2, b].map V.str) 2 = some (V.str w2) := atI_nat (j := 2) rfl
        tm_at "go"
        exact q _ sq
      · tm_at "go"
        exact q _ sq
    · rw [decide_eq_false hn]
      refine iteT ?_
      exact q _ sq
def spPartB (K : PySem.W.Frag) (Cl : Addr) : Sp := fun vs H Q _ => ∃ (rd wl : Addr) (H0 : Hp) (n : Nat) (s : RS) (hd : Str) (r : List Str) (j : Nat), vs = [.ref rd, .ref wl] ∧ RdAt K Cl rd H0 H s ∧ n ≤ 99 ∧ RSOk n s ∧ s.names ≠ none ∧ H wl = some (.lst ((hd :: r).map V.str)) ∧ LW (hd :: r) ∧ ix hd = some j ∧ partS s j r = none ∧
  ∀ H', Same H0 H' → Q (.bl false) H'
theorem okB_part {k : Nat} {Cl cBT : Addr} (D : MDef K Cl "take_part" "ClaimReader.take_part" s_ClaimReader_take_part ["self", "words"]) (R : Rk K Cl) (B : Bi mg) (G : Gb K mg aH aR) (XB : XT K mg "BadText" cBT) (yH : ∃ o, K.lookup aH = some o ∧ o.cls = .type "tuple" ∧ o.dict = none)
    (x_read_form : Cal P w K mg base (L2.CX P w) k "read_form" ["text"] (spReadFormX K cBT)) : MCal P w K mg base CX0 (k + 1) Cl "take_part" ["self", "words"] (spPartB K Cl) := by
  refine D.cal fun f fd F => F.ok sc_ClaimReader_take_part (fun vs H Q E h => ?_) (fun cdv A outer s H vs Q E hr h => ?_)
  · obtain ⟨rd, wl, H0, n, s, hd, r, j, rfl, _⟩ := h
    rfl
  · obtain ⟨rd, wl, H0, n, r, hd, rest, j, rfl, hR, hn, hok, hnm, hw, hlw, hj, hbad, q⟩ := h
    obtain ⟨dx, lf, tn, d, vs, ads, I⟩ := id hR
    obtain ⟨hix, hj6⟩ := ix_some hj
    obtain ⟨c0, c2, c4, c5, p1, p3, hc, h5, hl, ho1, ho3⟩ := hok.six hnm
    have nd := sc_ClaimReader_take_part.nd
    have hins := I.ins
    refine ⟨_, (pss_cons (ps_set (i := 2) nd rfl (Or.inl rfl) (pe_bm PySem.F.plainAttrs_tuple PySem.F.slot_tuple_index PySem.F.type_tuple_index mt_tup_index (pe_globR (by rfl) G.HEADS) (pa_cons (pe_ix ix_list (pv 1) pe_int (fun _ _ => rfl)) pa_nil)))
      (pss_cons (ps_if (pt_cmpR op_lt (pv 2) (pe_fld (pv 0) rfl) (nomark _))
        (pss_one (ps_ret pe_bl))
        pss_nil)
      (pss_cons (ps_fld (pv 0) (pv 2) rfl)
      (pss_cons (ps_if (pt_cmpR op_in_seq (pe_ix ix_list (pv 1) pe_int (fun _ _ => rfl)) (pe_tup (pa_cons pe_str (pa_cons pe_str pa_nil))) (by rfl))
        (pss_cons (ps_if (PW.pt (pw_or (pt_cmpR op_ne (pe_callB call_len_seq (by rfl) B.len (by decide +kernel) (pa_cons (pv 1) pa_nil)) pe_int (nomark _)) (pw_or1 (pt_cmpR (op_inD (in_room hr)) (pe_tup (pa_cons (pe_ix ix_list (pv 1) pe_int (fun _ _ => rfl)) (pa_cons (pe_ix ix_list (pv 1) pe_int (fun _ _ => rfl)) pa_nil))) (pe_dget (hu_of hr) (pe_fld (pv 0) rfl) (pe_ix ix_list (pv 1) pe_int (fun _ _ => rfl)) (fun _ _ => rfl)) (by rfl)))))
          (pss_one (ps_ret pe_bl))
          pss_nil)
        (pss_cons (ps_expr (pe_bm PySem.F.plainAttrs_list PySem.F.slot_list_append PySem.F.type_list_append mt_append (pe_dget (hu_of hr) (pe_fld (pv 0) rfl) (pe_ix ix_list (pv 1) pe_int (fun _ _ => rfl)) (fun _ _ => rfl)) (pa_cons (pe_tup (pa_cons (pe_ix ix_list (pv 1) pe_int (fun _ _ => rfl)) (pa_cons (pe_ix ix_list (pv 1) pe_int (fun _ _ => rfl)) pa_nil))) pa_nil)))
        (pss_one (ps_ret pe_bl))))
        pss_nil)
      (pss_cons (ps_if (pt_cmpR op_eq (pe_ix ix_list (pv 1) pe_int (fun _ _ => rfl)) pe_str (nomark _))
        (pss_cons (ps_set (i := 3) nd rfl (Or.inl rfl) (pe_join pe_str (pe_slice sl_list (pv 1) (po_some pe_int) po_none)))
        (pss_cons (ps_if (PW.pt (pw_or (pt_cmpR op_notIn_seq (pv 3) (pe_globR (by rfl) G.RULES) (by rfl)) (pw_or1 (pt_truth (pe_dget (hu_of hr) (pe_fld (pv 0) rfl) pe_str (fun _ _ => rfl)) (by intro _; rfl)))))
          (pss_one (ps_ret pe_bl))
          pss_nil)
        (pss_cons (ps_expr (pe_bm PySem.F.plainAttrs_list PySem.F.slot_list_append PySem.F.type_list_append mt_append (pe_dget (hu_of hr) (pe_fld (pv 0) rfl) pe_str (fun _ _ => rfl)) (pa_cons (pv 3) pa_nil)))
        (pss_one (ps_ret pe_bl)))))
        pss_nil)
      (pss_cons (ps_try_only rfl rfl ⟨rfl, by decide, .inl XB.g⟩ takes0 (fun W pn xe tk _ => (pss_one (ps_expr (pe_bmK (K := K) rfl PySem.F.plainAttrs_list PySem.F.slot_list_append PySem.F.type_list_append mt_append (pe_dget (hu_of hr) (pe_fldK (K := K) rfl (pv 0) rfl) (pe_ix (ix_listK (K := K) rfl) (pv 1) pe_int (fun _ _ => rfl)) (fun _ _ => rfl)) (pa_cons (pe_calX x_read_form (Room.mono hr (by omega)) (by rfl) tk (pa_cons (pe_joinK (K := K) rfl pe_str (pe_slice (sl_listK (K := K) rfl) (pv 1) (po_some pe_int) po_none)) pa_nil)) pa_nil))))) (fun a oe cls d pn _ _ => (pss_one (ps_ret pe_bl))))
      (pss_one (ps_ret pe_bl)))))))), ?_⟩
    have e0 : atI ((hd :: rest).map V.str) 0 = some (V.str hd) := atI_nat (j := 0) rfl
    refine ⟨.inr (.inl ⟨rfl, yH⟩), ?_⟩
    refine ⟨_, rfl, wl, _, _, _, rfl, rfl, SqL.of hw, e0, ?_⟩
    refine ⟨aH, heads6, hd, j, rfl, rfl, G.tH _, hix, idx_ok hix, ?_⟩
    refine ⟨_, rfl, ?_⟩
    refine ⟨_, rfl, rd, Cl, dx, _, _, rfl, hins, R.cl, R.nS, lk4 _ _ _ _, ?_⟩
    unfold partS at hbad
    by_cases hst : ((j : Nat) : Int) < r.stage
    · tm_at "go"
      exact q _ hR.same
    rw [if_neg hst] at hbad
    tm_at "go"
    refine ⟨rd, Cl, dx, _, rfl, hins, R.cl, R.nS, Nat.le_of_ble_eq_true rfl, ?_⟩
    rw [pu4]
    have nwr : wl ≠ rd := fun z => by
      rw [z, hins] at hw
      cases hw
    have hw1 : upd H rd (.ins Cl dx (flds (.ref lf) (.ref tn) (.ref d) (.int ((j : Nat) : Int)))) wl = some (.lst ((hd :: rest).map V.str)) := by
      rw [upd_ne nwr]
      exact hw
    have hins1 : upd H rd (.ins Cl dx (flds (.ref lf) (.ref tn) (.ref d) (.int ((j : Nat) : Int)))) rd = some (.ins Cl dx (flds (.ref lf) (.ref tn) (.ref d) (.int ((j : Nat) : Int)))) := upd_same
    have s01 : Same H0 (upd H rd (.ins Cl dx (flds (.ref lf) (.ref tn) (.ref d) (.int ((j : Nat) : Int))))) := same_keep hR.same I.n0
    have k1 : TK H (upd H rd (.ins Cl dx (flds (.ref lf) (.ref tn) (.ref d) (.int ((j : Nat) : Int))))) := TK.ins hins
    have fr : ∀ b o, b ≠ rd → H b = some o → upd H rd (.ins Cl dx (flds (.ref lf) (.ref tn) (.ref d) (.int ((j : Nat) : Int)))) b = some o := fun b o nb e => by
      rw [upd_ne nb]
      exact e
    generalize upd H rd (.ins Cl dx (flds (.ref lf) (.ref tn) (.ref d) (.int ((j : Nat) : Int)))) = H1 at hw1 hins1 s01 k1 fr ⊢
    have ndr : d ≠ rd := fun z => by
      have := I.prt
      rw [z, hins] at this
      cases this
    have hjl : j < ads.length := by
      rw [I.len, hc]
      exact hj6
    have ha : ads[j]? = some ads[j] := List.getElem?_eq_getElem hjl
    have hjc : j < r.cont.length := by
      rw [hc]
      exact hj6
    have hcj : r.cont[j]? = some (r.cont.getD j []) := by
      rw [List.getD_eq_getElem?_getD, List.getElem?_eq_getElem hjc]
      rfl
    obtain ⟨us, hus, ius⟩ := I.at_ j _ _ ha hcj
    have nar : ads[j] ≠ rd := fun z => by
      rw [z, hins] at hus
      cases hus
    refine ⟨_, rfl, wl, _, _, _, rfl, rfl, SqL.of hw1, e0, ?_⟩
    tm_at "go"
    refine fun p np => ?_
    have sp : Same H1 (upd H1 p (.tup [.str (S "same"), .str (S "keep")])) := same_new np
    refine ⟨p, [.str (S "same"), .str (S "keep")], rfl, .inr (SqT.of upd_same), rfl, rfl, ?_⟩
    refine ⟨_, rfl, ?_⟩
    have hw2 := sp _ _ hw1
    have hins2 := sp _ _ hins1
    have s02 := s01.trans sp
    generalize upd H1 p (.tup [.str (S "same"), .str (S "keep")]) = H2 at sp hw2 hins2 s02 ⊢
    by_cases hj13 : j = 1 ∨ j = 3
    · rw [if_pos hj13] at hbad
      have hin : L2.inV (V.str hd) [V.str (S "same"), V.str (S "keep")] = true := by
        rcases hj13 with rfl | rfl
        · obtain rfl : S "same" = hd := Option.some.inj hix
          decide +kernel
        · obtain rfl : S "keep" = hd := Option.some.inj hix
          decide +kernel
      rw [show (if false = true then !L2.inV (V.str hd) [V.str (S "same"), V.str (S "keep")] else L2.inV (V.str hd) [V.str (S "same"), V.str (S "keep")]) = true by rw [if_neg Bool.false_ne_true]; exact hin]
      refine iteT ?_
      refine ⟨_, rfl, wl, _, rfl, .inl (SqL.of hw2), ?_⟩
      by_cases h3 : V.int (((hd :: rest).map V.str).length : Int) = V.int 3
      · have h3' : rest.length = 2 := by
          have := V.int.inj h3
          rw [List.length_map, List.length_cons] at this
          omega
        obtain ⟨x, y, rfl⟩ : ∃ x y, rest = [x, y] := by
          match rest, h3' with
          | [x, y], _ => exact ⟨x, y, rfl⟩
        have hdup : ((r.cont.getD j []).any fun z => PyData.eqv z (qD (x, y))) = true := by
          cases e : (r.cont.getD j []).any fun z => PyData.eqv z (qD (x, y)) with
          | true => rfl
          | false =>
            rw [if_pos ⟨rfl, e⟩] at hbad
            cases hbad
        obtain ⟨ps, eps, hpo⟩ : ∃ ps : List (Str × Str), r.cont.getD j [] = ps.map qD ∧ ∀ p ∈ ps, Ok p.1 ∧ Ok p.2 := by
          rw [hc]
          rcases hj13 with rfl | rfl
          · exact ⟨p1, rfl, ho1⟩
          · exact ⟨p3, rfl, ho3⟩
        rw [eps] at hdup ius
        have e1 : atI ([hd, x, y].map V.str) 1 = some (V.str x) := atI_nat (j := 1) rfl
        have e2 : atI ([hd, x, y].map V.str) 2 = some (V.str y) := atI_nat (j := 2) rfl
        have hxy : Ok x ∧ Ok y := ⟨(hlw.ok x (by simp)).2.2, (hlw.ok y (by simp)).2.2⟩
        tm_at "go"
        refine fun t nt => ?_
        have st : Same H2 (upd H2 t (.tup [.str x, .str y])) := same_new nt
        have hw3 := st _ _ hw2
        have hins3 := st _ _ hins2
        have ht3 : upd H2 t (.tup [.str x, .str y]) t = some (.tup [.str x, .str y]) := upd_same
        have s13 := sp.trans st
        have s03 := s02.trans st
        generalize upd H2 t (.tup [.str x, .str y]) = H3 at st hw3 hins3 ht3 s13 s03 ⊢
        refine ⟨_, rfl, rd, Cl, dx, _, _, rfl, hins3, R.cl, R.nP, lk3 _ _ _ _, ?_⟩
        refine ⟨_, rfl, wl, _, _, _, rfl, rfl, SqL.of hw3, e0, ?_⟩
        have hd3 := s13 _ _ (fr _ _ ndr I.prt)
        have hus3 := s13 _ _ (fr _ _ nar hus)
        have ius3 := s13.tk.ims (k1.ims ius)
        have dg : DGet H3 d (.str hd) (some (.ref ads[j])) := by
          rw [← part_get hix ha]
          exact DGet.k (k := Sum.inr hd) hd3
        refine ⟨d, .ref ads[j], rfl, dg, ?_⟩
        refine ⟨qD (x, y), ps.map qD, Im.dp _ (qD_of (p := (x, y)) (SqT.of ht3)), .lst (SqL.of hus3) (Ims.dp _ ius3), shaped_q hxy, shaped_qs hpo, ?_⟩
        rw [hdup]
        refine ⟨_, rfl, ?_⟩
        refine iteT ?_
        exact q _ s03
      · tm_at "go"
        exact q _ s02
    rw [if_neg hj13] at hbad
    have hin : L2.inV (V.str hd) [V.str (S "same"), V.str (S "keep")] = false := by
      have hh : ∀ i, i < 6 → ¬ (i = 1 ∨ i = 3) → ∀ z, heads6[i]? = some z → L2.inV (V.str z) [V.str (S "same"), V.str (S "keep")] = false := by
        intro i hi hni z hz
        have : i = 0 ∨ i = 2 ∨ i = 4 ∨ i = 5 := by omega
        rcases this with rfl | rfl | rfl | rfl <;> (obtain rfl := Option.some.inj hz; decide +kernel)
      exact hh j hj6 hj13 hd hix
    rw [show (if false = true then !L2.inV (V.str hd) [V.str (S "same"), V.str (S "keep")] else L2.inV (V.str hd) [V.str (S "same"), V.str (S "keep")]) = false by rw [if_neg Bool.false_ne_true]; exact hin]
    refine iteF ?_
    refine ⟨_, rfl, wl, _, _, _, rfl, rfl, SqL.of hw2, e0, ?_⟩
    have hrw : ∀ x ∈ rest, Clean x ∧ x.length ≤ 56 ∧ Ok x := fun x hx => hlw.ok x (List.mem_cons_of_mem _ hx)
    have hrl : rest.length ≤ 38 := by
      have := hlw.le
      rw [List.length_cons] at this
      omega
    have hsum : (rest.map (·.length)).sum + rest.length * (S " ").length ≤ 4000 := by
      have h2 := sum_le (b := 56) fun x hx => (hrw x hx).2.1
      have e : (S " ").length = 1 := by decide +kernel
      rw [e]
      omega
    have ecut : cutV ((hd :: rest).map V.str) (some 1) none = rest.map V.str := cutV_from _ 1
    by_cases hj5 : j = 5
    · rw [if_pos hj5] at hbad
      subst hj5
      obtain rfl : S "walk" = hd := Option.some.inj hix
      tm_at "go"
      refine fun p3 np3 => ?_
      rw [ecut]
      refine ⟨S " ", p3, rest, rfl, rfl, .inl (SqL.of upd_same), Nat.le_trans hsum (by decide), ?_⟩
      have s3 : Same H2 (upd H2 p3 (.lst (rest.map V.str))) := same_new np3
      have hins3 := s3 _ _ hins2
      have s13 := sp.trans s3
      have s03 := s02.trans s3
      generalize upd H2 p3 (.lst (rest.map V.str)) = H3 at s3 hins3 s13 s03 ⊢
      generalize Txt.join (S " ") rest = rl at hbad ⊢
      refine ⟨_, rfl, aR, rules7.map V.str, rfl, .inr (G.tR _), rfl, rfl, ?_⟩
      rw [inV_strs]
      by_cases hru : rl ∈ rules7
      · rw [decide_eq_true hru]
        refine ⟨_, rfl, ?_⟩
        refine iteF ?_
        have hd3 := s13 _ _ (fr _ _ ndr I.prt)
        have hus3 := s13 _ _ (fr _ _ nar hus)
        have dg : DGet H3 d (.str (S "walk")) (some (.ref ads[5])) := by
          rw [← part_get hix ha]
          exact DGet.k (k := Sum.inr (S "walk")) hd3
        refine ⟨_, rfl, rd, Cl, dx, _, _, rfl, hins3, R.cl, R.nP, lk3 _ _ _ _, ?_⟩
        refine ⟨d, .ref ads[5], rfl, dg, ?_⟩
        have hne : r.cont.getD 5 [] ≠ [] := fun z => by
          rw [if_pos ⟨hru, z⟩] at hbad
          cases hbad
        have hul := ius.length
        have hem : (!us.isEmpty) = true := by
          cases us with
          | nil =>
            rw [List.length_nil] at hul
            exact absurd (List.eq_nil_of_length_eq_zero hul.symm) hne
          | cons _ _ => rfl
        refine ⟨!us.isEmpty, .inl ⟨us, SqL.of hus3, rfl⟩, ?_⟩
        rw [hem]
        refine iteT ?_
        exact q _ s03
      · rw [decide_eq_false hru]
        refine ⟨_, rfl, ?_⟩
        refine iteT ?_
        exact q _ s03
    · rw [if_neg hj5] at hbad
      have hnw : ¬ V.str hd = V.str (S "walk") := fun z => by
        have := V.str.inj z
        subst this
        exact hj5 (nd_ix heads_nodup (i := j) (j := 5) hix rfl)
      have hpn : prs rest = none := by
        cases e : prs rest with
        | none => rfl
        | some f =>
          rw [e] at hbad
          cases hbad
      tm_at "s"
      rw [decide_eq_false hnw]
      refine ⟨_, rfl, ?_⟩
      refine iteF ?_
      have hd3 := sp _ _ (fr _ _ ndr I.prt)
      have hus3 := sp _ _ (fr _ _ nar hus)
      have dg : DGet H2 d (.str hd) (some (.ref ads[j])) := by
        rw [← part_get hix ha]
        exact DGet.k (k := Sum.inr hd) hd3
      refine ⟨_, rfl, rd, Cl, dx, _, _, rfl, hins2, R.cl, R.nP, lk3 _ _ _ _, ?_⟩
      refine ⟨_, rfl, wl, _, _, _, rfl, rfl, SqL.of hw2, e0, ?_⟩
      refine ⟨d, .ref ads[j], rfl, dg, ?_⟩
      refine ⟨.inl ⟨rfl, _, SqL.of hus3⟩, ?_⟩
      tm_at "go"
      refine fun p3 np3 => ?_
      rw [ecut]
      refine ⟨S " ", p3, rest, rfl, rfl, .inl (SqL.of upd_same), Nat.le_trans hsum (by decide), ?_⟩
      have s3 : Same H2 (upd H2 p3 (.lst (rest.map V.str))) := same_new np3
      have hjl2 : (Txt.join (S " ") rest).length ≤ 5000 := by
        rw [join_eq]
        exact Nat.le_trans (join_len _ _) (Nat.le_trans hsum (by decide))
      by_cases hre : rest = []
      · subst hre
        refine ⟨_, [Str.empty], rfl, hjl2, by decide +kernel, List.cons_ne_nil _ _, Nat.le_of_ble_eq_true rfl, fun x hx => ?_, fun f hf e => ?_, fun H4 s4 => ⟨true, XB.e, fun _ a ha => ?_, fun q => nomatch q⟩⟩
        · rw [List.mem_singleton.mp hx]
          exact Nat.zero_le _
        · have h1 := wr_split hf
          rw [e] at h1
          have h2 : Txt.split (Txt.join (S " ") []) (S " ") = [Str.empty] := by decide +kernel
          rw [h2] at h1
          have := wd_clean hf Str.empty (by rw [← h1]; exact List.mem_singleton.mpr rfl)
          exact this.1 rfl
        · exact q _ ((s02.trans s3).trans s4)
      · have hsp := join_split (fun x hx => (hrw x hx).1) hre
        refine ⟨_, rest, rfl, hjl2, hsp, hre, by omega, fun x hx => (hrw x hx).2.1, fun f hf e => ?_, fun H4 s4 => ⟨true, XB.e, fun _ a ha => ?_, fun q => nomatch q⟩⟩
        · have h1 := wr_split hf
          rw [e, hsp] at h1
          exact prs_none hpn f hf h1.symm
        · exact q _ ((s02.trans s3).trans s4)
end
end C
set_option Elab.async false
set_option linter.all false
set_option pp.maxSteps 1500
set_option maxRecDepth 100000
set_option maxHeartbeats 4000000
namespace C
open PySem PySem.Spec PyProof.Rows L2 Kx M TL
local macro_rules | `(tactic| tm_at "same") => `(tactic| first
  | assumption
  | exact L2.Same.refl _
  | exact L2.Same.upd (by tm_at "same") (by tm_at "free")
  | exact sameTransR (by assumption) (by tm_at "same"))
local macro_rules | `(tactic| tm_at "free") => `(tactic| first
  | assumption
  | exact sameFreeR (by assumption) (by tm_at "same"))
local macro_rules | `(tactic| tm_at "but") => `(tactic| first
  | assumption
  | exact But.refl _ _
  | exact But.transR (by assumption) (by tm_at "but")
  | exact But.upd
  | exact But.self (by tm_at "but")
  | exact But.new1 (by tm_at "but") (by assumption)
  | exact But.new (by tm_at "but") (by tm_at "free")
  | exact L2.Same.but (by assumption) _)
local macro_rules | `(tactic| tm_at "fact") => `(tactic| first
  | exact upd_same
  | assumption
  | exact SqL.of upd_same
  | exact SqT.of upd_same
  | exact SqL.of (by assumption)
  | exact SqT.of (by assumption)
  | exact But.lstR (by assumption) (by assumption) (by tm_at "but"))
local macro_rules | `(tactic| tm_at "cond") => `(tactic| first
  | rfl
  | assumption
  | decide
  | omega
  | exact ⟨by decide, by decide⟩
  | exact .inr ⟨by decide, by decide⟩
  | exact .inl ⟨by decide, by decide⟩
  | exact ⟨by decide, by decide, by decide⟩
  | exact cdivw (by assumption) (by assumption)
  | exact log2_ok (by assumption)
  | exact Or.inl ⟨rfl, _, SqL.of upd_same⟩
  | exact Or.inl ⟨rfl, _, SqL.of (by assumption)⟩
  | exact ⟨_, rfl⟩
  | exact Nat.le_of_ble_eq_true rfl
  | exact small1000 (by omega))
local macro_rules | `(tactic| tm_at "prop") => `(tactic| first
  | assumption
  | omega)
local macro_rules | `(tactic| tm_at "s") => `(tactic| first
  | refine ⟨_, rfl, ?_⟩
  | refine ⟨_, _, rfl, rfl, ?_⟩
  | refine ⟨_, _, _, rfl, rfl, (by tm_at "fact"), (by tm_at "cond"), ?_⟩
  | refine ⟨_, _, _, _, rfl, rfl, (by tm_at "fact"), rfl, ?_⟩
  | refine ⟨_, _, rfl, (by tm_at "fact"), ?_⟩
  | refine And.intro (by tm_at "cond") ?_
  | refine .inl ⟨_, rfl, ?_⟩
  | refine ⟨_, _, rfl, .inl (by tm_at "fact"), ?_⟩
  | refine dec_false (by tm_at "prop") ?_
  | refine dec_true (by tm_at "prop") ?_
  | refine decN_false (by tm_at "prop") ?_
  | refine decN_true (by tm_at "prop") ?_
  | refine iteT ?_
  | refine iteF ?_
  | refine ⟨_, _, rfl, ?_⟩)
local macro_rules | `(tactic| tm_at "go") => `(tactic| repeat tm_at "s")

section
variable {P : Program} {w : World} {K : PySem.W.Frag} {mg : Str → Option Value} {base : Heap} {aH aR : Addr}
/-! ### take, any line -/
def spTakeB (K : PySem.W.Frag) (Cl : Addr) : Sp := fun vs H Q _ => ∃ (rd : Addr) (H0 : Hp) (n : Nat) (s : RS) (L : Str), vs = [.ref rd, .str L] ∧ RdAt K Cl rd H0 H s ∧ n ≤ 99 ∧ RSOk n s ∧ L.length ≤ 20000 ∧ Txt.words L ≠ [] ∧ LW (Txt.words L) ∧ step s (Txt.words L) = none ∧ ∀ H', Same H0 H' → Q (.bl false) H'
theorem fnB_take {k : Nat} {Cl f : Addr} {fd : FuncData} (F : Fun K "take" "ClaimReader.take" s_ClaimReader_take f fd) (R : Rk K Cl) (B : Bi mg) (G : Gb K mg aH aR)
    (m_ClaimReader_take_head : MCal P w K mg base CX0 k Cl "take_head" ["self", "words"] (spHeadB K Cl)) (m_ClaimReader_take_part : MCal P w K mg base CX0 k Cl "take_part" ["self", "words"] (spPartB K Cl)) (m_ClaimReader_take_end : MCal P w K mg base CX0 k Cl "take_end" ["self"] (spEnd K Cl)) :
    FnOk P w K mg base CX0 (k + 1) f fd ["self", "line"] (spTakeB K Cl) := by
  refine F.ok sc_ClaimReader_take (fun vs H Q E h => ?_) (fun cdv A outer s H vs Q E hr h => ?_)
  · obtain ⟨rd, H0, n, s, L, rfl, _⟩ := h
    rfl
  · obtain ⟨rd, H0, n, r, L, rfl, hR, hn, hrs, hL, hne, hlw, hst, q⟩ := h
    have hnk := hrs.nm
    have nd := sc_ClaimReader_take.nd
    have cl_ClaimReader := R.cl
    have big : (100000 : Nat) ≤ sizeLine := by decide
    refine ⟨_, (pss_cons (ps_set (i := 2) nd rfl (Or.inl rfl) (pe_words (pv 1)))
      (pss_cons (ps_if (pt_cmpR op_eq (pe_ix ix_list (pv 2) pe_int (fun _ _ => rfl)) pe_str (nomark _))
        (pss_one (ps_ret (pe_mcal cl_ClaimReader m_ClaimReader_take_head (Room.mono hr (by omega)) (pv 0) (pa_cons (pv 2) pa_nil))))
        pss_nil)
      (pss_cons (ps_if (pt_cmpR (op_eqD hr.units) (pe_fld (pv 0) rfl) (pe_tup pa_nil) (nomark _))
        (pss_one (ps_ret pe_bl))
        pss_nil)
      (pss_cons (ps_if (pt_cmpR (op_eqD hr.units) (pv 2) (pe_lst (pa_cons pe_str pa_nil)) (nomark _))
        (pss_cons (ps_expr (pe_mcal0 cl_ClaimReader m_ClaimReader_take_end (Room.mono hr (by omega)) (pv 0)))
        (pss_one (ps_ret pe_bl)))
        pss_nil)
      (pss_one (ps_ret (pe_and (pe_cmpR op_in_seq (pe_ix ix_list (pv 2) pe_int (fun _ _ => rfl)) (pe_globR (by rfl) G.HEADS) (by rfl)) (pe_one (pe_mcal cl_ClaimReader m_ClaimReader_take_part (Room.mono hr (by omega)) (pv 0) (pa_cons (pv 2) pa_nil)))))))))), ?_⟩
    generalize hW : Txt.words L = W at hne hlw hst
    tm_at "go"
    refine fun wl nwl => ?_
    rw [hW]
    have s1 : Same H (upd H wl (.lst (W.map V.str))) := same_new nwl
    have hw : upd H wl (.lst (W.map V.str)) wl = some (.lst (W.map V.str)) := upd_same
    have hR1 := hR.next s1
    generalize upd H wl (.lst (W.map V.str)) = H1 at s1 hw hR1 ⊢
    obtain ⟨dx, lf, tn, d, vs, ads, I⟩ := id hR1
    obtain ⟨hd, rest, rfl⟩ := List.exists_cons_of_ne_nil hne
    have e0 : atI ((hd :: rest).map V.str) 0 = some (V.str hd) := atI_nat (j := 0) rfl
    refine ⟨_, rfl, wl, _, _, _, rfl, rfl, SqL.of hw, e0, ?_⟩
    refine ⟨rfl, _, rfl, ?_⟩
    unfold step at hst
    by_cases hcl : hd = S "claim"
    · subst hcl
      rw [decide_eq_true rfl]
      refine iteT ?_
      have hbad : ¬ (r.names = none ∧ (S "claim" :: rest).length = 4 ∧ (S "claim" :: rest).getD 2 Str.empty = S "with") := fun z => by
        rw [z.1] at hst
        dsimp only at hst
        rw [if_pos ⟨z.2.1, rfl, z.2.2⟩] at hst
        cases hst
      exact ⟨_, rfl, rd, dx, _, rfl, I.ins, lkno _ _ _ _ (by decide +kernel) (by decide +kernel) (by decide +kernel) (by decide +kernel), _, rfl, rd, wl, H0, r, S "claim" :: rest, rfl, hR1, hnk, hw, hlw.le, hbad, q⟩
    rw [decide_eq_false (fun z => hcl (V.str.inj z))]
    refine iteF ?_
    refine ⟨_, rfl, rd, Cl, dx, _, _, rfl, I.ins, R.cl, R.nN, lk2 _ _ _ _, ?_⟩
    tm_at "go"
    refine fun p np => ?_
    have sp : Same H1 (upd H1 p (.tup [])) := same_new np
    refine ⟨_, .tuple [], .tup (sp.tk.tup I.nms) (nm_ims _).dp, .tup (SqT.of upd_same) .nil, nm_shaped hnk, rfl, ?_⟩
    rw [nm_eqv]
    have hw2 := sp _ _ hw
    have hR2 := hR1.next sp
    generalize upd H1 p (.tup []) = H2 at sp hw2 hR2 ⊢
    refine ⟨_, rfl, ?_⟩
    by_cases hnn : r.names = none
    · rw [decide_eq_true hnn]
      refine iteT ?_
      exact q _ hR2.same
    rw [decide_eq_false hnn]
    refine iteF ?_
    obtain ⟨nm, enm⟩ := Option.ne_none_iff_exists'.mp hnn
    rw [enm] at hst
    dsimp only at hst
    tm_at "go"
    refine fun p2 np2 => ?_
    have sp2 : Same H2 (upd H2 p2 (.lst [.str (S "end")])) := same_new np2
    refine ⟨_, .list ([S "end"].map PyData.str), .lst (SqL.of (sp2 _ _ hw2)) (ims_strs (H := upd H2 p2 (.lst [.str (S "end")])) (hd :: rest)).dp, .lst (SqL.of upd_same) (.cons (.str _) .nil), shaped_strs (fun x hx => (hlw.ok x hx).2.2), shaped_strs end1, ?_⟩
    have hend : ¬ hd :: rest = [S "end"] := fun z => by
      rw [if_pos z] at hst
      cases hst
    rw [if_neg hend] at hst
    rw [show PyData.eqv (.list ((hd :: rest).map PyData.str)) (.list ([S "end"].map PyData.str)) = false from (eqv_strs _ _).trans (decide_eq_false hend)]
    refine ⟨_, rfl, ?_⟩
    refine iteF ?_
    have hw3 := sp2 _ _ hw2
    have hR3 := hR2.next sp2
    generalize upd H2 p2 (.lst [.str (S "end")]) = H3 at sp2 hw3 hR3 ⊢
    refine ⟨_, rfl, wl, _, _, _, rfl, rfl, SqL.of hw3, e0, ?_⟩
    refine ⟨aH, heads6.map V.str, rfl, .inr (G.tH _), rfl, rfl, ?_⟩
    rw [show (if false = true then !L2.inV (V.str hd) (heads6.map V.str) else L2.inV (V.str hd) (heads6.map V.str)) = decide (hd ∈ heads6) by rw [if_neg Bool.false_ne_true, inV_strs]]
    cases hj : ix hd with
    | none =>
      rw [decide_eq_false (ix_none hj)]
      refine ⟨_, rfl, ?_⟩
      refine iteF ?_
      exact q _ hR3.same
    | some j =>
      rw [hj] at hst
      rw [decide_eq_true (List.mem_of_getElem? (ix_some hj).1)]
      refine ⟨_, rfl, ?_⟩
      refine iteT ?_
      obtain ⟨dx3, lf3, tn3, d3, vs3, ads3, I3⟩ := id hR3
      exact ⟨_, rfl, rd, dx3, _, rfl, I3.ins, lkno _ _ _ _ (by decide +kernel) (by decide +kernel) (by decide +kernel) (by decide +kernel), _, rfl, rd, wl, H0, n, r, hd, rest, j, rfl, hR3, hn, hrs, hnn, hw3, hlw, hj, hst, q⟩
/-- both ways -/
def spTakeU (K : PySem.W.Frag) (Cl : Addr) : Sp := fun vs H Q E => ∃ (rd : Addr) (H0 : Hp) (n : Nat) (s : RS) (L : Str), vs = [.ref rd, .str L] ∧ RdAt K Cl rd H0 H s ∧ n ≤ 99 ∧ RSOk n s ∧ L.length ≤ 20000 ∧ Txt.words L ≠ [] ∧ LW (Txt.words L) ∧
  (∀ s' H', step s (Txt.words L) = some s' → RdAt K Cl rd H0 H' s' → Q (.bl true) H') ∧ (∀ H', step s (Txt.words L) = none → Same H0 H' → Q (.bl false) H')
theorem okU_take {k : Nat} {Cl : Addr} (D : MDef K Cl "take" "ClaimReader.take" s_ClaimReader_take ["self", "line"]) (h1 : ∀ f fd, Fun K "take" "ClaimReader.take" s_ClaimReader_take f fd → FnOk P w K mg base CX0 k f fd ["self", "line"] (spTake K Cl))
    (h2 : ∀ f fd, Fun K "take" "ClaimReader.take" s_ClaimReader_take f fd → FnOk P w K mg base CX0 k f fd ["self", "line"] (spTakeB K Cl)) : MCal P w K mg base CX0 k Cl "take" ["self", "line"] (spTakeU K Cl) :=
  D.cal fun f fd F => (L2.FnOk.unite (h1 f fd F) (h2 f fd F)).imp fun vs H Q E h => by
    obtain ⟨rd, H0, n, s, L, rfl, hR, hn, hrs, hL, hne, hlw, q1, q2⟩ := h
    cases e : step s (Txt.words L) with
    | none => exact .inr ⟨rd, H0, n, s, L, rfl, hR, hn, hrs, hL, hne, hlw, e, fun H' sm => q2 H' e sm⟩
    | some s' => exact .inl ⟨rd, H0, s, s', L, rfl, hR, hrs.nm, hL, fun x hx => (hlw.ok x hx).2.2, (step_ok hn hrs hlw e).1, fun H' h' => q1 s' H' e h'⟩
end
end C
set_option Elab.async false
set_option linter.all false
set_option pp.maxSteps 1500
set_option maxRecDepth 100000
set_option maxHeartbeats 4000000
namespace C
open PySem PySem.Spec PyProof.Rows L2 Kx M TL
local macro_rules | `(tactic| tm_at "same") => `(tactic| first
  | assumption
  | exact L2.Same.refl _
  | exact L2.Same.upd (by tm_at "same") (by tm_at "free")
  | exact sameTransR (by assumption) (by tm_at "same"))
local macro_rules | `(tactic| tm_at "free") => `(tactic| first
  | assumption
  | exact sameFreeR (by assumption) (by tm_at "same"))
local macro_rules | `(tactic| tm_at "but") => `(tactic| first
  | assumption
  | exact But.refl _ _
  | exact But.transR (by assumption) (by tm_at "but")
  | exact But.upd
  | exact But.self (by tm_at "but")
  | exact But.new1 (by tm_at "but") (by assumption)
  | exact But.new (by tm_at "but") (by tm_at "free")
  | exact L2.Same.but (by assumption) _)
local macro_rules | `(tactic| tm_at "fact") => `(tactic| first
  | exact upd_same
  | assumption
  | exact SqL.of upd_same
  | exact SqT.of upd_same
  | exact SqL.of (by assumption)
  | exact SqT.of (by assumption)
  | exact But.lstR (by assumption) (by assumption) (by tm_at "but"))
local macro_rules | `(tactic| tm_at "cond") => `(tactic| first
  | rfl
  | assumption
  | decide
  | omega
  | exact ⟨by decide, by decide⟩
  | exact .inr ⟨by decide, by decide⟩
  | exact .inl ⟨by decide, by decide⟩
  | exact ⟨by decide, by decide, by decide⟩
  | exact cdivw (by assumption) (by assumption)
  | exact log2_ok (by assumption)
  | exact Or.inl ⟨rfl, _, SqL.of upd_same⟩
  | exact Or.inl ⟨rfl, _, SqL.of (by assumption)⟩
  | exact ⟨_, rfl⟩
  | exact Nat.le_of_ble_eq_true rfl
  | exact small1000 (by omega))
local macro_rules | `(tactic| tm_at "prop") => `(tactic| first
  | assumption
  | omega)
local macro_rules | `(tactic| tm_at "s") => `(tactic| first
  | refine ⟨_, rfl, ?_⟩
  | refine ⟨_, _, rfl, rfl, ?_⟩
  | refine ⟨_, _, _, rfl, rfl, (by tm_at "fact"), (by tm_at "cond"), ?_⟩
  | refine ⟨_, _, _, _, rfl, rfl, (by tm_at "fact"), rfl, ?_⟩
  | refine ⟨_, _, rfl, (by tm_at "fact"), ?_⟩
  | refine And.intro (by tm_at "cond") ?_
  | refine .inl ⟨_, rfl, ?_⟩
  | refine ⟨_, _, rfl, .inl (by tm_at "fact"), ?_⟩
  | refine dec_false (by tm_at "prop") ?_
  | refine dec_true (by tm_at "prop") ?_
  | refine decN_false (by tm_at "prop") ?_
  | refine decN_true (by tm_at "prop") ?_
  | refine iteT ?_
  | refine iteF ?_
  | refine ⟨_, _, rfl, ?_⟩)
local macro_rules | `(tactic| tm_at "go") => `(tactic| repeat tm_at "s")

section
variable {P : Program} {w : World} {K : PySem.W.Frag} {mg : Str → Option Value} {base : Heap} {aH aR : Addr}
/-! ### read_claims, any text -/
noncomputable def runL : RS → Nat → List (List Str) → Nat ⊕ RS
  | s, _, [] => .inr s
  | s, n, ws :: r => if ws = [] then runL s (n + 1) r else match step s ws with
    | none => .inl (n + 1)
    | some s' => runL s' (n + 1) r
noncomputable def readR (W : List (List Str)) : Nat ⊕ List PyData := match runL s0 0 W with
  | .inl k => .inl k
  | .inr s => match s.names with
    | none => .inr s.rows
    | some _ => .inl (W.length + 1)
theorem runL_nil {s : RS} {n : Nat} {r : List (List Str)} : runL s n ([] :: r) = runL s (n + 1) r := by
  rw [runL, if_pos rfl]
theorem runL_none {s : RS} {n : Nat} {ws : List Str} {r : List (List Str)} (h : ws ≠ []) (e : step s ws = none) : runL s n (ws :: r) = .inl (n + 1) := by
  rw [runL, if_neg h, e]
theorem runL_some {s s' : RS} {n : Nat} {ws : List Str} {r : List (List Str)} (h : ws ≠ []) (e : step s ws = some s') : runL s n (ws :: r) = runL s' (n + 1) r := by
  rw [runL, if_neg h, e]
def spReadCX (K : PySem.W.Frag) (cBL : Addr) : Sp := fun vs H Q E => ∃ (T : Str) (Ls : List Str), vs = [.str T] ∧ T.length + 2 ≤ sizeLine ∧ Txt.split T (S "\n") = Ls ∧ Ls.length ≤ 97 ∧ (∀ L ∈ Ls, L.length ≤ 20000 ∧ LW (Txt.words L)) ∧
  (∀ rows v H', readR (Ls.map Txt.words) = .inr rows → Same H H' → Im K H' v (.tuple rows) → Q v H') ∧ (∀ (k : Nat) d H', readR (Ls.map Txt.words) = .inl k → k ≤ 98 → Same H H' → H d = none → H' d = some (.xd [(("line" : Str), .int (k : Int))]) → E (.ref cBL) (some d) H')
theorem okx_read_claims {k : Nat} {Cl cBL fI cc cda : Addr} (D : Def K mg "read_claims" "read_claims" s_read_claims ["text"]) (R : Rk K Cl) (B : Bi mg) (G : Gb K mg aH aR) (gC_ClaimReader : mg "ClaimReader" = some (.ref Cl))
    (TL : Own.Facts P K cBL fI cc cda "line" Own.pB Own.bB Own.sB "BadLine.__init__") (gBL : mg "BadLine" = some (.ref cBL)) (zSuper : mg "super" = none)
    (i_ClaimReader : KCal P w K mg base CX0 k Cl ["self"] (spInit K Cl)) (m_ClaimReader_take : MCal P w K mg base CX0 (k + 1) Cl "take" ["self", "line"] (spTakeU K Cl)) : Cal P w K mg base (L2.CX P w) (k + 2) "read_claims" ["text"] (spReadCX K cBL) := by
  refine D.cal fun f fd F => F.okX sc_read_claims (fun vs H Q E h => ?_) (fun cdv A outer s H vs Q E hr h => ?_)
  · obtain ⟨T, Ls, rfl, _⟩ := h
    rfl
  · obtain ⟨T, Ls, rfl, hT, hs, hll, hl, q, qe⟩ := h
    have nd := sc_read_claims.nd
    have cl_ClaimReader := R.cl
    have big : (100000 : Nat) ≤ sizeLine := by decide
    have raise : ∀ (i : Nat), i ≤ 98 → ((i : Nat) : Int).natAbs.log2 < 1920 ∧ (Str.ofString (toString ((i : Nat) : Int))).length ≤ 1000 := fun i hi => by
      have e60 : (1000 : Nat) < 10 ^ 60 := by decide
      have h1 : i < 10 ^ 60 := by omega
      exact ⟨log2_ok h1, Nat.le_trans (num_len h1) (by decide)⟩
    refine ⟨_, (pss_cons (ps_set (i := 1) nd rfl (Or.inl rfl) (pe_kcal i_ClaimReader (Room.mono hr (by omega)) (by rfl) gC_ClaimReader))
      (pss_cons (ps_set (i := 2) nd rfl (Or.inl rfl) (pe_split (pv 0) pe_str))
      (pss_cons (ps_for (passes_of rfl) rfl (pi_enum (by rfl) B.enumerate (pa_cons (pv 2) pa_nil)) (pg_tup rfl (pgs_cons (pg_name (i := 3) nd rfl (Or.inl rfl)) (pgs_cons (pg_name (i := 4) nd rfl (Or.inl rfl)) pgs_nil)))
        (pss_one (ps_if (PW.pt (pw_and (pt_truth (pe_words (pv 4)) (by intro _; rfl)) (pw_and1 (pt_not (pt_val (pe_mcal cl_ClaimReader m_ClaimReader_take (Room.mono hr (by omega)) (pv 1) (pa_cons (pv 4) pa_nil)))))))
          (pss_one (ps_raise rfl (takes_of rfl rfl rfl rfl) (pmk_line (k := 1) TL gBL zSuper B.str (Room.mono hr (by omega)) (pa_cons (pe_op op_add (pv 3) pe_int) pa_nil) rfl)))
          pss_nil)))
      (pss_cons (ps_if (pt_cmpR (op_neD hr.units) (pe_fld (pv 1) rfl) (pe_tup pa_nil) (nomark _))
        (pss_one (ps_raise rfl (takes_of rfl rfl rfl rfl) (pmk_line (k := 1) TL gBL zSuper B.str (Room.mono hr (by omega)) (pa_cons (pe_op op_add (pe_callB call_len_seq (by rfl) B.len (by decide +kernel) (pa_cons (pv 2) pa_nil)) pe_int) pa_nil) rfl)))
        pss_nil)
      (pss_one (ps_ret (pe_callTy call_tuple_of (by rfl) B.tuple (by decide +kernel) (pa_cons (pe_fld (pv 1) rfl) pa_nil)))))))), ?_⟩
    intro x dx nx ndx nex
    have sx : Same H (upd (upd H dx (.own x)) x (.ins Cl dx [])) := fun b o e => by
      rw [upd_ne (ne_of_none e nx), upd_ne (ne_of_none e ndx)]
      exact e
    refine ⟨x, dx, H, rfl, upd_same, sx, nx, fun H1 R1 => ⟨rfl, ?_⟩⟩
    tm_at "go"
    refine fun lp nlp => ?_
    have R2 := R1.frame (o := .lst (Ls.map V.str)) nlp
    have hs2 : Txt.split T (Str.ofString "\n") = Ls := hs
    rw [hs2]
    have sb : Same H (upd H lp (.lst (Ls.map V.str))) := same_new (R1.same.free nlp)
    have hb : upd H lp (.lst (Ls.map V.str)) lp = some (.lst (Ls.map V.str)) := upd_same
    generalize upd H1 lp (.lst (Ls.map V.str)) = H2 at R2 ⊢
    generalize upd H lp (.lst (Ls.map V.str)) = Hb at R2 sb hb
    refine ⟨_, rfl, lp, Ls.map V.str, rfl, SqL.of (R2.same _ _ hb), ?_⟩
    refine for_it walk_enum (fun i σ H' => Bx (∃ v3 v4 s, σ = [some (.str T), some (.ref x), some (.ref lp), v3, v4] ∧ RdAt K Cl x Hb H' s ∧ RSOk i s ∧ runL s i ((Ls.drop i).map Txt.words) = runL s0 0 (Ls.map Txt.words)))
      (.mk ⟨_, _, s0, rfl, R2, .start 0, rfl⟩) (fun i σ H' _ bx => by
        obtain ⟨_, _, s, _, r, _⟩ := bx.out
        exact SqL.of (r.same _ _ hb)) ?_ ?_
    · rintro i v σ H3 H4 hi bx ⟨t, y1, y2, rfl, nt, rfl, e1, e2⟩
      obtain ⟨v3, v4, s, rfl, r3, hn3, run3⟩ := bx.out
      cases e1
      have hi2 : i < Ls.length := by
        rw [List.length_map] at hi
        exact hi
      have hL : Ls[i]? = some Ls[i] := List.getElem?_eq_getElem hi2
      have e3 : y2 = V.str Ls[i] := by
        have e2' : (Ls.map V.str)[i]? = some y2 := e2
        rw [List.getElem?_map, hL] at e2'
        cases e2'
        rfl
      subst e3
      have hmem := List.getElem_mem hi2
      rw [List.drop_eq_getElem_cons hi2, List.map_cons] at run3
      obtain ⟨lenL, lwL⟩ := hl _ hmem
      generalize Ls[i] = L at run3 lenL lwL ⊢
      have st : Same H3 (upd H3 t (.tup [.int ((i : Nat) : Int), .str L])) := same_new nt
      have r4 := r3.next st
      refine ⟨t, _, rfl, SqT.of upd_same, rfl, ?_⟩
      generalize upd H3 t (.tup [.int ((i : Nat) : Int), .str L]) = H4 at st r4 ⊢
      have lenS : L.length + 2 ≤ sizeLine := by omega
      tm_at "go"
      refine fun p np => ?_
      have sp : Same H4 (upd H4 p (.lst ((Txt.words L).map V.str))) := same_new np
      have r5 := r4.next sp
      refine ⟨!((Txt.words L).map V.str).isEmpty, .inl ⟨_, SqL.of upd_same, rfl⟩, ?_⟩
      generalize upd H4 p (.lst ((Txt.words L).map V.str)) = H5 at r5 ⊢
      by_cases hw : Txt.words L = []
      · rw [hw] at run3
        rw [runL_nil] at run3
        rw [show (!((Txt.words L).map V.str).isEmpty) = false by rw [hw]; rfl]
        refine iteF ?_
        refine iteF ?_
        exact .mk ⟨_, _, s, rfl, r5, ⟨Nat.le_succ_of_le hn3.rows, hn3.nm, fun z => by
          obtain ⟨c0, c2, c4, c5, p1, p3, a1, a2, a3, a4, a5⟩ := hn3.six z
          exact ⟨c0, c2, c4, c5, p1, p3, a1, a2, by omega, a4, a5⟩⟩, run3⟩
      · rw [show (!((Txt.words L).map V.str).isEmpty) = true by
          cases h : Txt.words L with
          | nil => exact absurd h hw
          | cons _ _ => rfl]
        refine iteT ?_
        obtain ⟨dx3, lf3, tn3, d3, vs3, ads3, I3⟩ := id r5
        refine ⟨_, rfl, x, dx3, _, rfl, I3.ins, lkno _ _ _ _ (by decide +kernel) (by decide +kernel) (by decide +kernel) (by decide +kernel), _, rfl, x, Hb, i, s, L, rfl, r5, by omega, hn3, lenL, hw, lwL, fun s1 H6 e r6 => ?_, fun H6 e s6 => ?_⟩
        · rw [runL_some hw e] at run3
          refine ⟨_, rfl, ?_⟩
          refine iteF ?_
          exact .mk ⟨_, _, s1, rfl, r6, (step_ok (by omega) hn3 lwL e).2, run3⟩
        · rw [runL_none hw e] at run3
          refine ⟨_, rfl, ?_⟩
          refine iteT ?_
          obtain ⟨l1, l2⟩ := raise (i + 1) (by omega)
          refine ⟨_, rfl, _, _, rfl, rfl, ((i + 1 : Nat) : Int), rfl, l1, l2, fun d nd => ?_⟩
          refine qe (i + 1) d _ ?_ (by omega) ((sb.trans s6).upd ((sb.trans s6).free nd)) ((sb.trans s6).free nd) upd_same
          unfold readR
          rw [← run3]
    · rintro σ H3 bx
      obtain ⟨v3, v4, s, rfl, r3, hn3, run3⟩ := bx.out
      have ed : Ls.drop (Ls.map V.str).length = [] := by
        rw [List.length_map]
        exact List.drop_length
      rw [ed, List.map_nil, runL] at run3
      obtain ⟨dx3, lf3, tn3, d3, vs3, ads3, I3⟩ := id r3
      refine ⟨_, rfl, x, Cl, dx3, _, _, rfl, I3.ins, R.cl, R.nN, lk2 _ _ _ _, ?_⟩
      tm_at "go"
      refine fun p np => ?_
      have sp : Same H3 (upd H3 p (.tup [])) := same_new np
      refine ⟨_, .tuple [], .tup (sp.tk.tup I3.nms) (nm_ims _).dp, .tup (SqT.of upd_same) .nil, nm_shaped hn3.nm, rfl, ?_⟩
      rw [nm_eqv]
      have I4 := I3.next sp
      have r4 := r3.next sp
      generalize upd H3 p (.tup []) = H4 at I4 r4 ⊢
      by_cases hnn : s.names = none
      · rw [decide_eq_true hnn]
        refine ⟨_, rfl, ?_⟩
        refine iteF ?_
        refine ⟨_, rfl, x, Cl, dx3, _, _, rfl, I4.ins, R.cl, R.nF, lk1 _ _ _ _, ?_⟩
        refine ⟨lf3, vs3, rfl, .inl ⟨SqL.of I4.lst, fun l nl => ?_⟩⟩
        have sl : Same H4 (upd H4 l (.tup vs3)) := same_new nl
        refine q s.rows _ _ ?_ ((sb.trans r4.same).trans sl) (.tup (SqT.of upd_same) (sl.tk.ims I4.rows))
        unfold readR
        rw [← run3]
        dsimp only
        rw [hnn]
      · rw [decide_eq_false hnn]
        refine ⟨_, rfl, ?_⟩
        refine iteT ?_
        obtain ⟨nm, enm⟩ := Option.ne_none_iff_exists'.mp hnn
        have hb4 := r4.same _ _ hb
        obtain ⟨l1, l2⟩ := raise (Ls.length + 1) (by omega)
        have el : (((Ls.map V.str).length : Nat) : Int) + 1 = ((Ls.length + 1 : Nat) : Int) := by
          rw [List.length_map]
          omega
        refine ⟨_, rfl, lp, _, rfl, .inl (SqL.of hb4), _, _, rfl, rfl, ((Ls.length + 1 : Nat) : Int), by rw [← el], l1, l2, fun d nd => ?_⟩
        refine qe (Ls.length + 1) d _ ?_ (by omega) ((sb.trans r4.same).upd ((sb.trans r4.same).free nd)) ((sb.trans r4.same).free nd) upd_same
        unfold readR
        rw [← run3]
        dsimp only
        rw [enm, List.length_map]
end
end C
set_option Elab.async false
set_option linter.all false
set_option pp.maxSteps 1500
set_option maxRecDepth 100000
set_option maxHeartbeats 4000000
namespace C
open PySem PySem.Spec PyProof.Rows L2 Kx M TL
local macro_rules | `(tactic| tm_at "same") => `(tactic| first
  | assumption
  | exact L2.Same.refl _
  | exact L2.Same.upd (by tm_at "same") (by tm_at "free")
  | exact sameTransR (by assumption) (by tm_at "same"))
local macro_rules | `(tactic| tm_at "free") => `(tactic| first
  | assumption
  | exact sameFreeR (by assumption) (by tm_at "same"))
local macro_rules | `(tactic| tm_at "but") => `(tactic| first
  | assumption
  | exact But.refl _ _
  | exact But.transR (by assumption) (by tm_at "but")
  | exact But.upd
  | exact But.self (by tm_at "but")
  | exact But.new1 (by tm_at "but") (by assumption)
  | exact But.new (by tm_at "but") (by tm_at "free")
  | exact L2.Same.but (by assumption) _)
local macro_rules | `(tactic| tm_at "fact") => `(tactic| first
  | exact upd_same
  | assumption
  | exact SqL.of upd_same
  | exact SqT.of upd_same
  | exact SqL.of (by assumption)
  | exact SqT.of (by assumption)
  | exact But.lstR (by assumption) (by assumption) (by tm_at "but"))
local macro_rules | `(tactic| tm_at "cond") => `(tactic| first
  | rfl
  | assumption
  | decide
  | omega
  | exact ⟨by decide, by decide⟩
  | exact .inr ⟨by decide, by decide⟩
  | exact .inl ⟨by decide, by decide⟩
  | exact ⟨by decide, by decide, by decide⟩
  | exact cdivw (by assumption) (by assumption)
  | exact log2_ok (by assumption)
  | exact Or.inl ⟨rfl, _, SqL.of upd_same⟩
  | exact Or.inl ⟨rfl, _, SqL.of (by assumption)⟩
  | exact ⟨_, rfl⟩
  | exact Nat.le_of_ble_eq_true rfl
  | exact small1000 (by omega))
local macro_rules | `(tactic| tm_at "prop") => `(tactic| first
  | assumption
  | omega)
local macro_rules | `(tactic| tm_at "s") => `(tactic| first
  | refine ⟨_, rfl, ?_⟩
  | refine ⟨_, _, rfl, rfl, ?_⟩
  | refine ⟨_, _, _, rfl, rfl, (by tm_at "fact"), (by tm_at "cond"), ?_⟩
  | refine ⟨_, _, _, _, rfl, rfl, (by tm_at "fact"), rfl, ?_⟩
  | refine ⟨_, _, rfl, (by tm_at "fact"), ?_⟩
  | refine And.intro (by tm_at "cond") ?_
  | refine .inl ⟨_, rfl, ?_⟩
  | refine ⟨_, _, rfl, .inl (by tm_at "fact"), ?_⟩
  | refine dec_false (by tm_at "prop") ?_
  | refine dec_true (by tm_at "prop") ?_
  | refine decN_false (by tm_at "prop") ?_
  | refine decN_true (by tm_at "prop") ?_
  | refine iteT ?_
  | refine iteF ?_
  | refine ⟨_, _, rfl, ?_⟩)
local macro_rules | `(tactic| tm_at "go") => `(tactic| repeat tm_at "s")

section
variable {P : Program} {w : World} {K : PySem.W.Frag} {mg : Str → Option Value} {base : Heap} {aH aR : Addr}
/-! ### the law's own signs -/
def isDg (x : Str) : Bool := !(tl x).isEmpty && (tl x).all fun c => decide (c ∈ dg)
def spIsDg : Sp := fun vs H Q _ => ∃ x : Str, vs = [.str x] ∧ x.length ≤ 1000 ∧ ∀ H', Same H H' → Q (.bl (isDg x)) H'
theorem bls_snoc {l : List Nat} {p : Nat → Bool} {i c : Nat} (h : l[i]? = some c) : ((l.take (i + 1)).map p).map V.bl = ((l.take i).map p).map V.bl ++ [V.bl (p c)] := by
  rw [take_snoc h, List.map_append, List.map_append]
  rfl
theorem all_id {l : List Nat} {p : Nat → Bool} : (l.map p).all id = l.all p := by
  rw [List.all_map]
  rfl
theorem isEmpty_of {x : Str} (h : ¬ V.str x = V.str (S "")) : (tl x).isEmpty = false := by
  cases e : tl x with
  | nil => exact absurd (congrArg V.str (show x = S "" from ext_tl (by rw [e]; exact (by decide +kernel : [] = tl (S ""))))) h
  | cons a b => rfl
theorem sc__law_is_digits : FnScope ["text", "c"] ["text"] (defScope s__law_is_digits) := ⟨rfl, rfl, rfl, by decide +kernel, rfl, by decide +kernel, by decide +kernel⟩
theorem ok__law_is_digits {k : Nat} (D : Def K mg "_law_is_digits" "_law_is_digits" s__law_is_digits ["text"]) (B : Bi mg) : Cal P w K mg base CX0 (k + 1) "_law_is_digits" ["text"] spIsDg := by
  refine D.cal fun f fd F => F.ok sc__law_is_digits (fun vs H Q E h => ?_) (fun cdv A outer s H vs Q E hr h => ?_)
  · obtain ⟨x, rfl, _⟩ := h
    rfl
  · obtain ⟨x, rfl, hx, q⟩ := h
    have nd := sc__law_is_digits.nd
    refine ⟨_, (pss_one (ps_ret (pe_and (pe_cmpR op_ne (pv 0) pe_str (nomark _)) (pe_one (pe_callB (cr_all rfl) (by rfl) B.all (by decide +kernel) (pa_cons (pe_lc (own := [("c", 1)]) (by rfl) nd (pi_str (pv 0)) (blkOk_by (own := [("c", 1)]) (N := ["text", "c"]) (sc := defScope s__law_is_digits) (by decide +kernel)) (fun _ _ _ _ _ => (pg_name (i := 1) nd rfl (Or.inl rfl))) (fun _ _ _ _ _ => pts_nil) (fun _ _ _ _ _ => (pe_cmpR op_in_sign (pv 1) pe_str (by rfl)))) pa_nil)))))), ?_⟩
    unfold isDg at q
    have big : (1000 : Nat) < sizeLine := by decide
    tm_at "s"
    tm_at "s"
    tm_at "s"
    by_cases hz : V.str x = V.str (S "")
    · have hz2 : x = Str.empty := V.str.inj hz
      rw [decide_eq_true hz]
      refine iteF ?_
      subst hz2
      exact q _ (Same.refl _)
    · rw [decide_eq_false hz]
      refine iteT ?_
      rw [isEmpty_of hz, Bool.not_false, Bool.true_and] at q
      refine ⟨_, rfl, x, rfl, fun D nD => ?_⟩
      refine lc_it walk_str (fun i H' => Same H H' ∧ H' D = some (.lst ((((tl x).take i).map fun c => decide (c ∈ dg)).map V.bl))) ⟨same_new nD, upd_same⟩ (fun _ _ _ _ => trivial) ?_ ?_
      · rintro i v Hx Hy hlt ⟨sx, hDx⟩ ⟨rfl, c, hc, rfl⟩
        have hc2 : (tl x)[i]? = some c := by
          rw [← hc]
          simp [tl]
        have hlx := len_tl x
        have hi := (List.getElem?_eq_some_iff.mp hc2).1
        refine ⟨rfl, ?_⟩
        refine ⟨_, rfl, ?_⟩
        refine ⟨c, S "0123456789", rfl, rfl, ?_⟩
        refine ⟨_, hDx, ?_, sx.upd nD, ?_⟩
        · rw [List.length_map, List.length_map, List.length_take]
          omega
        · rw [upd_same, bls_snoc hc2]
          rfl
      · rintro H1 ⟨s1, hD⟩
        refine ⟨D, _, rfl, SqL.of hD, ?_⟩
        rw [all_id, List.take_of_length_le (by simp [tl])]
        exact q _ s1
theorem sc__law_is_form_name : FnScope ["text", "signs", "c"] ["text"] (defScope s__law_is_form_name) := ⟨rfl, rfl, rfl, by decide +kernel, rfl, by decide +kernel, by decide +kernel⟩
theorem ok__law_is_form_name {k : Nat} (D : Def K mg "_law_is_form_name" "_law_is_form_name" s__law_is_form_name ["text"]) (B : Bi mg) : Cal P w K mg base CX0 (k + 1) "_law_is_form_name" ["text"] spIsName := by
  refine D.cal fun f fd F => F.ok sc__law_is_form_name (fun vs H Q E h => ?_) (fun cdv A outer s H vs Q E hr h => ?_)
  · obtain ⟨x, rfl, _⟩ := h
    rfl
  · obtain ⟨x, rfl, hx, q⟩ := h
    have nd := sc__law_is_form_name.nd
    refine ⟨_, (pss_cons (ps_set (i := 1) nd rfl (Or.inr rfl) pe_str)
      (pss_one (ps_ret (pe_and (pe_cmpR op_ne (pv 0) pe_str (nomark _)) (pe_and (pe_cmpR op_in_sign (pe_ix ix_str (pv 0) pe_int (fun _ _ => rfl)) (pv 1) (by rfl)) (pe_one (pe_callB (cr_all rfl) (by rfl) B.all (by decide +kernel) (pa_cons (pe_lc (own := [("c", 2)]) (by rfl) nd (pi_str (pv 0)) (blkOk_by (own := [("c", 2)]) (N := ["text", "signs", "c"]) (sc := defScope s__law_is_form_name) (by decide +kernel)) (fun _ _ _ _ _ => (pg_name (i := 2) nd rfl (Or.inl rfl))) (fun _ _ _ _ _ => pts_nil) (fun _ _ _ _ _ => (pe_cmpR op_in_sign (pv 2) (pe_op op_add_str (pv 1) pe_str) (by rfl)))) pa_nil)))))))), ?_⟩
    have big : (1000 : Nat) < sizeLine := by decide
    tm_at "s"
    tm_at "s"
    tm_at "s"
    by_cases hz : V.str x = V.str (S "")
    · have hz2 : x = Str.empty := V.str.inj hz
      rw [decide_eq_true hz]
      refine iteF ?_
      subst hz2
      exact q _ (Same.refl _)
    · rw [decide_eq_false hz]
      refine iteT ?_
      obtain ⟨c0, r0, e0⟩ := List.exists_cons_of_ne_nil (show tl x ≠ [] from fun e => by have := isEmpty_of hz; rw [e] at this; cases this)
      have hat : atI x.cps.toList 0 = some c0 := by
        show atI (tl x) 0 = some c0
        rw [e0]
        exact atI_nat (j := 0) rfl
      have hz1 : x.length ≤ sizeLine := by omega
      refine ⟨_, rfl, ⟨x, 0, c0, rfl, rfl, hz1, hat, ?_⟩⟩
      refine ⟨_, rfl, c0, S "abcdefghijklmnopqrstuvwxyz@#.?_", rfl, rfl, ?_⟩
      refine ⟨_, rfl, ?_⟩
      show if decide (c0 ∈ nh) = true then _ else _
      have hN : isN x = (decide (c0 ∈ nh) && (tl x).all fun d => decide (d ∈ nh) || decide (d ∈ dg)) := by
        unfold isN
        rw [e0]
        show (decide (c0 ∈ nh) && r0.all fun d => decide (d ∈ nh) || decide (d ∈ dg)) = _
        by_cases hc : c0 ∈ nh
        · rw [List.all_cons, decide_eq_true hc, Bool.true_or, Bool.true_and, Bool.true_and]
        · rw [decide_eq_false hc, Bool.false_and, Bool.false_and]
      rw [hN] at q
      by_cases hc : c0 ∈ nh
      · rw [decide_eq_true hc] at q ⊢
        rw [Bool.true_and] at q
        refine iteT ?_
        refine ⟨_, rfl, x, rfl, fun D nD => ?_⟩
        refine lc_it walk_str (fun i H' => Same H H' ∧ H' D = some (.lst ((((tl x).take i).map fun d => decide (d ∈ nh) || decide (d ∈ dg)).map V.bl))) ⟨same_new nD, upd_same⟩ (fun _ _ _ _ => trivial) ?_ ?_
        · rintro i v Hx Hy hlt ⟨sx, hDx⟩ ⟨rfl, c, hcx, rfl⟩
          have hc2 : (tl x)[i]? = some c := by
            rw [← hcx]
            simp [tl]
          have hlx := len_tl x
          have hi := (List.getElem?_eq_some_iff.mp hc2).1
          refine ⟨rfl, ?_⟩
          refine ⟨_, rfl, ?_⟩
          refine ⟨_, rfl, S "abcdefghijklmnopqrstuvwxyz@#.?_", S "0123456789", rfl, rfl, by decide +kernel, ?_⟩
          refine ⟨c, _, rfl, rfl, ?_⟩
          refine ⟨_, hDx, ?_, sx.upd nD, ?_⟩
          · rw [List.length_map, List.length_map, List.length_take]
            omega
          · rw [upd_same, bls_snoc hc2]
            have e : decide (c ∈ (S "abcdefghijklmnopqrstuvwxyz@#.?_" ++ S "0123456789").cps.toList) = (decide (c ∈ nh) || decide (c ∈ dg)) := by
              have e1 : (S "abcdefghijklmnopqrstuvwxyz@#.?_" ++ S "0123456789").cps.toList = nh ++ dg := tl_append _ _
              rw [e1]
              by_cases h1 : c ∈ nh
              · rw [decide_eq_true h1, decide_eq_true (List.mem_append_left _ h1)]
                rfl
              · by_cases h2 : c ∈ dg
                · rw [decide_eq_true h2, decide_eq_true (List.mem_append_right _ h2), Bool.or_true]
                · rw [decide_eq_false h1, decide_eq_false h2, decide_eq_false (fun z => (List.mem_append.mp z).elim h1 h2)]
                  rfl
            exact congrArg (fun b => some (HO.lst (_ ++ [V.bl b]))) e
        · rintro H1 ⟨s1, hD⟩
          refine ⟨D, _, rfl, SqL.of hD, ?_⟩
          rw [all_id, List.take_of_length_le (by simp [tl])]
          exact q _ s1
      · rw [decide_eq_false hc] at q ⊢
        rw [Bool.false_and] at q
        refine iteF ?_
        exact q _ (Same.refl _)
end
end C
set_option Elab.async false
set_option linter.all false
set_option pp.maxSteps 1500
set_option maxRecDepth 100000
set_option maxHeartbeats 4000000
namespace C
open PySem PySem.Spec PyProof.Rows L2 Kx M TL
local macro_rules | `(tactic| tm_at "same") => `(tactic| first
  | assumption
  | exact L2.Same.refl _
  | exact L2.Same.upd (by tm_at "same") (by tm_at "free")
  | exact sameTransR (by assumption) (by tm_at "same"))
local macro_rules | `(tactic| tm_at "free") => `(tactic| first
  | assumption
  | exact sameFreeR (by assumption) (by tm_at "same"))
local macro_rules | `(tactic| tm_at "but") => `(tactic| first
  | assumption
  | exact But.refl _ _
  | exact But.transR (by assumption) (by tm_at "but")
  | exact But.upd
  | exact But.self (by tm_at "but")
  | exact But.new1 (by tm_at "but") (by assumption)
  | exact But.new (by tm_at "but") (by tm_at "free")
  | exact L2.Same.but (by assumption) _)
local macro_rules | `(tactic| tm_at "fact") => `(tactic| first
  | exact upd_same
  | assumption
  | exact SqL.of upd_same
  | exact SqT.of upd_same
  | exact SqL.of (by assumption)
  | exact SqT.of (by assumption)
  | exact But.lstR (by assumption) (by assumption) (by tm_at "but"))
local macro_rules | `(tactic| tm_at "cond") => `(tactic| first
  | rfl
  | assumption
  | decide
  | omega
  | exact ⟨by decide, by decide⟩
  | exact .inr ⟨by decide, by decide⟩
  | exact .inl ⟨by decide, by decide⟩
  | exact ⟨by decide, by decide, by decide⟩
  | exact cdivw (by assumption) (by assumption)
  | exact log2_ok (by assumption)
  | exact Or.inl ⟨rfl, _, SqL.of upd_same⟩
  | exact Or.inl ⟨rfl, _, SqL.of (by assumption)⟩
  | exact ⟨_, rfl⟩
  | exact Nat.le_of_ble_eq_true rfl
  | exact small1000 (by omega))
local macro_rules | `(tactic| tm_at "prop") => `(tactic| first
  | assumption
  | omega)
local macro_rules | `(tactic| tm_at "s") => `(tactic| first
  | refine ⟨_, rfl, ?_⟩
  | refine ⟨_, _, rfl, rfl, ?_⟩
  | refine ⟨_, _, _, rfl, rfl, (by tm_at "fact"), (by tm_at "cond"), ?_⟩
  | refine ⟨_, _, _, _, rfl, rfl, (by tm_at "fact"), rfl, ?_⟩
  | refine ⟨_, _, rfl, (by tm_at "fact"), ?_⟩
  | refine And.intro (by tm_at "cond") ?_
  | refine .inl ⟨_, rfl, ?_⟩
  | refine ⟨_, _, rfl, .inl (by tm_at "fact"), ?_⟩
  | refine dec_false (by tm_at "prop") ?_
  | refine dec_true (by tm_at "prop") ?_
  | refine decN_false (by tm_at "prop") ?_
  | refine decN_true (by tm_at "prop") ?_
  | refine iteT ?_
  | refine iteF ?_
  | refine ⟨_, _, rfl, ?_⟩)
local macro_rules | `(tactic| tm_at "go") => `(tactic| repeat tm_at "s")

section
variable {P : Program} {w : World} {K : PySem.W.Frag} {mg : Str → Option Value} {base : Heap} {aH aR : Addr}
/-! ### the words of a form, read by the law: plain -/
def numv (x : Str) : Int := (PySem.intText? x).getD 0
def tmv (T : Str) : Option (Str × Int) :=
  if (Txt.partition T (S "*")).2.1 = Str.empty then
    (if isDg T = true then some (Str.empty, numv T) else if isN T = true then some (T, 1) else none)
  else if isDg (Txt.partition T (S "*")).1 = true ∧ isN (Txt.partition T (S "*")).2.2 = true then some ((Txt.partition T (S "*")).2.2, numv (Txt.partition T (S "*")).1) else none
def neg0 (w : Str) : Prop := cutS w none (some 1) = S "-"
noncomputable instance (w : Str) : Decidable (neg0 w) := Classical.propDecidable _
noncomputable def trm (ws : List Str) (k : Nat) : Str := if k = 0 then (if neg0 (ws.getD 0 Str.empty) then cutS (ws.getD 0 Str.empty) (some 1) none else ws.getD 0 Str.empty) else ws.getD (2 * k) Str.empty
noncomputable def sgw (ws : List Str) (k : Nat) : Int := if k = 0 then (if neg0 (ws.getD 0 Str.empty) then -1 else 1) else if ws.getD (2 * k - 1) Str.empty = S "-" then -1 else 1
noncomputable def pq (ws : List Str) (k : Nat) : Option (Str × Int) := (tmv (trm ws k)).map fun p => (p.1, sgw ws k * p.2)
theorem isDg_num (n : Nat) : isDg (num n) = true := by
  unfold isDg
  have h1 : (tl (num n)).isEmpty = false := by
    cases e : tl (num n) with
    | nil => exact absurd e (num_ne n)
    | cons a b => rfl
  rw [h1, Bool.not_false, Bool.true_and]
  exact List.all_eq_true.mpr fun c hc => decide_eq_true (num_mem hc)
theorem isDg_name {x : Str} (h : isN x = true) : isDg x = false := by
  cases e : tl x with
  | nil =>
    unfold isDg
    rw [e]
    rfl
  | cons c r =>
    unfold isN at h
    rw [e] at h
    have h : (decide (c ∈ nh) && r.all fun d => decide (d ∈ nh) || decide (d ∈ dg)) = true := h
    rw [Bool.and_eq_true] at h
    have dis : ∀ c ∈ nh, c ∉ dg := by decide +kernel
    have hc := dis c (of_decide_eq_true h.1)
    unfold isDg
    rw [e, List.all_cons, decide_eq_false hc, Bool.false_and, Bool.and_false]
theorem numv_num {n : Nat} (h : n < 10 ^ 60) : numv (num n) = (n : Int) := by
  have hint : PySem.intText? (num n) = some (n : Int) := int_num (by
    have := num_len h
    rw [← tl_numS, ← len_tl]
    omega)
  unfold numv
  rw [hint]
  rfl
theorem star_ne : S "*" ≠ Str.empty := by decide +kernel
theorem tmv_tm {p : Str × Int} (h : POk p) : tmv (tm p.1 p.2.natAbs) = some (p.1, ((p.2.natAbs : Nat) : Int)) := by
  have hn : p.1 = Str.empty ∨ (NameOk p.1 ∧ 1 ≤ p.2.natAbs) := h.1.imp id fun x => ⟨x.1, by omega⟩
  have hb := h.2
  unfold tmv
  rcases part_term hn with ⟨e, ep⟩ | ⟨hn, e, ep⟩ | ⟨hn, ep⟩
  · have et : tm p.1 p.2.natAbs = num p.2.natAbs := by
      unfold tm
      rw [if_pos e]
    rw [ep, if_pos rfl, et, if_pos (isDg_num _), numv_num hb, e]
  · have et : tm p.1 p.2.natAbs = p.1 := by
      unfold tm
      rw [if_neg hn.ne, if_pos e]
    rw [ep, if_pos rfl, et, if_neg (by rw [isDg_name hn.is]; exact Bool.false_ne_true), if_pos hn.is, e]
    rfl
  · rw [ep, if_neg star_ne, if_pos ⟨isDg_num _, hn.is⟩, numv_num hb]
theorem getD_of {ws : List Str} {j : Nat} {x : Str} (h : ws[j]? = some x) : ws.getD j Str.empty = x := by
  rw [List.getD_eq_getElem?_getD, h]
  rfl
theorem pq_wd {f : M.Form} (h : FOk f) {k : Nat} {p : Str × Int} (hp : (terms f)[k]? = some p) : pq (wd f) k = some p := by
  have hPO := terms_ok h
  obtain ⟨p0, rest, et⟩ : ∃ p0 rest, terms f = p0 :: rest := by
    cases e : terms f with
    | nil => exact absurd e (terms_ne f)
    | cons p r => exact ⟨p, r, rfl⟩
  have hwd : wd f = (M.sg p0.2 ++ tm p0.1 p0.2.natAbs) :: wdl rest := by
    unfold wd
    rw [et]
    rfl
  have hpo := hPO p (List.mem_of_getElem? hp)
  rw [et] at hp
  rw [hwd]
  unfold pq trm sgw
  cases k with
  | zero =>
    obtain rfl : p0 = p := Option.some.inj hp
    rw [if_pos rfl, if_pos rfl, show (List.getD ((M.sg p0.2 ++ tm p0.1 p0.2.natAbs) :: wdl rest) 0 Str.empty) = M.sg p0.2 ++ tm p0.1 p0.2.natAbs from rfl]
    by_cases hz : p0.2 < 0
    · have hsg : M.sg p0.2 = S "-" := by
        unfold M.sg
        rw [if_pos hz]
      have h1 : neg0 (M.sg p0.2 ++ tm p0.1 p0.2.natAbs) := by
        rw [hsg]
        refine ext_tl ?_
        refine (cut_to (S "-" ++ _) 1).trans ?_
        rw [tl_append, tl_minus]
        rfl
      have h2 : cutS (M.sg p0.2 ++ tm p0.1 p0.2.natAbs) (some 1) none = tm p0.1 p0.2.natAbs := by
        rw [hsg]
        refine ext_tl ?_
        refine (cut_from (S "-" ++ _) 1).trans ?_
        rw [tl_append, tl_minus]
        rfl
      rw [if_pos h1, if_pos h1, h2, tmv_tm hpo]
      refine congrArg some (Prod.ext rfl ?_)
      show -1 * ((p0.2.natAbs : Nat) : Int) = p0.2
      omega
    · have hsg : M.sg p0.2 = Str.empty := by
        unfold M.sg
        rw [if_neg hz]
      have h1 : ¬ neg0 (M.sg p0.2 ++ tm p0.1 p0.2.natAbs) := by
        rw [hsg, empty_app]
        intro z
        have z2 : tl (cutS (tm p0.1 p0.2.natAbs) none (some ((1 : Nat) : Int))) = tl (S "-") := congrArg tl z
        rw [cut_to, tl_minus] at z2
        exact tm_head hpo z2
      rw [if_neg h1, if_neg h1, hsg, empty_app, tmv_tm hpo]
      refine congrArg some (Prod.ext rfl ?_)
      show 1 * ((p0.2.natAbs : Nat) : Int) = p0.2
      omega
  | succ j =>
    have hr : rest[j]? = some p := hp
    obtain ⟨w1, w2⟩ := wdl_at rest j p hr
    rw [if_neg (Nat.succ_ne_zero j), if_neg (Nat.succ_ne_zero j)]
    rw [getD_of (j := 2 * (j + 1)) (x := tm p.1 p.2.natAbs) (by
      rw [show 2 * (j + 1) = 2 * j + 1 + 1 by omega, List.getElem?_cons_succ]
      exact w2)]
    rw [getD_of (j := 2 * (j + 1) - 1) (x := pm p.2) (by
      rw [show 2 * (j + 1) - 1 = 2 * j + 1 by omega, List.getElem?_cons_succ]
      exact w1)]
    rw [tmv_tm hpo]
    refine congrArg some (Prod.ext rfl ?_)
    show (if pm p.2 = S "-" then (-1 : Int) else 1) * ((p.2.natAbs : Nat) : Int) = p.2
    unfold pm
    have hne : S "+" ≠ S "-" := by decide +kernel
    by_cases hz : p.2 < 0
    · rw [if_pos hz, if_pos rfl]
      omega
    · rw [if_neg hz, if_neg hne]
      omega
theorem wd_odd {f : M.Form} (h : FOk f) {k : Nat} {x : Str} (hx : (wd f)[2 * k + 1]? = some x) : x = S "+" ∨ x = S "-" := by
  obtain ⟨p0, rest, et⟩ : ∃ p0 rest, terms f = p0 :: rest := by
    cases e : terms f with
    | nil => exact absurd e (terms_ne f)
    | cons p r => exact ⟨p, r, rfl⟩
  have hwd : wd f = (M.sg p0.2 ++ tm p0.1 p0.2.natAbs) :: wdl rest := by
    unfold wd
    rw [et]
    rfl
  rw [hwd, List.getElem?_cons_succ] at hx
  have hl := (List.getElem?_eq_some_iff.mp hx).1
  rw [wdl_count] at hl
  have hr : rest[k]? = some rest[k] := List.getElem?_eq_getElem (by omega)
  rw [(wdl_at rest k _ hr).1] at hx
  obtain rfl := Option.some.inj hx
  unfold pm
  split
  · exact .inr rfl
  · exact .inl rfl
theorem wd_len {f : M.Form} : (wd f).length + 1 = 2 * (terms f).length := by
  have h2 := wdt_count _ (terms_ne f)
  have h3 : 0 < (terms f).length := List.length_pos_iff.mpr (terms_ne f)
  unfold wd
  omega
theorem prs_even {ws : List Str} (h : ws.length % 2 = 0) : prs ws = none := by
  cases e : prs ws with
  | none => rfl
  | some f =>
    obtain ⟨_, h2⟩ := prs_some e
    have := wd_len (f := f)
    rw [h2] at this
    omega
theorem prs_sign {ws : List Str} {k : Nat} {x : Str} (hx : ws[2 * k + 1]? = some x) (h1 : x ≠ S "+") (h2 : x ≠ S "-") : prs ws = none := by
  cases e : prs ws with
  | none => rfl
  | some f =>
    obtain ⟨hf, rfl⟩ := prs_some e
    exact ((wd_odd hf hx).elim h1 h2).elim
theorem prs_term {ws : List Str} {k : Nat} (hk : 2 * k < ws.length) (h : pq ws k = none) : prs ws = none := by
  cases e : prs ws with
  | none => rfl
  | some f =>
    obtain ⟨hf, rfl⟩ := prs_some e
    have hl := wd_len (f := f)
    rw [pq_wd hf (List.getElem?_eq_getElem (show k < (terms f).length by omega))] at h
    cases h
def cns (qs : List (Str × Int)) : Int := ((qs.filter fun p => decide (p.1 = Str.empty)).map (·.2)).sum
def nms (qs : List (Str × Int)) : List (Str × Int) := qs.filter fun p => !decide (p.1 = Str.empty)
theorem prs_same {ws : List Str} {f : M.Form} {qs : List (Str × Int)} (e : prs ws = some f) (hl : 2 * qs.length = ws.length + 1) (hq : ∀ k, k < qs.length → pq ws k = qs[k]?) : qs = terms f := by
  obtain ⟨hf, rfl⟩ := prs_some e
  have hw := wd_len (f := f)
  have hll : qs.length = (terms f).length := by omega
  refine List.ext_getElem? fun k => ?_
  by_cases hk : k < qs.length
  · rw [← hq k hk, pq_wd hf (List.getElem?_eq_getElem (show k < (terms f).length by omega)), List.getElem?_eq_getElem (show k < (terms f).length by omega)]
  · rw [List.getElem?_eq_none (by omega), List.getElem?_eq_none (by omega)]
theorem prs_form {ws : List Str} {f : M.Form} {qs : List (Str × Int)} {ys : List Str} (e : prs ws = some f) (hl : 2 * qs.length = ws.length + 1) (hq : ∀ k, k < qs.length → pq ws k = qs[k]?)
    (hy : ys.Perm ((totals (nms qs)).map (·.1))) (hs : ys.Pairwise sLe) : (cns qs, tms (nms qs) ys) = f := by
  have e1 := prs_same e hl hq
  obtain ⟨hf, rfl⟩ := prs_some e
  subst e1
  unfold cns nms at *
  rw [consts_sum hf]
  rw [names_kept hf] at hy ⊢
  rw [tms_self hf hy hs]
theorem prs_yes {ws : List Str} {qs : List (Str × Int)} {ys : List Str} (hc : ∀ x ∈ ws, Clean x) (hl : 2 * qs.length = ws.length + 1) (hq : ∀ k, k < qs.length → pq ws k = qs[k]?)
    (hy : ys.Perm ((totals (nms qs)).map (·.1))) (hs : ys.Pairwise sLe) (hf : FOk (cns qs, tms (nms qs) ys)) (hw : wr (cns qs, tms (nms qs) ys) = Txt.join (S " ") ws) : prs ws = some (cns qs, tms (nms qs) ys) := by
  have hne : ws ≠ [] := fun z => by
    subst z
    have : ([] : List Str).length = 0 := rfl
    omega
  have h1 := wr_split hf
  rw [hw, join_split hc hne] at h1
  cases e : prs ws with
  | none => exact absurd h1.symm (prs_none e _ hf)
  | some f => rw [prs_form e hl hq hy hs]
theorem prs_no {ws : List Str} {qs : List (Str × Int)} {ys : List Str} (hl : 2 * qs.length = ws.length + 1) (hq : ∀ k, k < qs.length → pq ws k = qs[k]?)
    (hy : ys.Perm ((totals (nms qs)).map (·.1))) (hs : ys.Pairwise sLe) (hw : wr (cns qs, tms (nms qs) ys) ≠ Txt.join (S " ") ws) : prs ws = none := by
  cases e : prs ws with
  | none => rfl
  | some f =>
    refine absurd ?_ hw
    rw [prs_form e hl hq hy hs, wr_join, (prs_some e).2]
end
end C
set_option Elab.async false
set_option linter.all false
set_option pp.maxSteps 1500
set_option maxRecDepth 100000
set_option maxHeartbeats 4000000
namespace C
open PySem PySem.Spec PyProof.Rows L2 Kx M TL
local macro_rules | `(tactic| tm_at "same") => `(tactic| first
  | assumption
  | exact L2.Same.refl _
  | exact L2.Same.upd (by tm_at "same") (by tm_at "free")
  | exact sameTransR (by assumption) (by tm_at "same"))
local macro_rules | `(tactic| tm_at "free") => `(tactic| first
  | assumption
  | exact sameFreeR (by assumption) (by tm_at "same"))
local macro_rules | `(tactic| tm_at "but") => `(tactic| first
  | assumption
  | exact But.refl _ _
  | exact But.transR (by assumption) (by tm_at "but")
  | exact But.upd
  | exact But.self (by tm_at "but")
  | exact But.new1 (by tm_at "but") (by assumption)
  | exact But.new (by tm_at "but") (by tm_at "free")
  | exact L2.Same.but (by assumption) _)
local macro_rules | `(tactic| tm_at "fact") => `(tactic| first
  | exact upd_same
  | assumption
  | exact SqL.of upd_same
  | exact SqT.of upd_same
  | exact SqL.of (by assumption)
  | exact SqT.of (by assumption)
  | exact But.lstR (by assumption) (by assumption) (by tm_at "but"))
local macro_rules | `(tactic| tm_at "cond") => `(tactic| first
  | rfl
  | assumption
  | decide
  | omega
  | exact ⟨by decide, by decide⟩
  | exact .inr ⟨by decide, by decide⟩
  | exact .inl ⟨by decide, by decide⟩
  | exact ⟨by decide, by decide, by decide⟩
  | exact cdivw (by assumption) (by assumption)
  | exact log2_ok (by assumption)
  | exact Or.inl ⟨rfl, _, SqL.of upd_same⟩
  | exact Or.inl ⟨rfl, _, SqL.of (by assumption)⟩
  | exact ⟨_, rfl⟩
  | exact Nat.le_of_ble_eq_true rfl
  | exact small1000 (by omega))
local macro_rules | `(tactic| tm_at "prop") => `(tactic| first
  | assumption
  | omega)
local macro_rules | `(tactic| tm_at "s") => `(tactic| first
  | refine ⟨_, rfl, ?_⟩
  | refine ⟨_, _, rfl, rfl, ?_⟩
  | refine ⟨_, _, _, rfl, rfl, (by tm_at "fact"), (by tm_at "cond"), ?_⟩
  | refine ⟨_, _, _, _, rfl, rfl, (by tm_at "fact"), rfl, ?_⟩
  | refine ⟨_, _, rfl, (by tm_at "fact"), ?_⟩
  | refine And.intro (by tm_at "cond") ?_
  | refine .inl ⟨_, rfl, ?_⟩
  | refine ⟨_, _, rfl, .inl (by tm_at "fact"), ?_⟩
  | refine dec_false (by tm_at "prop") ?_
  | refine dec_true (by tm_at "prop") ?_
  | refine decN_false (by tm_at "prop") ?_
  | refine decN_true (by tm_at "prop") ?_
  | refine iteT ?_
  | refine iteF ?_
  | refine ⟨_, _, rfl, ?_⟩)
local macro_rules | `(tactic| tm_at "go") => `(tactic| repeat tm_at "s")

section
variable {P : Program} {w : World} {K : PySem.W.Frag} {mg : Str → Option Value} {base : Heap} {aH aR : Addr}
/-! ### the law's own reading of a form's words -/
def spParsed (K : PySem.W.Frag) : Sp := fun vs H Q _ => ∃ (a : Addr) (ws : List Str), vs = [.ref a] ∧ SqL K H a (ws.map V.str) ∧ LW ws ∧
  (∀ H', prs ws = none → Same H H' → Q .non H') ∧ ∀ f v H', prs ws = some f → FOk f → Same H H' → Im K H' v (fD f) → Q v H'
theorem getD_lt {ws : List Str} {j : Nat} (h : j < ws.length) : ws[j]? = some (ws.getD j Str.empty) := by
  rw [List.getD_eq_getElem?_getD, List.getElem?_eq_getElem h]
  rfl
theorem at_strs {ws : List Str} {j : Nat} {i : Int} (h : j < ws.length) (e : i = (j : Int)) : atI (ws.map V.str) i = some (V.str (ws.getD j Str.empty)) := by
  refine at_of (j := j) e ?_
  rw [List.getElem?_map, getD_lt h]
  rfl
theorem cns_snoc (qs : List (Str × Int)) (z : Int) : cns (qs ++ [(Str.empty, z)]) = cns qs + z := by
  unfold cns
  rw [List.filter_append, List.map_append, List.sum_append]
  have : [(Str.empty, z)].filter (fun p : Str × Int => decide (p.1 = Str.empty)) = [(Str.empty, z)] := List.filter_cons_of_pos (decide_eq_true rfl)
  rw [this]
  show _ + (z + 0) = _
  omega
theorem cns_snocN (qs : List (Str × Int)) {nm : Str} (z : Int) (h : nm ≠ Str.empty) : cns (qs ++ [(nm, z)]) = cns qs := by
  unfold cns
  rw [List.filter_append]
  have : [(nm, z)].filter (fun p : Str × Int => decide (p.1 = Str.empty)) = [] := List.filter_cons_of_neg (by rw [decide_eq_false h]; exact Bool.false_ne_true)
  rw [this, List.append_nil]
theorem nms_snoc (qs : List (Str × Int)) (z : Int) : nms (qs ++ [(Str.empty, z)]) = nms qs := by
  unfold nms
  rw [List.filter_append]
  have : [(Str.empty, z)].filter (fun p : Str × Int => !decide (p.1 = Str.empty)) = [] := List.filter_cons_of_neg (by rw [decide_eq_true rfl]; exact Bool.false_ne_true)
  rw [this, List.append_nil]
theorem nms_snocN (qs : List (Str × Int)) {nm : Str} (z : Int) (h : nm ≠ Str.empty) : nms (qs ++ [(nm, z)]) = nms qs ++ [(nm, z)] := by
  unfold nms
  rw [List.filter_append]
  have : [(nm, z)].filter (fun p : Str × Int => !decide (p.1 = Str.empty)) = [(nm, z)] := List.filter_cons_of_pos (by rw [decide_eq_false h]; rfl)
  rw [this]
theorem next_at {α : Type} {g : Nat → Option α} {qs : List α} {i : Nat} {x : α} (hl : qs.length = i) (h : ∀ k, k < i → g k = qs[k]?) (hx : g i = some x) : ∀ k, k < i + 1 → g k = (qs ++ [x])[k]? := fun k hk => by
  by_cases e : k = i
  · subst e
    rw [hx, List.getElem?_append_right (by omega), hl, Nat.sub_self]
    rfl
  · rw [h k (by omega), List.getElem?_append_left (by omega)]
theorem dg_all {x : Str} (h : isDg x = true) : (∀ c ∈ tl x, c ∈ dg) ∧ tl x ≠ [] := by
  unfold isDg at h
  rw [Bool.and_eq_true] at h
  refine ⟨fun c hc => of_decide_eq_true (List.all_eq_true.mp h.2 c hc), fun e => ?_⟩
  rw [e] at h
  exact absurd h.1 (by decide)
theorem isN_ne {x : Str} (h : isN x = true) : x ≠ Str.empty := fun e => by
  rw [e] at h
  exact absurd h (by decide)
def badS (x : Str) : Bool := !decide (x ∈ [S "+", S "-"])
theorem range_snoc {α : Type} (n : Nat) (f : Nat → α) : (List.range (n + 1)).map f = (List.range n).map f ++ [f n] := by
  rw [List.range_succ, List.map_append]
  rfl
theorem rg_even {n : Nat} {j : Int} (hj : j = 2 * (n : Int) + 1) (h : n < 1000000) : RgC 0 j 2 (n + 1) := by
  have e : Builtin.Range.rangeSize 0 j 2 = n + 1 := by
    unfold Builtin.Range.rangeSize
    rw [if_pos (by decide)]
    split <;> omega
  refine ⟨by omega, by omega, ?_, e⟩
  have hn : (n : Int) < 1000000 := by omega
  have h0 : 0 ≤ (n : Int) := by omega
  unfold Builtin.Range.small
  rw [e]
  show (Builtin.Range.rangeFitsLong 0 && Builtin.Range.rangeFitsLong j && Builtin.Range.rangeFitsLong 2 && Builtin.Range.rangeFitsLong ((n : Int) + 1) && ((n : Int) + 1 == 0 || if (2 : Int) > 0 then Builtin.Range.rangeFitsLong (j + (2 - 1)) else Builtin.Range.rangeFitsLong (j + (2 + 1)))) = true
  generalize (n : Int) = m at hj hn h0 ⊢
  unfold Builtin.Range.rangeFitsLong
  have p : (2 : Int) ^ 63 = 9223372036854775808 := by decide
  rw [p]
  simp only [Bool.and_eq_true, Bool.or_eq_true, decide_eq_true_eq, beq_iff_eq, show (2 : Int) > 0 by decide, if_true]
  omega
theorem sc__law_parsed : FnScope ["words", "k", "constant", "pairs", "term", "sign", "digits", "star", "name", "f"] ["words"] (defScope s__law_parsed) := ⟨rfl, rfl, rfl, by decide +kernel, rfl, by decide +kernel, by decide +kernel⟩
theorem ok__law_parsed {k : Nat} (D : Def K mg "_law_parsed" "_law_parsed" s__law_parsed ["words"]) (B : Bi mg) (c__law_is_digits : Cal P w K mg base CX0 k "_law_is_digits" ["text"] spIsDg) (c__law_is_form_name : Cal P w K mg base CX0 k "_law_is_form_name" ["text"] spIsName)
    (c__law_form : Cal P w K mg base CX0 k "_law_form" ["constant", "pairs"] (spForm K)) (c__law_written : Cal P w K mg base CX0 k "_law_written" ["f"] (spWriteForm K)) : Cal P w K mg base CX0 (k + 1) "_law_parsed" ["words"] (spParsed K) := by
  refine D.cal fun f fd F => F.ok sc__law_parsed (fun vs H Q E h => ?_) (fun cdv A outer s H vs Q E hr h => ?_)
  · obtain ⟨a, ws, rfl, _⟩ := h
    rfl
  · obtain ⟨a, ws, rfl, ha, lw, q1, q2⟩ := h
    have nd := sc__law_parsed.nd
    refine ⟨_, (pss_cons (ps_if (PW.pt (pw_or (pt_cmpR op_eq (pe_op op_mul (pe_op op_fdivW (pe_callB call_len_seq (by rfl) B.len (by decide +kernel) (pa_cons (pv 0) pa_nil)) pe_int) pe_int) (pe_callB call_len_seq (by rfl) B.len (by decide +kernel) (pa_cons (pv 0) pa_nil)) (nomark _)) (pw_or1 (pt_val (pe_callB (cr_any rfl) (by rfl) B.any (by decide +kernel) (pa_cons (pe_lc (own := [("k", 1)]) (by rfl) nd (pi_range3 (by rfl) B.range (pa_cons pe_int (pa_cons (pe_callB call_len_seq (by rfl) B.len (by decide +kernel) (pa_cons (pv 0) pa_nil)) (pa_cons pe_int pa_nil)))) (blkOk_by (own := [("k", 1)]) (N := ["words", "k", "constant", "pairs", "term", "sign", "digits", "star", "name", "f"]) (sc := defScope s__law_parsed) (by decide +kernel)) (fun _ _ _ _ _ => (pg_name (i := 1) nd rfl (Or.inl rfl))) (fun _ _ _ _ _ => pts_nil) (fun _ _ _ _ _ => (pe_cmpR (op_notIn_seqK (K := K) rfl) (pe_ix (ix_listK (K := K) rfl) (pv 0) (pv 1) (fun _ _ => rfl)) (pe_lst (pa_cons pe_str (pa_cons pe_str pa_nil))) (by rfl)))) pa_nil))))))
        (pss_one (ps_ret pe_non))
        pss_nil)
      (pss_cons (ps_set (i := 2) nd rfl (Or.inl rfl) pe_int)
      (pss_cons (ps_set (i := 3) nd rfl (Or.inl rfl) (pe_lst pa_nil))
      (pss_cons (ps_for PassesOwn.never rfl (pi_range3 (by rfl) B.range (pa_cons pe_int (pa_cons (pe_callB call_len_seq (by rfl) B.len (by decide +kernel) (pa_cons (pv 0) pa_nil)) (pa_cons pe_int pa_nil)))) (pg_name (i := 1) nd rfl (Or.inl rfl))
        (pss_cons (ps_set (i := 4) nd rfl (Or.inl rfl) (pe_ix ix_list (pv 0) (pv 1) (fun _ _ => rfl)))
        (pss_cons (ps_set (i := 5) nd rfl (Or.inl rfl) pe_int)
        (C8.pss_cut (ps_if (PW.pt (pw_or (PW.pt (pw_and (pt_cmpR op_gt (pv 1) pe_int (nomark _)) (pw_and1 (pt_cmpR op_eq (pe_ix ix_list (pv 0) (pe_op op_sub (pv 1) pe_int) (fun _ _ => rfl)) pe_str (nomark _))))) (pw_or1 (PW.pt (pw_and (pt_cmpR op_eq (pv 1) pe_int (nomark _)) (pw_and1 (pt_cmpR op_eq (pe_slice sl_str (pv 4) po_none (po_some pe_int)) pe_str (nomark _))))))))
          (pss_one (ps_set (i := 5) nd rfl (Or.inl rfl) (pe_un un_neg pe_int)))
          pss_nil)
        (C8.pss_cut (ps_if (PW.pt (pw_and (pt_cmpR op_eq (pv 1) pe_int (nomark _)) (pw_and1 (pt_cmpR op_lt (pv 5) pe_int (nomark _)))))
          (pss_one (ps_set (i := 4) nd rfl (Or.inl rfl) (pe_slice sl_str (pv 4) (po_some pe_int) po_none)))
          pss_nil)
        (pss_cons (ps_asg (pe_partition (pv 4) pe_str) (pg_tup rfl (pgs_cons (pg_name (i := 6) nd rfl (Or.inl rfl)) (pgs_cons (pg_name (i := 7) nd rfl (Or.inl rfl)) (pgs_cons (pg_name (i := 8) nd rfl (Or.inl rfl)) pgs_nil)))))
        (pss_one (ps_if (PW.pt (pw_and (pt_cmpR op_eq (pv 7) pe_str (nomark _)) (pw_and1 (pt_val (pe_cal c__law_is_digits (Room.mono hr (by omega)) (by rfl) (pa_cons (pv 4) pa_nil))))))
          (pss_one (ps_set (i := 2) nd rfl (Or.inl rfl) (pe_op op_add (pv 2) (pe_op op_mul (pv 5) (pe_callTy call_int_str (by rfl) B.int (by decide +kernel) (pa_cons (pv 4) pa_nil))))))
          (pss_one (ps_if (PW.pt (pw_and (pt_cmpR op_eq (pv 7) pe_str (nomark _)) (pw_and1 (pt_val (pe_cal c__law_is_form_name (Room.mono hr (by omega)) (by rfl) (pa_cons (pv 4) pa_nil))))))
            (pss_one (ps_expr (pe_bm PySem.F.plainAttrs_list PySem.F.slot_list_append PySem.F.type_list_append mt_append (pv 3) (pa_cons (pe_tup (pa_cons (pv 4) (pa_cons (pv 5) pa_nil))) pa_nil))))
            (pss_one (ps_if (PW.pt (pw_and (pt_cmpR op_ne (pv 7) pe_str (nomark _)) (pw_and (pt_val (pe_cal c__law_is_digits (Room.mono hr (by omega)) (by rfl) (pa_cons (pv 6) pa_nil))) (pw_and1 (pt_val (pe_cal c__law_is_form_name (Room.mono hr (by omega)) (by rfl) (pa_cons (pv 8) pa_nil)))))))
              (pss_one (ps_expr (pe_bm PySem.F.plainAttrs_list PySem.F.slot_list_append PySem.F.type_list_append mt_append (pv 3) (pa_cons (pe_tup (pa_cons (pv 8) (pa_cons (pe_op op_mul (pv 5) (pe_callTy call_int_str (by rfl) B.int (by decide +kernel) (pa_cons (pv 6) pa_nil))) pa_nil))) pa_nil))))
              (pss_one (ps_ret pe_non))))))))))))))
      (pss_cons (ps_set (i := 9) nd rfl (Or.inl rfl) (pe_cal c__law_form (Room.mono hr (by omega)) (by rfl) (pa_cons (pv 2) (pa_cons (pv 3) pa_nil))))
      (pss_cons (ps_if (pt_cmpR op_ne (pe_cal c__law_written (Room.mono hr (by omega)) (by rfl) (pa_cons (pv 9) pa_nil)) (pe_join pe_str (pv 0)) (nomark _))
        (pss_one (ps_ret pe_non))
        pss_nil)
      (pss_one (ps_ret (pv 9))))))))), ?_⟩
    have big : (100000 : Nat) < sizeLine := by decide
    have hwl := lw.le
    have hl : (ws.map V.str).length = ws.length := List.length_map ..
    have hlen : (ws.length : Int) < 40 := by omega
    refine ⟨_, rfl, a, _, rfl, .inl ha, ?_⟩
    refine ⟨_, _, rfl, rfl, cdivw (by decide) (by decide), ?_⟩
    refine ⟨_, _, rfl, rfl, .inr ⟨by decide, by decide⟩, ?_⟩
    refine ⟨_, rfl, a, _, rfl, .inl ha, ?_⟩
    refine ⟨rfl, _, rfl, ?_⟩
    rw [hl]
    by_cases hev : ws.length % 2 = 0
    · rw [decide_eq_true (congrArg V.int (show (ws.length : Int) / 2 * 2 = (ws.length : Int) by omega))]
      refine iteT ?_
      refine iteT ?_
      exact q1 _ (prs_even hev) (Same.refl _)
    · rw [decide_eq_false (fun z => by
        have := V.int.inj z
        omega)]
      refine iteF ?_
      obtain ⟨n, hn⟩ : ∃ n, ws.length = 2 * n + 1 := ⟨ws.length / 2, by omega⟩
      refine ⟨_, rfl, a, _, rfl, .inl ha, ?_⟩
      refine ⟨_, _, _, n, rfl, rg_odd (by rw [hl, hn]; omega) (by omega), fun D nD => ?_⟩
      refine lc_it walk_rangeC (fun i H' => Same H H' ∧ H' D = some (.lst (((List.range i).map fun j => badS (ws.getD (2 * j + 1) Str.empty)).map V.bl))) ⟨same_new nD, upd_same⟩ (fun _ _ _ _ => trivial) ?_ ?_
      · rintro i v Hx Hy hlt ⟨sx, hDx⟩ ⟨rfl, rfl⟩
        refine ⟨rfl, ?_⟩
        refine ⟨_, rfl, _, rfl, _, _, _, _, rfl, rfl, sx.seq ha, at_strs (j := 2 * i + 1) (by omega) (by omega), ?_⟩
        tm_at "go"
        refine fun t nt => ⟨t, _, rfl, .inl (SqL.of upd_same), rfl, rfl, ?_⟩
        have hDt := (same_new (o := HO.lst [V.str (S "+"), V.str (S "-")]) nt) _ _ hDx
        refine ⟨_, hDt, ?_, ?_, ?_⟩
        · rw [List.length_map, List.length_map, List.length_range]
          omega
        · exact (sx.upd (sx.free nt)).upd nD
        · rw [upd_same, range_snoc, List.map_append]
          have e : (if true = true then !L2.inV (V.str (ws.getD (2 * i + 1) Str.empty)) [V.str (S "+"), V.str (S "-")] else L2.inV (V.str (ws.getD (2 * i + 1) Str.empty)) [V.str (S "+"), V.str (S "-")]) = badS (ws.getD (2 * i + 1) Str.empty) := by
            rw [if_pos rfl]
            exact congrArg Bool.not (inV_strs _ [S "+", S "-"])
          exact congrArg (fun b => some (HO.lst (_ ++ [V.bl b]))) e
      · rintro H1 ⟨s1, hD⟩
        refine ⟨D, _, rfl, SqL.of hD, ?_⟩
        refine ⟨_, rfl, ?_⟩
        cases hany : (((List.range n).map fun j => badS (ws.getD (2 * j + 1) Str.empty)).any id) with
        | true =>
          refine iteT ?_
          obtain ⟨b, hb, hbt⟩ := List.any_eq_true.mp hany
          obtain ⟨j, hj, rfl⟩ := List.mem_map.mp hb
          have hj : j < n := List.mem_range.mp hj
          have hbt : badS (ws.getD (2 * j + 1) Str.empty) = true := hbt
          have hnot : ws.getD (2 * j + 1) Str.empty ∉ [S "+", S "-"] := by
            unfold badS at hbt
            intro z
            rw [decide_eq_true z] at hbt
            cases hbt
          exact q1 _ (prs_sign (getD_lt (show 2 * j + 1 < ws.length by omega)) (fun z => hnot (by rw [z]; simp)) (fun z => hnot (by rw [z]; simp))) s1
        | false =>
          refine iteF ?_
          tm_at "go"
          refine fun lp nlp => ?_
          have s2 : Same H (upd H1 lp (.lst [])) := s1.upd (s1.free nlp)
          have hlp : upd H1 lp (.lst []) lp = some (.lst []) := upd_same
          have hnlp : H lp = none := s1.free nlp
          generalize upd H1 lp (.lst []) = H2 at s2 hlp ⊢
          refine ⟨_, rfl, a, _, rfl, .inl (s2.seq ha), ?_⟩
          refine ⟨_, _, _, n + 1, rfl, rg_even (by rw [hl, hn]; omega) (by omega), ?_⟩
          refine for_it walk_rangeC (fun i σ H' => Bx (∃ (v1 v4 v5 v6 v7 v8 : Option V) (vs : List V) (qs : List (Str × Int)), σ = [some (.ref a), v1, some (.int (cns qs)), some (.ref lp), v4, v5, v6, v7, v8, none] ∧ Same H H' ∧ H' lp = some (.lst vs) ∧ Ims K H' vs ((nms qs).map pD) ∧ qs.length = i ∧ (∀ k, k < i → pq ws k = qs[k]?) ∧ ∀ p ∈ qs, TOk p))
            (.mk ⟨_, _, _, _, _, _, [], [], rfl, s2, hlp, .nil, rfl, fun k hk => absurd hk (Nat.not_lt_zero k), fun p hp => (by cases hp)⟩) (fun _ _ _ _ _ => trivial) ?_ ?_
          · rintro i v σ H3 H4 hi bx ⟨rfl, rfl⟩
            obtain ⟨v1, v4, v5, v6, v7, v8, vs, qs, rfl, s4, hp4, im4, hql, hpq, hto⟩ := bx.out
            refine ⟨_, rfl, _, rfl, _, _, _, _, rfl, rfl, s4.seq ha, at_strs (j := 2 * i) (by omega) (by omega), ?_⟩
            have hwi : 2 * i < ws.length := by omega
            have hW56 : (ws.getD (2 * i) Str.empty).length ≤ 56 := (lw.ok _ (List.mem_of_getElem? (getD_lt hwi))).2.1
            have hWs : (ws.getD (2 * i) Str.empty).length ≤ sizeLine := by omega
            refine ⟨fun σ H' => Bx (σ = [some (.ref a), some (.int (0 + ((i : Nat) : Int) * 2)), some (.int (cns qs)), some (.ref lp), some (.str (ws.getD (2 * i) Str.empty)), some (.int (sgw ws i)), v6, v7, v8, none] ∧ H' = H4), ?_, ?_⟩
            · cases i with
              | zero =>
                have hk0 : ¬ (0 : Int) < 0 + ((0 : Nat) : Int) * 2 := by omega
                have hk1 : V.int (0 + ((0 : Nat) : Int) * 2) = V.int 0 := rfl
                by_cases hneg : V.str (cutS (ws.getD (2 * 0) Str.empty) none (some 1)) = V.str (S "-")
                · have hsg : sgw ws 0 = -1 := by
                    unfold sgw
                    rw [if_pos rfl, if_pos (show neg0 (ws.getD 0 Str.empty) from V.str.inj hneg)]
                  rw [hsg]
                  tm_at "go"
                  exact .mk ⟨rfl, rfl⟩
                · have hsg : sgw ws 0 = 1 := by
                    unfold sgw
                    rw [if_pos rfl, if_neg (fun z : neg0 (ws.getD 0 Str.empty) => hneg (congrArg V.str z))]
                  rw [hsg]
                  tm_at "go"
                  exact .mk ⟨rfl, rfl⟩
              | succ j =>
                have hk0 : (0 : Int) < 0 + ((j + 1 : Nat) : Int) * 2 := by omega
                have hk1 : ¬ V.int (0 + ((j + 1 : Nat) : Int) * 2) = V.int 0 := fun z => by
                  have := V.int.inj z
                  omega
                have ha4 := s4.seq ha
                have a3 : atI (ws.map V.str) (0 + ((j + 1 : Nat) : Int) * 2 - 1) = some (V.str (ws.getD (2 * (j + 1) - 1) Str.empty)) := at_strs (j := 2 * (j + 1) - 1) (by omega) (by omega)
                by_cases hneg : V.str (ws.getD (2 * (j + 1) - 1) Str.empty) = V.str (S "-")
                · have hsg : sgw ws (j + 1) = -1 := by
                    unfold sgw
                    rw [if_neg (Nat.succ_ne_zero j), if_pos (V.str.inj hneg)]
                  rw [hsg]
                  tm_at "go"
                  refine ⟨_, _, _, _, rfl, rfl, ha4, a3, ?_⟩
                  tm_at "go"
                  exact .mk ⟨rfl, rfl⟩
                · have hsg : sgw ws (j + 1) = 1 := by
                    unfold sgw
                    rw [if_neg (Nat.succ_ne_zero j), if_neg (fun z => hneg (congrArg V.str z))]
                  rw [hsg]
                  tm_at "go"
                  refine ⟨_, _, _, _, rfl, rfl, ha4, a3, ?_⟩
                  tm_at "go"
                  exact .mk ⟨rfl, rfl⟩
            · rintro σ H5 bx2
              obtain ⟨rfl, rfl⟩ := bx2.out
              have hT56 : (trm ws i).length ≤ 56 := by
                unfold trm
                split
                · rename_i hi0
                  subst hi0
                  split
                  · rw [len_tl, show tl (cutS (ws.getD 0 Str.empty) (some 1) none) = (tl (ws.getD 0 Str.empty)).drop 1 from cut_from _ 1, List.length_drop, ← len_tl]
                    have : (ws.getD 0 Str.empty).length ≤ 56 := hW56
                    omega
                  · exact hW56
                · exact hW56
              have hSG : sgw ws i = 1 ∨ sgw ws i = -1 := by
                unfold sgw
                split <;> split <;> simp
              refine ⟨fun σ H' => Bx (σ = [some (.ref a), some (.int (0 + ((i : Nat) : Int) * 2)), some (.int (cns qs)), some (.ref lp), some (.str (trm ws i)), some (.int (sgw ws i)), v6, v7, v8, none] ∧ H' = H5), ?_, ?_⟩
              · cases i with
                | zero =>
                  have hk1 : V.int (0 + ((0 : Nat) : Int) * 2) = V.int 0 := rfl
                  by_cases hneg : neg0 (ws.getD 0 Str.empty)
                  · have hsg : sgw ws 0 = -1 := by
                      unfold sgw
                      rw [if_pos rfl, if_pos hneg]
                    have htr : trm ws 0 = cutS (ws.getD (2 * 0) Str.empty) (some 1) none := by
                      unfold trm
                      rw [if_pos rfl, if_pos hneg]
                    rw [hsg, htr]
                    tm_at "go"
                    exact .mk ⟨rfl, rfl⟩
                  · have hsg : sgw ws 0 = 1 := by
                      unfold sgw
                      rw [if_pos rfl, if_neg hneg]
                    have htr : trm ws 0 = ws.getD (2 * 0) Str.empty := by
                      unfold trm
                      rw [if_pos rfl, if_neg hneg]
                    rw [hsg, htr]
                    tm_at "go"
                    exact .mk ⟨rfl, rfl⟩
                | succ j =>
                  have hk1 : ¬ V.int (0 + ((j + 1 : Nat) : Int) * 2) = V.int 0 := fun z => by
                    have := V.int.inj z
                    omega
                  have htr : trm ws (j + 1) = ws.getD (2 * (j + 1)) Str.empty := by
                    unfold trm
                    rw [if_neg (Nat.succ_ne_zero j)]
                  rw [htr]
                  tm_at "go"
                  exact .mk ⟨rfl, rfl⟩
              · rintro σ H6 bx3
                obtain ⟨rfl, rfl⟩ := bx3.out
                have hpt : pq ws i = (tmv (trm ws i)).map fun p => (p.1, sgw ws i * p.2) := rfl
                generalize trm ws i = T at hT56 hpt ⊢
                generalize sgw ws i = SG at hSG hpt ⊢
                have hTs : T.length ≤ sizeLine := by omega
                tm_at "go"
                refine fun p np => ?_
                have s6 : ∀ o, Same H6 (upd H6 p o) := fun o => same_new np
                have hmul : ∀ z : Int, CMul SG z := fun z => .inl (by rcases hSG with e | e <;> subst e <;> exact ⟨by decide, by decide⟩)
                have hsb : ∀ z : Int, z.natAbs < 10 ^ 56 → (SG * z).natAbs < 10 ^ 56 := fun z hz => by rcases hSG with e | e <;> subst e <;> omega
                have hs1 : SG.natAbs < 10 ^ 56 := by
                  have e60 : (2 : Nat) ≤ 10 ^ 56 := by decide
                  rcases hSG with e | e <;> subst e <;> omega
                have hvl := im4.length
                rw [List.length_map] at hvl
                have hnl : (nms qs).length ≤ qs.length := List.length_filter_le _ _
                have finC : ∀ (z : Int) (v1 v4 v5 v6 v7 v8 : Option V) H', pq ws i = some (Str.empty, z) → z.natAbs < 10 ^ 56 → Same H6 H' → Bx (∃ (w1 w4 w5 w6 w7 w8 : Option V) (vs : List V) (rs : List (Str × Int)), [some (.ref a), v1, some (.int (cns qs + z)), some (.ref lp), v4, v5, v6, v7, v8, none] = [some (.ref a), w1, some (.int (cns rs)), some (.ref lp), w4, w5, w6, w7, w8, none] ∧ Same H H' ∧ H' lp = some (.lst vs) ∧ Ims K H' vs ((nms rs).map pD) ∧ rs.length = i + 1 ∧ (∀ k, k < i + 1 → pq ws k = rs[k]?) ∧ ∀ p ∈ rs, TOk p) := by
                  intro z v1 v4 v5 v6 v7 v8 H' hz hb sm
                  refine .mk ⟨_, _, _, _, _, _, vs, qs ++ [(Str.empty, z)], by rw [cns_snoc], s4.trans sm, sm _ _ hp4, ?_, by rw [List.length_append, hql]; rfl, next_at hql hpq hz, fun p hp => ?_⟩
                  · rw [nms_snoc]
                    exact sm.tk.ims im4
                  · rcases List.mem_append.mp hp with z1 | z1
                    · exact hto p z1
                    · rw [List.mem_singleton.mp z1]
                      exact ⟨.inl rfl, hb⟩
                have finN : ∀ (nm : Str) (z : Int) (t : Addr) (v1 v4 v5 v6 v7 v8 : Option V) H', NameOk nm → pq ws i = some (nm, z) → z.natAbs < 10 ^ 56 → Same H6 H' → H' t = none → ∃ l xs y, V.ref lp = .ref l ∧ [V.ref t] = [y] ∧ (upd H' t (.tup [.str nm, .int z])) l = some (.lst xs) ∧ xs.length < sizeLine ∧ Bx (∃ (w1 w4 w5 w6 w7 w8 : Option V) (vs : List V) (rs : List (Str × Int)), [some (.ref a), v1, some (.int (cns qs)), some (.ref lp), v4, v5, v6, v7, v8, none] = [some (.ref a), w1, some (.int (cns rs)), some (.ref lp), w4, w5, w6, w7, w8, none] ∧ Same H (upd (upd H' t (.tup [.str nm, .int z])) l (.lst (xs ++ [y]))) ∧ (upd (upd H' t (.tup [.str nm, .int z])) l (.lst (xs ++ [y]))) lp = some (.lst vs) ∧ Ims K (upd (upd H' t (.tup [.str nm, .int z])) l (.lst (xs ++ [y]))) vs ((nms rs).map pD) ∧ rs.length = i + 1 ∧ (∀ k, k < i + 1 → pq ws k = rs[k]?) ∧ ∀ p ∈ rs, TOk p) := by
                  intro nm z t v1 v4 v5 v6 v7 v8 H' hnm hz hb sm nt
                  have st : Same H' (upd H' t (.tup [.str nm, .int z])) := same_new nt
                  have hlp7 := st _ _ (sm _ _ hp4)
                  refine ⟨lp, vs, .ref t, rfl, rfl, hlp7, small1000 (by omega), .mk ⟨_, _, _, _, _, _, vs ++ [.ref t], qs ++ [(nm, z)], by rw [cns_snocN _ _ hnm.ne], ((s4.trans sm).trans st).upd hnlp, upd_same, ?_, by rw [List.length_append, hql]; rfl, next_at hql hpq hz, fun p hp => ?_⟩⟩
                  · rw [nms_snocN _ _ hnm.ne, List.map_append]
                    exact (TK.lst hlp7).ims (Ims.snoc (st.tk.ims (sm.tk.ims im4)) (pD_of (p := (nm, z)) (SqT.of upd_same)))
                  · rcases List.mem_append.mp hp with z1 | z1
                    · exact hto p z1
                    · rw [List.mem_singleton.mp z1]
                      exact ⟨.inr hnm, hb⟩
                rcases star_cases T with ep | ⟨x, y, hx, hy, ep⟩
                · unfold tmv at hpt
                  rw [ep] at hpt ⊢
                  rw [if_pos rfl] at hpt
                  tm_at "go"
                  refine fun H7 s7 => ?_
                  have s67 := (s6 _).trans s7
                  refine ⟨_, rfl, ?_⟩
                  by_cases hd : isDg T = true
                  · rw [if_pos hd] at hpt
                    have hpt : pq ws i = some (Str.empty, SG * numv T) := hpt
                    rw [hd]
                    refine iteT ?_
                    obtain ⟨m, hint, hm⟩ := int_dg (dg_all hd).1 (dg_all hd).2 hT56
                    have hnv : numv T = (m : Int) := by
                      unfold numv
                      rw [hint]
                      rfl
                    rw [hnv] at hpt
                    tm_at "go"
                    refine ⟨hmul _, ?_⟩
                    tm_at "go"
                    exact finC _ _ _ _ _ _ _ _ hpt (hsb _ (by omega)) s67
                  · rw [if_neg hd] at hpt
                    rw [eq_false_of_ne_true hd]
                    refine iteF ?_
                    tm_at "go"
                    refine fun H8 s8 => ?_
                    have s68 := s67.trans s8
                    refine ⟨_, rfl, ?_⟩
                    by_cases hn : isN T = true
                    · rw [if_pos hn] at hpt
                      have hpt : pq ws i = some (T, SG * 1) := hpt
                      rw [Int.mul_one] at hpt
                      rw [hn]
                      refine iteT ?_
                      have hlp8 := s68 _ _ hp4
                      tm_at "go"
                      refine fun t nt => ?_
                      exact finN _ _ t _ _ _ _ _ _ _ ⟨hn, by omega⟩ hpt hs1 s68 nt
                    · rw [if_neg hn] at hpt
                      have hpt : pq ws i = none := hpt
                      rw [eq_false_of_ne_true hn]
                      refine iteF ?_
                      tm_at "go"
                      exact q1 _ (prs_term hwi hpt) (s4.trans s68)
                · unfold tmv at hpt
                  rw [ep] at hpt ⊢
                  rw [if_neg star_ne] at hpt
                  have hst : ¬ V.str (x, S "*", y).2.1 = V.str (S "") := fun z => star_ne (V.str.inj z)
                  tm_at "go"
                  refine ⟨by show x.length ≤ 1000; omega, fun H7 s7 => ?_⟩
                  have s67 := (s6 _).trans s7
                  refine ⟨_, rfl, ?_⟩
                  have hxx : (x, S "*", y).1 = x := rfl
                  rw [hxx]
                  by_cases hd : isDg x = true
                  · rw [hd]
                    refine iteT ?_
                    tm_at "go"
                    refine ⟨by show y.length ≤ 1000; omega, fun H8 s8 => ?_⟩
                    have s68 := s67.trans s8
                    refine ⟨_, rfl, ?_⟩
                    have hyy : (x, S "*", y).2.2 = y := rfl
                    rw [hyy]
                    by_cases hn : isN y = true
                    · rw [if_pos ⟨hd, hn⟩] at hpt
                      have hpt : pq ws i = some (y, SG * numv x) := hpt
                      rw [hn]
                      refine iteT ?_
                      obtain ⟨m, hint, hm⟩ := int_dg (dg_all hd).1 (dg_all hd).2 (by omega : x.length ≤ 56)
                      have hnv : numv x = (m : Int) := by
                        unfold numv
                        rw [hint]
                        rfl
                      rw [hnv] at hpt
                      have hlp8 := s68 _ _ hp4
                      have hint : PySem.intText? (x, S "*", y).1 = some (m : Int) := hint
                      have hxl : (x, S "*", y).1.length ≤ 640 := (by omega : x.length ≤ 640)
                      tm_at "go"
                      refine ⟨hmul _, ?_⟩
                      tm_at "go"
                      refine fun t nt => ?_
                      exact finN _ _ t _ _ _ _ _ _ _ ⟨hn, by omega⟩ hpt (hsb _ (by omega)) s68 nt
                    · rw [if_neg (fun z => hn z.2)] at hpt
                      have hpt : pq ws i = none := hpt
                      rw [eq_false_of_ne_true hn]
                      refine iteF ?_
                      tm_at "go"
                      exact q1 _ (prs_term hwi hpt) (s4.trans s68)
                  · rw [if_neg (fun z => hd z.1)] at hpt
                    have hpt : pq ws i = none := hpt
                    rw [eq_false_of_ne_true hd]
                    refine iteF ?_
                    refine iteF ?_
                    tm_at "go"
                    exact q1 _ (prs_term hwi hpt) (s4.trans s67)
          · rintro σ H3 bx
            obtain ⟨v1, v4, v5, v6, v7, v8, vs, qs, rfl, s4, hp4, im4, hql, hpq, hto⟩ := bx.out
            have hvl := im4.length
            rw [List.length_map] at hvl
            have hnl : (nms qs).length ≤ qs.length := List.length_filter_le _ _
            have hsum : (cns qs).natAbs ≤ 40 * 10 ^ 56 := by
              have h1 := sum_abs (b := 10 ^ 56) ((qs.filter fun p : Str × Int => decide (p.1 = Str.empty)).map (fun p : Str × Int => p.2)) fun z hz => by
                obtain ⟨p, hp, rfl⟩ := List.mem_map.mp hz
                exact Nat.le_of_lt (hto p (List.mem_filter.mp hp).1).2
              rw [List.length_map] at h1
              have h2 := List.length_filter_le (fun p : Str × Int => decide (p.1 = Str.empty)) qs
              have h3 : (qs.filter fun p : Str × Int => decide (p.1 = Str.empty)).length ≤ 40 := by omega
              exact Nat.le_trans h1 (Nat.mul_le_mul_right _ h3)
            have hfo : ∀ p ∈ nms qs, NameOk p.1 ∧ p.2.natAbs ≤ 10 ^ 56 := fun p hp => by
              obtain ⟨h1, h2⟩ := List.mem_filter.mp hp
              have h3 := hto p h1
              refine ⟨?_, Nat.le_of_lt h3.2⟩
              rcases h3.1 with z | z
              · rw [decide_eq_true z] at h2
                cases h2
              · exact z
            refine ⟨_, rfl, _, rfl, cns qs, lp, vs, nms qs, rfl, SqL.of hp4, im4, by omega, fun r H4 ys py sy s5 imr => ?_⟩
            have hfok := fok_tms2 hsum hfo (by omega) py sy
            have s6 := s4.trans s5
            tm_at "go"
            refine fun H5 s7 => ?_
            have s67 := s6.trans s7
            have hsumw : (ws.map (·.length)).sum + ws.length * (S " ").length ≤ 16777216 := by
              have h2 := sum_le (b := 56) fun x hx => (lw.ok x hx).2.1
              have e : (S " ").length = 1 := by decide +kernel
              rw [e]
              omega
            refine ⟨⟨_, rfl⟩, _, rfl, S " ", a, ws, rfl, rfl, .inl (s67.seq ha), hsumw, ?_⟩
            refine ⟨rfl, _, rfl, ?_⟩
            have him := s7.tk.im imr
            have hl2 : 2 * qs.length = ws.length + 1 := by omega
            have hpq2 : ∀ k, k < qs.length → pq ws k = qs[k]? := fun k hk => hpq k (by omega)
            by_cases hw : wr (cns qs, tms (nms qs) ys) = Txt.join (S " ") ws
            · refine decN_false (congrArg V.str hw) ?_
              tm_at "go"
              exact q2 _ _ _ (prs_yes (fun x hx => (lw.ok x hx).1) hl2 hpq2 py sy hfok hw) hfok s67 him
            · refine decN_true (fun z => hw (V.str.inj z)) ?_
              tm_at "go"
              exact q1 _ (prs_no hl2 hpq2 py sy hw) s67
end
end C
set_option Elab.async false
set_option linter.all false
set_option pp.maxSteps 1500
set_option maxRecDepth 100000
set_option maxHeartbeats 4000000
namespace C
open PySem PySem.Spec PyProof.Rows L2 Kx M TL
local macro_rules | `(tactic| tm_at "same") => `(tactic| first
  | assumption
  | exact L2.Same.refl _
  | exact L2.Same.upd (by tm_at "same") (by tm_at "free")
  | exact sameTransR (by assumption) (by tm_at "same"))
local macro_rules | `(tactic| tm_at "free") => `(tactic| first
  | assumption
  | exact sameFreeR (by assumption) (by tm_at "same"))
local macro_rules | `(tactic| tm_at "but") => `(tactic| first
  | assumption
  | exact But.refl _ _
  | exact But.transR (by assumption) (by tm_at "but")
  | exact But.upd
  | exact But.self (by tm_at "but")
  | exact But.new1 (by tm_at "but") (by assumption)
  | exact But.new (by tm_at "but") (by tm_at "free")
  | exact L2.Same.but (by assumption) _)
local macro_rules | `(tactic| tm_at "fact") => `(tactic| first
  | exact upd_same
  | assumption
  | exact SqL.of upd_same
  | exact SqT.of upd_same
  | exact SqL.of (by assumption)
  | exact SqT.of (by assumption)
  | exact But.lstR (by assumption) (by assumption) (by tm_at "but"))
local macro_rules | `(tactic| tm_at "cond") => `(tactic| first
  | rfl
  | assumption
  | decide
  | omega
  | exact ⟨by decide, by decide⟩
  | exact .inr ⟨by decide, by decide⟩
  | exact .inl ⟨by decide, by decide⟩
  | exact ⟨by decide, by decide, by decide⟩
  | exact cdivw (by assumption) (by assumption)
  | exact log2_ok (by assumption)
  | exact Or.inl ⟨rfl, _, SqL.of upd_same⟩
  | exact Or.inl ⟨rfl, _, SqL.of (by assumption)⟩
  | exact ⟨_, rfl⟩
  | exact Nat.le_of_ble_eq_true rfl
  | exact small1000 (by omega))
local macro_rules | `(tactic| tm_at "prop") => `(tactic| first
  | assumption
  | omega)
local macro_rules | `(tactic| tm_at "s") => `(tactic| first
  | refine ⟨_, rfl, ?_⟩
  | refine ⟨_, _, rfl, rfl, ?_⟩
  | refine ⟨_, _, _, rfl, rfl, (by tm_at "fact"), (by tm_at "cond"), ?_⟩
  | refine ⟨_, _, _, _, rfl, rfl, (by tm_at "fact"), rfl, ?_⟩
  | refine ⟨_, _, rfl, (by tm_at "fact"), ?_⟩
  | refine And.intro (by tm_at "cond") ?_
  | refine .inl ⟨_, rfl, ?_⟩
  | refine ⟨_, _, rfl, .inl (by tm_at "fact"), ?_⟩
  | refine dec_false (by tm_at "prop") ?_
  | refine dec_true (by tm_at "prop") ?_
  | refine decN_false (by tm_at "prop") ?_
  | refine decN_true (by tm_at "prop") ?_
  | refine iteT ?_
  | refine iteF ?_
  | refine ⟨_, _, rfl, ?_⟩)
local macro_rules | `(tactic| tm_at "go") => `(tactic| repeat tm_at "s")

section
variable {P : Program} {w : World} {K : PySem.W.Frag} {mg : Str → Option Value} {base : Heap} {aH aR : Addr}
/-! ### the law's parts -/
def ents (ads : List Addr) (rl : Str) (st : Int) : List (Key × V) := partKV ads ++ [(Sum.inr (S "walk"), V.str rl), (Sum.inr (S "stage"), V.int st)]
theorem valV_app {l r : List (Key × V)} {k : Key} {v : V} (h : valV l k = some v) : valV (l ++ r) k = some v := by
  unfold valV at *
  rw [List.find?_append]
  cases e : l.find? fun kv => decide (kv.1 = k) with
  | none => rw [e] at h; cases h
  | some z => rw [e] at h; exact h
theorem ents_get {ads : List Addr} {rl : Str} {st : Int} {j : Nat} {h : Str} {a : Addr} (e1 : heads6[j]? = some h) (e2 : ads[j]? = some a) : valV (ents ads rl st) (Sum.inr h : Key) = some (.ref a) := valV_app (part_get e1 e2)
theorem kne {x y : Str} (h : ¬ x = y) : ¬ (Sum.inr x : Key) = Sum.inr y := fun e => h (Sum.inr.inj e)
section
variable (a0 a1 a2 a3 a4 : Addr) (rl : Str) (st : Int)
theorem ents_eq : ents [a0, a1, a2, a3, a4] rl st = [(Sum.inr (S "given"), .ref a0), (Sum.inr (S "same"), .ref a1), (Sum.inr (S "ask"), .ref a2), (Sum.inr (S "keep"), .ref a3), (Sum.inr (S "hint"), .ref a4), (Sum.inr (S "walk"), .str rl), (Sum.inr (S "stage"), .int st)] := rfl
theorem ents_walk : valV (ents [a0, a1, a2, a3, a4] rl st) (Sum.inr (S "walk") : Key) = some (.str rl) := by
  rw [ents_eq, valV_neg (kne (by decide +kernel)), valV_neg (kne (by decide +kernel)), valV_neg (kne (by decide +kernel)), valV_neg (kne (by decide +kernel)), valV_neg (kne (by decide +kernel)), valV_pos rfl]
theorem ents_stage : valV (ents [a0, a1, a2, a3, a4] rl st) (Sum.inr (S "stage") : Key) = some (.int st) := by
  rw [ents_eq, valV_neg (kne (by decide +kernel)), valV_neg (kne (by decide +kernel)), valV_neg (kne (by decide +kernel)), valV_neg (kne (by decide +kernel)), valV_neg (kne (by decide +kernel)), valV_neg (kne (by decide +kernel)), valV_pos rfl]
theorem putK_of {l r : List (Key × V)} {k : Key} {v u : V} (h1 : ∀ kv ∈ l, ¬ kv.1 = k) (h2 : ∀ kv ∈ r, ¬ kv.1 = k) : putK (l ++ (k, u) :: r) k v = l ++ (k, v) :: r := by
  have e : ∀ l : List (Key × V), (∀ kv ∈ l, ¬ kv.1 = k) → l.map (fun kv => if kv.1 = k then (kv.1, v) else kv) = l := fun l h => by
    refine Eq.trans (List.map_congr_left fun x hx => ?_) (List.map_id l)
    rw [if_neg (h x hx)]
    rfl
  unfold putK
  rw [if_pos (List.any_eq_true.mpr ⟨(k, u), by simp, decide_eq_true rfl⟩), List.map_append, List.map_cons, e l h1, e r h2, if_pos rfl]
theorem ents_putS (v : Int) : putK (ents [a0, a1, a2, a3, a4] rl st) (Sum.inr (S "stage") : Key) (.int v) = ents [a0, a1, a2, a3, a4] rl v := by
  refine putK_of (l := [(Sum.inr (S "given"), .ref a0), (Sum.inr (S "same"), .ref a1), (Sum.inr (S "ask"), .ref a2), (Sum.inr (S "keep"), .ref a3), (Sum.inr (S "hint"), .ref a4), (Sum.inr (S "walk"), .str rl)]) (r := []) ?_ (fun _ z => (by cases z))
  intro kv hkv
  simp only [List.mem_cons, List.not_mem_nil, or_false] at hkv
  rcases hkv with rfl | rfl | rfl | rfl | rfl | rfl <;> exact kne (by decide +kernel)
theorem ents_putW (v : Str) : putK (ents [a0, a1, a2, a3, a4] rl st) (Sum.inr (S "walk") : Key) (.str v) = ents [a0, a1, a2, a3, a4] v st := by
  refine putK_of (l := [(Sum.inr (S "given"), .ref a0), (Sum.inr (S "same"), .ref a1), (Sum.inr (S "ask"), .ref a2), (Sum.inr (S "keep"), .ref a3), (Sum.inr (S "hint"), .ref a4)]) (r := [(Sum.inr (S "stage"), .int st)]) ?_ ?_
  · intro kv hkv
    simp only [List.mem_cons, List.not_mem_nil, or_false] at hkv
    rcases hkv with rfl | rfl | rfl | rfl | rfl <;> exact kne (by decide +kernel)
  · intro kv hkv
    simp only [List.mem_cons, List.not_mem_nil, or_false] at hkv
    rcases hkv with rfl
    exact kne (by decide +kernel)
end
/-- the law's reading stands in H -/
structure LP (K : PySem.W.Frag) (H0 H : Hp) (lp d tn : Addr) (s : RS) (vs : List V) (a0 a1 a2 a3 a4 : Addr) : Prop where
  same : Same H0 H
  lst : H lp = some (.lst vs)
  nl : H0 lp = none
  rows : Ims K H vs s.rows
  nms : SqT K H tn (nmV s.names)
  prt : H d = some (.dK (ents [a0, a1, a2, a3, a4] (ruleD (s.cont.getD 5 [])) s.stage))
  ndd : H0 d = none
  nd : [a0, a1, a2, a3, a4].Nodup
  lp_ads : lp ∉ [a0, a1, a2, a3, a4]
  na : ∀ a ∈ [a0, a1, a2, a3, a4], H0 a = none
  at_ : ∀ (i : Nat) (a : Addr) (ds : List PyData), [a0, a1, a2, a3, a4][i]? = some a → s.cont[i]? = some ds → ∃ ws, H a = some (.lst ws) ∧ Ims K H ws ds
def LPAt (K : PySem.W.Frag) (H0 H : Hp) (lp d tn : Addr) (s : RS) : Prop := ∃ vs a0 a1 a2 a3 a4, LP K H0 H lp d tn s vs a0 a1 a2 a3 a4
theorem LP.next {K : PySem.W.Frag} {H0 H H' : Hp} {lp d tn : Addr} {s : RS} {vs : List V} {a0 a1 a2 a3 a4 : Addr} (I : LP K H0 H lp d tn s vs a0 a1 a2 a3 a4) (sm : Same H H') : LP K H0 H' lp d tn s vs a0 a1 a2 a3 a4 :=
  ⟨I.same.trans sm, sm _ _ I.lst, I.nl, sm.tk.ims I.rows, sm.tk.tup I.nms, sm _ _ I.prt, I.ndd, I.nd, I.lp_ads, I.na, fun i a ds h1 h2 => by
    obtain ⟨ws, h3, h4⟩ := I.at_ i a ds h1 h2
    exact ⟨ws, sm _ _ h3, sm.tk.ims h4⟩⟩
/-- another stage, another walk -/
theorem LP.put {K : PySem.W.Frag} {H0 H : Hp} {lp d tn : Addr} {s : RS} {vs : List V} {a0 a1 a2 a3 a4 : Addr} (I : LP K H0 H lp d tn s vs a0 a1 a2 a3 a4) {c : List (List PyData)} {st : Int} (hc : ∀ i, i < 5 → c[i]? = s.cont[i]?) :
    LP K H0 (upd H d (.dK (ents [a0, a1, a2, a3, a4] (ruleD (c.getD 5 [])) st))) lp d tn ⟨s.rows, s.names, c, st⟩ vs a0 a1 a2 a3 a4 := by
  have k : TK H (upd H d (.dK (ents [a0, a1, a2, a3, a4] (ruleD (c.getD 5 [])) st))) := TK.dic I.prt
  have hld : lp ≠ d := fun z => by
    have := I.lst
    rw [z, I.prt] at this
    cases this
  refine ⟨same_keep I.same I.ndd, ?_, I.nl, k.ims I.rows, k.tup I.nms, upd_same, I.ndd, I.nd, I.lp_ads, I.na, fun i a ds h1 h2 => ?_⟩
  · rw [upd_ne hld]
    exact I.lst
  · have hi : i < 5 := (List.getElem?_eq_some_iff.mp h1).1
    rw [show (RS.mk s.rows s.names c st).cont = c from rfl, hc i hi] at h2
    obtain ⟨ws, h3, h4⟩ := I.at_ i a ds h1 h2
    have had : a ≠ d := fun z => by
      rw [z, I.prt] at h3
      cases h3
    refine ⟨ws, ?_, k.ims h4⟩
    rw [upd_ne had]
    exact h3
/-- a part is added -/
theorem LP.push {K : PySem.W.Frag} {H0 H : Hp} {lp d tn : Addr} {s : RS} {vs : List V} {a0 a1 a2 a3 a4 : Addr} (I : LP K H0 H lp d tn s vs a0 a1 a2 a3 a4) {j : Nat} {a : Addr} {ws : List V} {ds : List PyData} {dd : PyData} {v : V}
    (ha : [a0, a1, a2, a3, a4][j]? = some a) (hc : s.cont[j]? = some ds) (hw : H a = some (.lst ws)) (iw : Ims K H ws ds) (iv : Im K H v dd) :
    LP K H0 (upd H a (.lst (ws ++ [v]))) lp d tn ⟨s.rows, s.names, s.cont.set j (ds ++ [dd]), s.stage⟩ vs a0 a1 a2 a3 a4 := by
  have ham := List.mem_of_getElem? ha
  have hj5 : j < 5 := (List.getElem?_eq_some_iff.mp ha).1
  have hal : lp ≠ a := fun z => I.lp_ads (by rw [z]; exact ham)
  have k : TK H (upd H a (.lst (ws ++ [v]))) := TK.lst hw
  have hda : d ≠ a := fun z => by
    have := I.prt
    rw [z, hw] at this
    cases this
  refine ⟨same_keep I.same (I.na a ham), ?_, I.nl, k.ims I.rows, k.tup I.nms, ?_, I.ndd, I.nd, I.lp_ads, I.na, fun i y es e1 e2 => ?_⟩
  · rw [upd_ne hal]
    exact I.lst
  · rw [upd_ne hda]
    have e : (s.cont.set j (ds ++ [dd])).getD 5 [] = s.cont.getD 5 [] := by
      rw [List.getD_eq_getElem?_getD, List.getD_eq_getElem?_getD, List.getElem?_set_ne (by omega)]
    show H d = some (.dK (ents _ (ruleD ((s.cont.set j (ds ++ [dd])).getD 5 [])) s.stage))
    rw [e]
    exact I.prt
  · by_cases hij : i = j
    · subst hij
      rw [ha] at e1
      cases e1
      have e3 : (s.cont.set i (ds ++ [dd]))[i]? = some (ds ++ [dd]) := by
        have hlt : i < s.cont.length := (List.getElem?_eq_some_iff.mp hc).1
        rw [List.getElem?_set_self hlt]
      rw [e3] at e2
      cases e2
      exact ⟨_, upd_same, k.ims (Ims.snoc iw iv)⟩
    · have e3 : (s.cont.set j (ds ++ [dd]))[i]? = s.cont[i]? := List.getElem?_set_ne (fun z => hij z.symm)
      rw [e3] at e2
      obtain ⟨us, h1, h2⟩ := I.at_ i y es e1 e2
      have nya : y ≠ a := fun z => hij (by
        rw [z] at e1
        exact nd_ix I.nd e1 ha)
      refine ⟨us, ?_, k.ims h2⟩
      rw [upd_ne nya]
      exact h1
end
end C
set_option Elab.async false
set_option linter.all false
set_option pp.maxSteps 1500
set_option maxRecDepth 100000
set_option maxHeartbeats 4000000
namespace C
open PySem PySem.Spec PyProof.Rows L2 Kx M TL
local macro_rules | `(tactic| tm_at "same") => `(tactic| first
  | assumption
  | exact L2.Same.refl _
  | exact L2.Same.upd (by tm_at "same") (by tm_at "free")
  | exact sameTransR (by assumption) (by tm_at "same"))
local macro_rules | `(tactic| tm_at "free") => `(tactic| first
  | assumption
  | exact sameFreeR (by assumption) (by tm_at "same"))
local macro_rules | `(tactic| tm_at "but") => `(tactic| first
  | assumption
  | exact But.refl _ _
  | exact But.transR (by assumption) (by tm_at "but")
  | exact But.upd
  | exact But.self (by tm_at "but")
  | exact But.new1 (by tm_at "but") (by assumption)
  | exact But.new (by tm_at "but") (by tm_at "free")
  | exact L2.Same.but (by assumption) _)
local macro_rules | `(tactic| tm_at "fact") => `(tactic| first
  | exact upd_same
  | assumption
  | exact SqL.of upd_same
  | exact SqT.of upd_same
  | exact SqL.of (by assumption)
  | exact SqT.of (by assumption)
  | exact But.lstR (by assumption) (by assumption) (by tm_at "but"))
local macro_rules | `(tactic| tm_at "cond") => `(tactic| first
  | rfl
  | assumption
  | decide
  | omega
  | exact ⟨by decide, by decide⟩
  | exact .inr ⟨by decide, by decide⟩
  | exact .inl ⟨by decide, by decide⟩
  | exact ⟨by decide, by decide, by decide⟩
  | exact cdivw (by assumption) (by assumption)
  | exact log2_ok (by assumption)
  | exact Or.inl ⟨rfl, _, SqL.of upd_same⟩
  | exact Or.inl ⟨rfl, _, SqL.of (by assumption)⟩
  | exact ⟨_, rfl⟩
  | exact Nat.le_of_ble_eq_true rfl
  | exact small1000 (by omega))
local macro_rules | `(tactic| tm_at "prop") => `(tactic| first
  | assumption
  | omega)
local macro_rules | `(tactic| tm_at "s") => `(tactic| first
  | refine ⟨_, rfl, ?_⟩
  | refine ⟨_, _, rfl, rfl, ?_⟩
  | refine ⟨_, _, _, rfl, rfl, (by tm_at "fact"), (by tm_at "cond"), ?_⟩
  | refine ⟨_, _, _, _, rfl, rfl, (by tm_at "fact"), rfl, ?_⟩
  | refine ⟨_, _, rfl, (by tm_at "fact"), ?_⟩
  | refine And.intro (by tm_at "cond") ?_
  | refine .inl ⟨_, rfl, ?_⟩
  | refine ⟨_, _, rfl, .inl (by tm_at "fact"), ?_⟩
  | refine dec_false (by tm_at "prop") ?_
  | refine dec_true (by tm_at "prop") ?_
  | refine decN_false (by tm_at "prop") ?_
  | refine decN_true (by tm_at "prop") ?_
  | refine iteT ?_
  | refine iteF ?_
  | refine ⟨_, _, rfl, ?_⟩)
local macro_rules | `(tactic| tm_at "go") => `(tactic| repeat tm_at "s")

section
variable {P : Program} {w : World} {K : PySem.W.Frag} {mg : Str → Option Value} {base : Heap} {aH aR : Addr}
/-! ### _law_part -/
def spLPart (K : PySem.W.Frag) : Sp := fun vs H Q _ => ∃ (d wl lp tn : Addr) (H0 : Hp) (n : Nat) (s : RS) (hd : Str) (r : List Str), vs = [.ref d, .ref wl] ∧ LPAt K H0 H lp d tn s ∧ n ≤ 99 ∧ RSOk n s ∧ s.names ≠ none ∧ H wl = some (.lst ((hd :: r).map V.str)) ∧ LW (hd :: r) ∧
  (∀ s' H', ((ix hd).bind fun j => partS s j r) = some s' → LPAt K H0 H' lp d tn s' → Q (.bl true) H') ∧ ∀ H', ((ix hd).bind fun j => partS s j r) = none → Same H0 H' → Q (.bl false) H'
theorem sc__law_part : FnScope ["parts", "words", "heads", "found", "f"] ["parts", "words"] (defScope s__law_part) := ⟨rfl, rfl, rfl, by decide +kernel, rfl, by decide +kernel, by decide +kernel⟩
theorem ok__law_part {k : Nat} (D : Def K mg "_law_part" "_law_part" s__law_part ["parts", "words"]) (B : Bi mg) (c__law_rules : Cal P w K mg base CX0 k "_law_rules" [] spRules) (c__law_parsed : Cal P w K mg base CX0 k "_law_parsed" ["words"] (spParsed K)) : Cal P w K mg base CX0 (k + 1) "_law_part" ["parts", "words"] (spLPart K) := by
  refine D.cal fun f fd F => F.ok sc__law_part (fun vs H Q E h => ?_) (fun cdv A outer s H vs Q E hr h => ?_)
  · obtain ⟨d, wl, lp, tn, H0, n, s, hd, r, rfl, _⟩ := h
    rfl
  · obtain ⟨d, wl, lp, tn, H0, n, r, hd, rest, rfl, ⟨vs, a0, a1, a2, a3, a4, I⟩, hn, hok, hnm, hw, hlw, q1, q2⟩ := h
    have nd := sc__law_part.nd
    refine ⟨_, (pss_cons (ps_set (i := 2) nd rfl (Or.inl rfl) (pe_lst (pa_cons pe_str (pa_cons pe_str (pa_cons pe_str (pa_cons pe_str (pa_cons pe_str (pa_cons pe_str pa_nil))))))))
      (pss_cons (ps_if (PW.pt (pw_or (pt_cmpR op_notIn_seq (pe_ix ix_list (pv 1) pe_int (fun _ _ => rfl)) (pv 2) (by rfl)) (pw_or1 (pt_cmpR op_lt (pe_bm PySem.F.plainAttrs_list PySem.F.slot_list_index PySem.F.type_list_index mt_index (pv 2) (pa_cons (pe_ix ix_list (pv 1) pe_int (fun _ _ => rfl)) pa_nil)) (pe_dget (hu_of hr) (pv 0) pe_str (fun _ _ => rfl)) (nomark _)))))
        (pss_one (ps_ret pe_bl))
        pss_nil)
      (pss_cons (ps_dput (hu_of hr) (pv 0) pe_str (pe_bm PySem.F.plainAttrs_list PySem.F.slot_list_index PySem.F.type_list_index mt_index (pv 2) (pa_cons (pe_ix ix_list (pv 1) pe_int (fun _ _ => rfl)) pa_nil)) rfl)
      (pss_cons (ps_if (pt_cmpR op_eq (pe_ix ix_list (pv 1) pe_int (fun _ _ => rfl)) pe_str (nomark _))
        (pss_cons (ps_if (PW.pt (pw_or (pt_cmpR op_ne (pe_dget (hu_of hr) (pv 0) pe_str (fun _ _ => rfl)) pe_str (nomark _)) (pw_or1 (pt_cmpR op_notIn_seq (pe_join pe_str (pe_slice sl_list (pv 1) (po_some pe_int) po_none)) (pe_cal0 c__law_rules (Room.mono hr (by omega)) (by rfl)) (by rfl)))))
          (pss_one (ps_ret pe_bl))
          pss_nil)
        (pss_cons (ps_dput (hu_of hr) (pv 0) pe_str (pe_join pe_str (pe_slice sl_list (pv 1) (po_some pe_int) po_none)) rfl)
        (pss_one (ps_ret pe_bl))))
        pss_nil)
      (pss_cons (ps_set (i := 3) nd rfl (Or.inl rfl) (pe_dget (hu_of hr) (pv 0) (pe_ix ix_list (pv 1) pe_int (fun _ _ => rfl)) (fun _ _ => rfl)))
      (pss_cons (ps_if (pt_cmpR op_in_seq (pe_ix ix_list (pv 1) pe_int (fun _ _ => rfl)) (pe_lst (pa_cons pe_str (pa_cons pe_str pa_nil))) (by rfl))
        (pss_cons (ps_if (PW.pt (pw_or (pt_cmpR op_ne (pe_callB call_len_seq (by rfl) B.len (by decide +kernel) (pa_cons (pv 1) pa_nil)) pe_int (nomark _)) (pw_or1 (pt_cmpR (op_inD (in_room hr)) (pe_tup (pa_cons (pe_ix ix_list (pv 1) pe_int (fun _ _ => rfl)) (pa_cons (pe_ix ix_list (pv 1) pe_int (fun _ _ => rfl)) pa_nil))) (pv 3) (by rfl)))))
          (pss_one (ps_ret pe_bl))
          pss_nil)
        (pss_cons (ps_expr (pe_bm PySem.F.plainAttrs_list PySem.F.slot_list_append PySem.F.type_list_append mt_append (pv 3) (pa_cons (pe_tup (pa_cons (pe_ix ix_list (pv 1) pe_int (fun _ _ => rfl)) (pa_cons (pe_ix ix_list (pv 1) pe_int (fun _ _ => rfl)) pa_nil))) pa_nil)))
        (pss_one (ps_ret pe_bl))))
        pss_nil)
      (pss_cons (ps_set (i := 4) nd rfl (Or.inl rfl) (pe_cal c__law_parsed (Room.mono hr (by omega)) (by rfl) (pa_cons (pe_slice sl_list (pv 1) (po_some pe_int) po_none) pa_nil)))
      (pss_cons (ps_if (pt_cmpR op_isN (pv 4) pe_non (nomark _))
        (pss_one (ps_ret pe_bl))
        pss_nil)
      (pss_cons (ps_expr (pe_bm PySem.F.plainAttrs_list PySem.F.slot_list_append PySem.F.type_list_append mt_append (pv 3) (pa_cons (pv 4) pa_nil)))
      (pss_one (ps_ret pe_bl))))))))))), ?_⟩
    tm_at "go"
    have e0 : atI ((hd :: rest).map V.str) 0 = some (V.str hd) := atI_nat (j := 0) rfl
    refine fun hp nhp => ?_
    have s1 : Same H (upd H hp (.lst (heads6.map V.str))) := same_new nhp
    have hh1 : upd H hp (.lst (heads6.map V.str)) hp = some (.lst (heads6.map V.str)) := upd_same
    show _
    change (fun (H1 : Hp) => _) (upd H hp (.lst (heads6.map V.str)))
    have I1 := I.next s1
    have hw1 := s1 _ _ hw
    generalize upd H hp (.lst (heads6.map V.str)) = H1 at s1 hh1 I1 hw1 ⊢
    dsimp only
    refine ⟨_, rfl, wl, _, _, _, rfl, rfl, SqL.of hw1, e0, ?_⟩
    refine ⟨_, rfl, hp, heads6.map V.str, rfl, .inl (SqL.of hh1), rfl, rfl, ?_⟩
    refine ⟨_, rfl, ?_⟩
    rw [show (if true = true then !L2.inV (V.str hd) (heads6.map V.str) else L2.inV (V.str hd) (heads6.map V.str)) = !decide (hd ∈ heads6) by rw [if_pos rfl, inV_strs]]
    cases hj : ix hd with
    | none =>
      rw [hj] at q2
      rw [decide_eq_false (ix_none hj)]
      refine iteT ?_
      refine iteT ?_
      exact q2 _ rfl I1.same
    | some j =>
      rw [hj] at q1 q2
      obtain ⟨hix, hj6⟩ := ix_some hj
      rw [decide_eq_true (List.mem_of_getElem? hix)]
      refine iteF ?_
      have q1 : ∀ s' H', partS r j rest = some s' → LPAt K H0 H' lp d tn s' → Q (.bl true) H' := q1
      have q2 : ∀ H', partS r j rest = none → Same H0 H' → Q (.bl false) H' := q2
      obtain ⟨c0, c2, c4, c5, p1, p3, hc, h5, hl, ho1, ho3⟩ := hok.six hnm
      have hflat : ((heads6.map V.str).all flatV) = true := rfl
      have hat : (heads6.map V.str)[j]? = some (V.str hd) := by
        rw [List.getElem?_map, hix]
        rfl
      have hlow : ∀ (m : Nat) (z' : V), m < j → (heads6.map V.str)[m]? = some z' → L2.eqV z' (V.str hd) = false := fun m z' hm hz => by
        rw [List.getElem?_map] at hz
        cases e : heads6[m]? with
        | none => rw [e] at hz; cases hz
        | some z =>
          rw [e] at hz
          cases hz
          have hne : z ≠ hd := fun z1 => by
            subst z1
            have := nd_ix heads_nodup e hix
            omega
          show (z == hd) = false
          rw [beq_dec, decide_eq_false hne]
      have heq : L2.eqV (V.str hd) (V.str hd) = true := by
        show (hd == hd) = true
        rw [beq_dec, decide_eq_true rfl]
      have dgS : DGet H1 d (.str (S "stage")) (some (.int r.stage)) := by
        have := DGet.k (k := Sum.inr (S "stage")) I1.prt
        rw [ents_stage] at this
        exact this
      refine ⟨_, rfl, .inl ⟨rfl, _, SqL.of hh1⟩, ?_⟩
      refine ⟨_, rfl, wl, _, _, _, rfl, rfl, SqL.of hw1, e0, ?_⟩
      refine ⟨hp, heads6.map V.str, .str hd, j, .str hd, rfl, rfl, SqL.of hh1, rfl, hflat, hat, heq, hlow, ?_⟩
      refine ⟨_, rfl, d, .int r.stage, rfl, dgS, ?_⟩
      refine ⟨_, _, rfl, rfl, ?_⟩
      refine ⟨_, rfl, ?_⟩
      unfold partS at q1 q2
      by_cases hst : ((j : Nat) : Int) < r.stage
      · rw [if_pos hst] at q2
        rw [decide_eq_true hst]
        refine iteT ?_
        exact q2 _ rfl I1.same
      rw [if_neg hst] at q1 q2
      rw [decide_eq_false hst]
      refine iteF ?_
      refine ⟨_, rfl, .inl ⟨rfl, _, SqL.of hh1⟩, ?_⟩
      refine ⟨_, rfl, wl, _, _, _, rfl, rfl, SqL.of hw1, e0, ?_⟩
      refine ⟨hp, heads6.map V.str, .str hd, j, .str hd, rfl, rfl, SqL.of hh1, rfl, hflat, hat, heq, hlow, ?_⟩
      refine ⟨_, rfl, d, _, rfl, DPut.k (k := Sum.inr (S "stage")) I1.prt (by show (7 : Nat) < sizeLine; decide), ?_⟩
      rw [ents_putS]
      have I2 := I1.put (c := r.cont) (st := ((j : Nat) : Int)) fun i _ => rfl
      have hwd : wl ≠ d := fun z => by
        have := I1.prt
        rw [← z, hw1] at this
        cases this
      have hhd : hp ≠ d := fun z => by
        have := I1.prt
        rw [← z, hh1] at this
        cases this
      have hw2 : upd H1 d (.dK (ents [a0, a1, a2, a3, a4] (ruleD (r.cont.getD 5 [])) ((j : Nat) : Int))) wl = some (.lst ((hd :: rest).map V.str)) := by
        rw [upd_ne hwd]
        exact hw1
      generalize upd H1 d (.dK (ents [a0, a1, a2, a3, a4] (ruleD (r.cont.getD 5 [])) ((j : Nat) : Int))) = H2 at I2 hw2 ⊢
      refine ⟨_, rfl, wl, _, _, _, rfl, rfl, SqL.of hw2, e0, ?_⟩
      refine ⟨rfl, _, rfl, ?_⟩
      have hrw : ∀ x ∈ rest, Clean x ∧ x.length ≤ 56 ∧ Ok x := fun x hx => hlw.ok x (List.mem_cons_of_mem _ hx)
      have hrl : rest.length ≤ 38 := by
        have := hlw.le
        rw [List.length_cons] at this
        omega
      have hsum : (rest.map (·.length)).sum + rest.length * (S " ").length ≤ 4000 := by
        have h2 := sum_le (b := 56) fun x hx => (hrw x hx).2.1
        have e : (S " ").length = 1 := by decide +kernel
        rw [e]
        omega
      have ecut : cutV ((hd :: rest).map V.str) (some 1) none = rest.map V.str := cutV_from _ 1
      by_cases hj5 : j = 5
      · rw [if_neg (by omega), if_pos hj5] at q1 q2
        subst hj5
        obtain rfl : S "walk" = hd := Option.some.inj hix
        rw [decide_eq_true rfl]
        refine iteT ?_
        have dgW : DGet H2 d (.str (S "walk")) (some (.str (ruleD (r.cont.getD 5 [])))) := by
          have := DGet.k (k := Sum.inr (S "walk")) I2.prt
          rw [ents_walk] at this
          exact this
        refine ⟨_, rfl, d, _, rfl, dgW, ?_⟩
        refine ⟨rfl, _, rfl, ?_⟩
        have hg5 : r.cont.getD 5 [] = c5 := by
          rw [hc]
          rfl
        rw [hg5] at q1 q2 ⊢
        rcases h5 with rfl | ⟨rr, hrr, rfl⟩
        · rw [decide_eq_true (show V.str (ruleD []) = V.str (S "any") from rfl)]
          refine iteF ?_
          tm_at "go"
          refine fun p3 np3 => ?_
          rw [ecut]
          refine ⟨S " ", p3, rest, rfl, rfl, .inl (SqL.of upd_same), Nat.le_trans hsum (by decide), ?_⟩
          have s3 : Same H2 (upd H2 p3 (.lst (rest.map V.str))) := same_new np3
          have I3 := I2.next s3
          have hw3 := s3 _ _ hw2
          generalize upd H2 p3 (.lst (rest.map V.str)) = H3 at s3 I3 hw3 ⊢
          refine ⟨rfl, fun a5 H5 s5 n5 h5 => ?_⟩
          have I5 := I3.next s5
          have hw5 := s5 _ _ hw3
          refine ⟨a5, rules7.map V.str, rfl, .inl (SqL.of h5), rfl, rfl, ?_⟩
          refine ⟨_, rfl, ?_⟩
          rw [show (if true = true then !L2.inV (V.str (Txt.join (S " ") rest)) (rules7.map V.str) else L2.inV (V.str (Txt.join (S " ") rest)) (rules7.map V.str)) = !decide (Txt.join (S " ") rest ∈ rules7) by rw [if_pos rfl, inV_strs]]
          by_cases hru : Txt.join (S " ") rest ∈ rules7
          · rw [if_pos ⟨hru, rfl⟩] at q1
            rw [decide_eq_true hru]
            refine iteF ?_
            tm_at "go"
            refine fun p4 np4 => ?_
            rw [ecut]
            refine ⟨S " ", p4, rest, rfl, rfl, .inl (SqL.of upd_same), Nat.le_trans hsum (by decide), ?_⟩
            have s6 : Same H5 (upd H5 p4 (.lst (rest.map V.str))) := same_new np4
            have I6 := I5.next s6
            generalize upd H5 p4 (.lst (rest.map V.str)) = H6 at I6 ⊢
            generalize hJ : Txt.join (S " ") rest = J at q1 ⊢
            refine ⟨_, rfl, d, _, rfl, DPut.k (k := Sum.inr (S "walk")) I6.prt (by show (7 : Nat) < sizeLine; decide), ?_⟩
            rw [ents_putW]
            have e5 : ruleD ((r.cont.set 5 [PyData.str J]).getD 5 []) = J := by
              rw [hc]
              rfl
            have I7 := I6.put (c := r.cont.set 5 [PyData.str J]) (st := ((5 : Nat) : Int)) fun i hi => List.getElem?_set_ne (by omega)
            rw [e5] at I7
            refine q1 _ _ rfl ⟨vs, a0, a1, a2, a3, a4, ?_⟩
            unfold pushS
            rw [hg5]
            exact I7
          · rw [if_neg (fun z => hru z.1)] at q2
            rw [decide_eq_false hru]
            refine iteT ?_
            exact q2 _ rfl I5.same
        · have hne : ¬ V.str (ruleD [.str rr]) = V.str (S "any") := fun z => by
            have e : rr = S "any" := V.str.inj z
            subst e
            exact absurd hrr (by decide +kernel)
          rw [if_neg (fun z => by cases z.2)] at q2
          rw [decide_eq_false hne]
          refine iteT ?_
          refine iteT ?_
          exact q2 _ rfl I2.same
      · rw [if_neg hj5] at q1 q2
        have hnw : ¬ V.str hd = V.str (S "walk") := fun z => by
          have := V.str.inj z
          subst this
          exact hj5 (nd_ix heads_nodup (i := j) (j := 5) hix rfl)
        rw [decide_eq_false hnw]
        refine iteF ?_
        have hj4 : j < 5 := by omega
        obtain ⟨aj, haj⟩ : ∃ aj, [a0, a1, a2, a3, a4][j]? = some aj := ⟨_, List.getElem?_eq_getElem (by simpa using hj4)⟩
        have hjc : j < r.cont.length := by
          rw [hc]
          exact hj6
        have hcj : r.cont[j]? = some (r.cont.getD j []) := by
          rw [List.getD_eq_getElem?_getD, List.getElem?_eq_getElem hjc]
          rfl
        obtain ⟨us, hus, ius⟩ := I2.at_ j aj _ haj hcj
        have dgJ : DGet H2 d (.str hd) (some (.ref aj)) := by
          have := DGet.k (k := Sum.inr hd) I2.prt
          rw [ents_get hix haj] at this
          exact this
        refine ⟨_, rfl, _, rfl, wl, _, _, _, rfl, rfl, SqL.of hw2, e0, ?_⟩
        refine ⟨d, .ref aj, rfl, dgJ, ?_⟩
        refine ⟨_, rfl, wl, _, _, _, rfl, rfl, SqL.of hw2, e0, ?_⟩
        tm_at "go"
        refine fun p np => ?_
        have sp : Same H2 (upd H2 p (.lst [.str (S "same"), .str (S "keep")])) := same_new np
        refine ⟨p, [.str (S "same"), .str (S "keep")], rfl, .inl (SqL.of upd_same), rfl, rfl, ?_⟩
        refine ⟨_, rfl, ?_⟩
        have hw3 := sp _ _ hw2
        have I3 := I2.next sp
        have hus3 := sp _ _ hus
        have ius3 := sp.tk.ims ius
        have push := fun H' (sm : Same H2 H') v dd (iv : Im K H' v dd) => (I2.next sm).push (v := v) (dd := dd) haj hcj (sm _ _ hus) (sm.tk.ims ius) iv
        generalize upd H2 p (.lst [.str (S "same"), .str (S "keep")]) = H3 at sp hw3 I3 hus3 ius3 ⊢
        by_cases hj13 : j = 1 ∨ j = 3
        · rw [if_pos hj13] at q1 q2
          have hin : L2.inV (V.str hd) [V.str (S "same"), V.str (S "keep")] = true := by
            rcases hj13 with rfl | rfl
            · obtain rfl : S "same" = hd := Option.some.inj hix
              decide +kernel
            · obtain rfl : S "keep" = hd := Option.some.inj hix
              decide +kernel
          rw [show (if false = true then !L2.inV (V.str hd) [V.str (S "same"), V.str (S "keep")] else L2.inV (V.str hd) [V.str (S "same"), V.str (S "keep")]) = true by rw [if_neg Bool.false_ne_true]; exact hin]
          refine iteT ?_
          refine ⟨_, rfl, wl, _, rfl, .inl (SqL.of hw3), ?_⟩
          by_cases h3 : V.int (((hd :: rest).map V.str).length : Int) = V.int 3
          · have h3' : rest.length = 2 := by
              have := V.int.inj h3
              rw [List.length_map, List.length_cons] at this
              omega
            obtain ⟨x, y, rfl⟩ : ∃ x y, rest = [x, y] := by
              match rest, h3' with
              | [x, y], _ => exact ⟨x, y, rfl⟩
            obtain ⟨ps, eps, hpo, hpl⟩ : ∃ ps : List (Str × Str), r.cont.getD j [] = ps.map qD ∧ (∀ p ∈ ps, Ok p.1 ∧ Ok p.2) ∧ ps.length ≤ n := by
              rw [hc]
              rcases hj13 with rfl | rfl
              · exact ⟨p1, rfl, ho1, hl.2.1⟩
              · exact ⟨p3, rfl, ho3, hl.2.2.2.1⟩
            rw [eps] at q1 q2 ius3 push
            have e1 : atI ([hd, x, y].map V.str) 1 = some (V.str x) := atI_nat (j := 1) rfl
            have e2 : atI ([hd, x, y].map V.str) 2 = some (V.str y) := atI_nat (j := 2) rfl
            have hxy : Ok x ∧ Ok y := ⟨(hlw.ok x (by simp)).2.2, (hlw.ok y (by simp)).2.2⟩
            tm_at "go"
            refine fun t nt => ?_
            have st : Same H3 (upd H3 t (.tup [.str x, .str y])) := same_new nt
            have hw4 := st _ _ hw3
            have ht4 : upd H3 t (.tup [.str x, .str y]) t = some (.tup [.str x, .str y]) := upd_same
            have hus4 := st _ _ hus3
            have ius4 := st.tk.ims ius3
            have I4 := I3.next st
            have s24 := sp.trans st
            generalize upd H3 t (.tup [.str x, .str y]) = H4 at st hw4 ht4 hus4 ius4 I4 s24 ⊢
            have hul := ius4.length
            rw [List.length_map] at hul
            have hdp : ∀ Qr : Prop, Qr → Qr := fun _ z => z
            refine ⟨_, rfl, qD (x, y), ps.map qD, Im.dp _ (qD_of (p := (x, y)) (SqT.of ht4)), .lst (SqL.of hus4) (Ims.dp _ ius4), shaped_q hxy, shaped_qs hpo, ?_⟩
            refine ⟨_, rfl, ?_⟩
            cases hdup : ((ps.map qD).any fun z => PyData.eqv z (qD (x, y))) with
            | true =>
              rw [if_neg (fun z => by
                have := z.2
                rw [show ([x, y] : List Str).getD 0 Str.empty = x from rfl, show ([x, y] : List Str).getD 1 Str.empty = y from rfl, hdup] at this
                cases this)] at q2
              refine iteT ?_
              exact q2 _ rfl I4.same
            | false =>
              rw [if_pos ⟨rfl, hdup⟩] at q1
              refine iteF ?_
              tm_at "go"
              refine fun t2 nt2 => ?_
              have s5 : Same H4 (upd H4 t2 (.tup [.str x, .str y])) := same_new nt2
              refine ⟨aj, us, .ref t2, rfl, rfl, s5 _ _ hus4, small1000 (by omega), ?_⟩
              have := push _ (s24.trans s5) (.ref t2) (qD (x, y)) (qD_of (p := (x, y)) (SqT.of upd_same))
              refine q1 _ _ rfl ⟨vs, a0, a1, a2, a3, a4, ?_⟩
              unfold pushS
              rw [eps]
              exact this
          · have h3' : ¬ rest.length = 2 := fun z => h3 (congrArg V.int (by rw [List.length_map, List.length_cons]; omega))
            rw [if_neg (fun z => h3' z.1)] at q2
            tm_at "go"
            exact q2 _ rfl I3.same
        · rw [if_neg hj13] at q1 q2
          have hin : L2.inV (V.str hd) [V.str (S "same"), V.str (S "keep")] = false := by
            have hh : ∀ i, i < 5 → ¬ (i = 1 ∨ i = 3) → ∀ z, heads6[i]? = some z → L2.inV (V.str z) [V.str (S "same"), V.str (S "keep")] = false := by
              intro i hi hni z hz
              have : i = 0 ∨ i = 2 ∨ i = 4 := by omega
              rcases this with rfl | rfl | rfl <;> (obtain rfl := Option.some.inj hz; decide +kernel)
            exact hh j hj4 hj13 hd hix
          rw [show (if false = true then !L2.inV (V.str hd) [V.str (S "same"), V.str (S "keep")] else L2.inV (V.str hd) [V.str (S "same"), V.str (S "keep")]) = false by rw [if_neg Bool.false_ne_true]; exact hin]
          refine iteF ?_
          tm_at "go"
          refine fun p4 np4 => ?_
          rw [ecut]
          have s4 : Same H3 (upd H3 p4 (.lst (rest.map V.str))) := same_new np4
          have hp4 : upd H3 p4 (.lst (rest.map V.str)) p4 = some (.lst (rest.map V.str)) := upd_same
          have I4 := I3.next s4
          have s24 := sp.trans s4
          have hus4 := s4 _ _ hus3
          generalize upd H3 p4 (.lst (rest.map V.str)) = H4 at s4 hp4 I4 s24 hus4 ⊢
          have hlr : LW rest := ⟨hrw, by omega⟩
          refine ⟨p4, rest, rfl, SqL.of hp4, hlr, fun H5 e s5 => ?_, fun f v H5 e hf s5 iv => ?_⟩
          · rw [e] at q2
            refine ⟨_, rfl, rfl, _, rfl, ?_⟩
            refine dec_true rfl ?_
            exact q2 _ rfl (I4.same.trans s5)
          · rw [e] at q1
            obtain ⟨t, u, xs, rfl, _⟩ := fD_inv iv
            refine ⟨_, rfl, rfl, _, rfl, ?_⟩
            refine dec_false (fun z => nomatch z) ?_
            have hus5 := s5 _ _ hus4
            have hul := ius3.length
            have hcl : (r.cont.getD j []).length ≤ n := by
              have hj024 : j = 0 ∨ j = 2 ∨ j = 4 := by omega
              rw [hc]
              rcases hj024 with rfl | rfl | rfl
              · exact hl.1
              · exact hl.2.2.1
              · exact hl.2.2.2.2
            tm_at "go"
            have := push _ (s24.trans s5) (.ref t) (fD f) iv
            exact q1 _ _ rfl ⟨vs, a0, a1, a2, a3, a4, this⟩
end
end C
set_option Elab.async false
set_option linter.all false
set_option pp.maxSteps 1500
set_option maxRecDepth 100000
set_option maxHeartbeats 4000000
namespace C
open PySem PySem.Spec PyProof.Rows L2 Kx M TL
local macro_rules | `(tactic| tm_at "same") => `(tactic| first
  | assumption
  | exact L2.Same.refl _
  | exact L2.Same.upd (by tm_at "same") (by tm_at "free")
  | exact sameTransR (by assumption) (by tm_at "same"))
local macro_rules | `(tactic| tm_at "free") => `(tactic| first
  | assumption
  | exact sameFreeR (by assumption) (by tm_at "same"))
local macro_rules | `(tactic| tm_at "but") => `(tactic| first
  | assumption
  | exact But.refl _ _
  | exact But.transR (by assumption) (by tm_at "but")
  | exact But.upd
  | exact But.self (by tm_at "but")
  | exact But.new1 (by tm_at "but") (by assumption)
  | exact But.new (by tm_at "but") (by tm_at "free")
  | exact L2.Same.but (by assumption) _)
local macro_rules | `(tactic| tm_at "fact") => `(tactic| first
  | exact upd_same
  | assumption
  | exact SqL.of upd_same
  | exact SqT.of upd_same
  | exact SqL.of (by assumption)
  | exact SqT.of (by assumption)
  | exact But.lstR (by assumption) (by assumption) (by tm_at "but"))
local macro_rules | `(tactic| tm_at "cond") => `(tactic| first
  | rfl
  | assumption
  | decide
  | omega
  | exact ⟨by decide, by decide⟩
  | exact .inr ⟨by decide, by decide⟩
  | exact .inl ⟨by decide, by decide⟩
  | exact ⟨by decide, by decide, by decide⟩
  | exact cdivw (by assumption) (by assumption)
  | exact log2_ok (by assumption)
  | exact Or.inl ⟨rfl, _, SqL.of upd_same⟩
  | exact Or.inl ⟨rfl, _, SqL.of (by assumption)⟩
  | exact ⟨_, rfl⟩
  | exact Nat.le_of_ble_eq_true rfl
  | exact small1000 (by omega))
local macro_rules | `(tactic| tm_at "prop") => `(tactic| first
  | assumption
  | omega)
local macro_rules | `(tactic| tm_at "s") => `(tactic| first
  | refine ⟨_, rfl, ?_⟩
  | refine ⟨_, _, rfl, rfl, ?_⟩
  | refine ⟨_, _, _, rfl, rfl, (by tm_at "fact"), (by tm_at "cond"), ?_⟩
  | refine ⟨_, _, _, _, rfl, rfl, (by tm_at "fact"), rfl, ?_⟩
  | refine ⟨_, _, rfl, (by tm_at "fact"), ?_⟩
  | refine And.intro (by tm_at "cond") ?_
  | refine .inl ⟨_, rfl, ?_⟩
  | refine ⟨_, _, rfl, .inl (by tm_at "fact"), ?_⟩
  | refine dec_false (by tm_at "prop") ?_
  | refine dec_true (by tm_at "prop") ?_
  | refine decN_false (by tm_at "prop") ?_
  | refine decN_true (by tm_at "prop") ?_
  | refine iteT ?_
  | refine iteF ?_
  | refine ⟨_, _, rfl, ?_⟩)
local macro_rules | `(tactic| tm_at "go") => `(tactic| repeat tm_at "s")

section
variable {P : Program} {w : World} {K : PySem.W.Frag} {mg : Str → Option Value} {base : Heap} {aH aR : Addr}
/-! ### _law_read -/
def neS (x : Str) : Bool := !decide (x = Str.empty)
def spLRead (K : PySem.W.Frag) : Sp := fun vs H Q _ => ∃ (a : Addr) (Ls : List Str), vs = [.ref a] ∧ SqL K H a (Ls.map V.str) ∧ Ls.length ≤ 97 ∧ (∀ L ∈ Ls, L.length ≤ 20000 ∧ LW (Txt.words L) ∧ (Txt.split L (S " ")).filter neS = Txt.words L ∧ (Txt.split L (S " ")).length ≤ 20001) ∧
  (∀ rows v H', readR (Ls.map Txt.words) = .inr rows → Same H H' → Im K H' v (.tuple [.str (S "rows"), .tuple rows]) → Q v H') ∧ ∀ (k : Nat) v H', readR (Ls.map Txt.words) = .inl k → k ≤ 98 → Same H H' → Im K H' v (.tuple [.str (S "line"), .int (k : Int)]) → Q v H'
/-- the rows and the names -/
structure LB (K : PySem.W.Frag) (H0 H : Hp) (lp tn : Addr) (s : RS) : Prop where
  same : Same H0 H
  lst : ∃ vs, H lp = some (.lst vs) ∧ Ims K H vs s.rows
  nl : H0 lp = none
  nms : SqT K H tn (nmV s.names)
theorem LB.next {K : PySem.W.Frag} {H0 H H' : Hp} {lp tn : Addr} {s : RS} (I : LB K H0 H lp tn s) (sm : Same H H') : LB K H0 H' lp tn s := by
  obtain ⟨vs, h1, h2⟩ := I.lst
  exact ⟨I.same.trans sm, ⟨vs, sm _ _ h1, sm.tk.ims h2⟩, I.nl, sm.tk.tup I.nms⟩
theorem take_filter {l : List Str} {i : Nat} {x : Str} (h : l[i]? = some x) : ((l.take (i + 1)).filter neS).map V.str = ((l.take i).filter neS).map V.str ++ (if neS x = true then [V.str x] else []) := by
  rw [take_snoc h, List.filter_append, List.map_append]
  cases e : neS x with
  | true => rw [List.filter_cons_of_pos e]; rfl
  | false => rw [List.filter_cons_of_neg (by rw [e]; exact Bool.false_ne_true)]; rfl
theorem ents_merge (a0 a1 a2 a3 a4 : Addr) : mergeK [] [((Sum.inr (S "given") : Key), V.ref a0), (Sum.inr (S "same"), .ref a1), (Sum.inr (S "ask"), .ref a2), (Sum.inr (S "keep"), .ref a3), (Sum.inr (S "hint"), .ref a4), (Sum.inr (S "walk"), .str (S "any")), (Sum.inr (S "stage"), .int 0)] = ents [a0, a1, a2, a3, a4] (S "any") 0 := by
  rw [ents_eq]
  rfl
theorem LB.claim {K : PySem.W.Frag} {H0 H H' : Hp} {lp tn t d a0 a1 a2 a3 a4 : Addr} {s : RS} {x y : Str} (I : LB K H0 H lp tn s) (sm : Same H H') (hd : H' d = some (.dK [])) (nd : H d = none) (ht : H' t = some (.tup [.str x, .str y])) (hl : ∀ a ∈ [a0, a1, a2, a3, a4], H a = none ∧ H' a = some (.lst [])) (hn : [a0, a1, a2, a3, a4].Nodup) :
    LPAt K H0 (upd H' d (.dK (ents [a0, a1, a2, a3, a4] (S "any") 0))) lp d t ⟨s.rows, some (x, y), List.replicate 6 [], 0⟩ := by
  obtain ⟨vs, h1, h2⟩ := I.lst
  have k : TK H' (upd H' d (.dK (ents [a0, a1, a2, a3, a4] (S "any") 0))) := TK.dic hd
  have hlp := sm _ _ h1
  have hld : lp ≠ d := fun z => by
    rw [z, hd] at hlp
    cases hlp
  refine ⟨vs, a0, a1, a2, a3, a4, same_keep (I.same.trans sm) (I.same.free nd), ?_, I.nl, k.ims (sm.tk.ims h2), k.tup (SqT.of ht), upd_same, I.same.free nd, hn, fun z => ?_, fun a ha => I.same.free (hl a ha).1, fun i a ds e1 e2 => ?_⟩
  · rw [upd_ne hld]
    exact hlp
  · rw [(hl lp z).1] at h1
    cases h1
  · have ha := (hl a (List.mem_of_getElem? e1)).2
    have had : a ≠ d := fun z => by
      rw [z, hd] at ha
      cases ha
    have hi : i < 5 := (List.getElem?_eq_some_iff.mp e1).1
    obtain rfl : [] = ds := by
      have e3 : (List.replicate 6 ([] : List PyData))[i]? = some [] := by
        rw [List.getElem?_replicate, if_pos (by omega)]
      exact Option.some.inj (e3.symm.trans e2)
    refine ⟨[], ?_, .nil⟩
    rw [upd_ne had]
    exact ha
theorem LPAt.toB {K : PySem.W.Frag} {H0 H : Hp} {lp d tn : Addr} {s : RS} (h : LPAt K H0 H lp d tn s) : LB K H0 H lp tn s := by
  obtain ⟨vs, a0, a1, a2, a3, a4, I⟩ := h
  exact ⟨I.same, ⟨vs, I.lst, I.rows⟩, I.nl, I.nms⟩
theorem LPAt.next {K : PySem.W.Frag} {H0 H H' : Hp} {lp d tn : Addr} {s : RS} (h : LPAt K H0 H lp d tn s) (sm : Same H H') : LPAt K H0 H' lp d tn s := by
  obtain ⟨vs, a0, a1, a2, a3, a4, I⟩ := h
  exact ⟨vs, a0, a1, a2, a3, a4, I.next sm⟩
def LI (K : PySem.W.Frag) (H0 H : Hp) (lp d tn : Addr) (s : RS) : Prop := LB K H0 H lp tn s ∧ (s.names ≠ none → LPAt K H0 H lp d tn s)
theorem LI.next {K : PySem.W.Frag} {H0 H H' : Hp} {lp d tn : Addr} {s : RS} (h : LI K H0 H lp d tn s) (sm : Same H H') : LI K H0 H' lp d tn s := ⟨h.1.next sm, fun z => (h.2 z).next sm⟩
theorem LI.of {K : PySem.W.Frag} {H0 H : Hp} {lp d tn : Addr} {s : RS} (h : LPAt K H0 H lp d tn s) : LI K H0 H lp d tn s := ⟨h.toB, fun _ => h⟩
theorem sc__law_read : FnScope ["lines", "rows", "names", "parts", "n", "words", "word", "good", "claim"] ["lines"] (defScope s__law_read) := ⟨rfl, rfl, rfl, by decide +kernel, rfl, by decide +kernel, by decide +kernel⟩
theorem ok__law_read {k : Nat} (D : Def K mg "_law_read" "_law_read" s__law_read ["lines"]) (B : Bi mg) (c__law_part : Cal P w K mg base CX0 k "_law_part" ["parts", "words"] (spLPart K)) : Cal P w K mg base CX0 (k + 1) "_law_read" ["lines"] (spLRead K) := by
  refine D.cal fun f fd F => F.ok sc__law_read (fun vs H Q E h => ?_) (fun cdv A outer s H vs Q E hr h => ?_)
  · obtain ⟨a, Ls, rfl, _⟩ := h
    rfl
  · obtain ⟨a, Ls, rfl, ha, hll, hl, q1, q2⟩ := h
    have nd := sc__law_read.nd
    refine ⟨_, (pss_cons (ps_set (i := 1) nd rfl (Or.inl rfl) (pe_lst pa_nil))
      (pss_cons (ps_set (i := 2) nd rfl (Or.inl rfl) (pe_tup pa_nil))
      (pss_cons (ps_set (i := 3) nd rfl (Or.inl rfl) pe_dnewK)
      (pss_cons (ps_for PassesOwn.never rfl (pi_range1 (by rfl) B.range (pa_cons (pe_callB call_len_seq (by rfl) B.len (by decide +kernel) (pa_cons (pv 0) pa_nil)) pa_nil)) (pg_name (i := 4) nd rfl (Or.inl rfl))
        (pss_cons (ps_setLc (i := 5) (own := [("word", 6)]) rfl nd rfl rfl (sw_true rfl rfl rfl (by decide +kernel)) (pi_list (pe_split (pe_ix ix_list (pv 0) (pv 4) (fun _ _ => rfl)) pe_str)) (blkOk_by (own := [("word", 6)]) (N := ["lines", "rows", "names", "parts", "n", "words", "word", "good", "claim"]) (sc := defScope s__law_read) (by decide +kernel)) (fun _ _ _ _ _ => (pg_name (i := 6) nd rfl (Or.inl rfl))) (fun _ _ _ _ _ => (pts_one (pt_cmpR op_ne (pv 6) pe_str (nomark _)))) (fun _ _ _ _ _ => (pv 6)))
        (C8.pss_cut (ps_if (pt_cmpR (op_eqD hr.units) (pv 5) (pe_lst pa_nil) (nomark _))
          (pss_one (ps_set (i := 7) nd rfl (Or.inl rfl) pe_bl))
          (pss_one (ps_if (pt_cmpR (op_eqD hr.units) (pv 2) (pe_tup pa_nil) (nomark _))
            (pss_cons (ps_set (i := 7) nd rfl (Or.inl rfl) (pe_and (pe_cmpR op_eq (pe_callB call_len_seq (by rfl) B.len (by decide +kernel) (pa_cons (pv 5) pa_nil)) pe_int (nomark _)) (pe_and (pe_cmpR op_eq (pe_ix ix_list (pv 5) pe_int (fun _ _ => rfl)) pe_str (nomark _)) (pe_one (pe_cmpR op_eq (pe_ix ix_list (pv 5) pe_int (fun _ _ => rfl)) pe_str (nomark _))))))
            (pss_one (ps_if (pt_val (pv 7))
              (pss_cons (ps_set (i := 2) nd rfl (Or.inl rfl) (pe_tup (pa_cons (pe_ix ix_list (pv 5) pe_int (fun _ _ => rfl)) (pa_cons (pe_ix ix_list (pv 5) pe_int (fun _ _ => rfl)) pa_nil))))
              (pss_one (ps_set (i := 3) nd rfl (Or.inl rfl) (pe_disp (pps_cons pe_str (pe_lst pa_nil) (pps_cons pe_str (pe_lst pa_nil) (pps_cons pe_str (pe_lst pa_nil) (pps_cons pe_str (pe_lst pa_nil) (pps_cons pe_str (pe_lst pa_nil) (pps_cons pe_str pe_str (pps_cons pe_str pe_int pps_nil))))))) (by rfl) (by rfl) (fun z => by cases z) (by decide)))))
              pss_nil)))
            (pss_one (ps_if (pt_cmpR (op_eqD hr.units) (pv 5) (pe_lst (pa_cons pe_str pa_nil)) (nomark _))
              (pss_cons (ps_set (i := 7) nd rfl (Or.inl rfl) pe_bl)
              (pss_cons (ps_set (i := 8) nd rfl (Or.inl rfl) (pe_op op_catA (pv 2) (pe_tup (pa_cons (pe_callTy call_tuple_of (by rfl) B.tuple (by decide +kernel) (pa_cons (pe_dget (hu_of hr) (pv 3) pe_str (fun _ _ => rfl)) pa_nil)) (pa_cons (pe_callTy call_tuple_of (by rfl) B.tuple (by decide +kernel) (pa_cons (pe_dget (hu_of hr) (pv 3) pe_str (fun _ _ => rfl)) pa_nil)) (pa_cons (pe_callTy call_tuple_of (by rfl) B.tuple (by decide +kernel) (pa_cons (pe_dget (hu_of hr) (pv 3) pe_str (fun _ _ => rfl)) pa_nil)) (pa_cons (pe_callTy call_tuple_of (by rfl) B.tuple (by decide +kernel) (pa_cons (pe_dget (hu_of hr) (pv 3) pe_str (fun _ _ => rfl)) pa_nil)) pa_nil)))))))
              (pss_cons (ps_expr (pe_bm PySem.F.plainAttrs_list PySem.F.slot_list_append PySem.F.type_list_append mt_append (pv 1) (pa_cons (pe_tup (pa_cons (pv 8) (pa_cons (pe_callTy call_tuple_of (by rfl) B.tuple (by decide +kernel) (pa_cons (pe_dget (hu_of hr) (pv 3) pe_str (fun _ _ => rfl)) pa_nil)) (pa_cons (pe_dget (hu_of hr) (pv 3) pe_str (fun _ _ => rfl)) pa_nil)))) pa_nil)))
              (pss_one (ps_set (i := 2) nd rfl (Or.inl rfl) (pe_tup pa_nil))))))
              (pss_one (ps_set (i := 7) nd rfl (Or.inl rfl) (pe_cal c__law_part (Room.mono hr (by omega)) (by rfl) (pa_cons (pv 3) (pa_cons (pv 5) pa_nil))))))))))
        (pss_one (ps_if (pt_not (pt_val (pv 7)))
          (pss_one (ps_ret (pe_tup (pa_cons pe_str (pa_cons (pe_op op_add (pv 4) pe_int) pa_nil)))))
          pss_nil)))))
      (pss_cons (ps_if (pt_cmpR (op_neD hr.units) (pv 2) (pe_tup pa_nil) (nomark _))
        (pss_one (ps_ret (pe_tup (pa_cons pe_str (pa_cons (pe_op op_add (pe_callB call_len_seq (by rfl) B.len (by decide +kernel) (pa_cons (pv 0) pa_nil)) pe_int) pa_nil)))))
        pss_nil)
      (pss_one (ps_ret (pe_tup (pa_cons pe_str (pa_cons (pe_callTy call_tuple_of (by rfl) B.tuple (by decide +kernel) (pa_cons (pv 1) pa_nil)) pa_nil)))))))))), ?_⟩
    have big : (100000 : Nat) ≤ sizeLine := by decide
    tm_at "go"
    refine fun lp nlp => ?_
    have sa : Same H (upd H lp (.lst [])) := same_new nlp
    have ha1 : upd H lp (.lst []) lp = some (.lst []) := upd_same
    generalize upd H lp (.lst []) = Ha at sa ha1 ⊢
    tm_at "go"
    refine fun tn ntn => ?_
    have sb : Same Ha (upd Ha tn (.tup [])) := same_new ntn
    have hb1 : upd Ha tn (.tup []) tn = some (.tup []) := upd_same
    generalize upd Ha tn (.tup []) = Hb at sb hb1 ⊢
    tm_at "go"
    refine fun d nd0 => ?_
    have sc : Same Hb (upd Hb d (.dK [])) := same_new nd0
    have S0 : LI K H (upd Hb d (.dK [])) lp d tn s0 := ⟨⟨(sa.trans sb).trans sc, ⟨[], sc _ _ (sb _ _ ha1), .nil⟩, nlp, SqT.of (sc _ _ hb1)⟩, fun z => absurd rfl z⟩
    generalize upd Hb d (.dK []) = Hc at S0 ⊢
    clear sa ha1 sb hb1 sc ntn nd0
    refine ⟨_, rfl, a, _, rfl, .inl (S0.1.same.seq ha), ?_⟩
    rw [List.length_map]
    refine ⟨_, rfl, by omega, by omega, ?_⟩
    refine for_it walk_range (fun i σ H' => Bx (∃ (tn d : Addr) (v4 v5 v6 v7 v8 : Option V) (s : RS), σ = [some (.ref a), some (.ref lp), some (.ref tn), some (.ref d), v4, v5, v6, v7, v8] ∧ LI K H H' lp d tn s ∧ RSOk i s ∧ runL s i ((Ls.drop i).map Txt.words) = runL s0 0 (Ls.map Txt.words)))
      (.mk ⟨_, _, _, _, _, _, _, s0, rfl, S0, .start 0, rfl⟩) (fun _ _ _ _ _ => trivial) ?_ ?_
    · rintro i v σ H3 H4 hi bx ⟨rfl, rfl⟩
      obtain ⟨tn, d, v4, v5, v6, v7, v8, s, rfl, I3, hn3, run3⟩ := bx.out
      have hi2 : i < Ls.length := by omega
      have hmem := List.getElem_mem hi2
      have hat := at_strs (ws := Ls) (j := i) (i := 0 + (i : Int)) hi2 (by omega)
      have hgd : Ls.getD i Str.empty = Ls[i] := by
        rw [List.getD_eq_getElem?_getD, List.getElem?_eq_getElem hi2]
        rfl
      rw [hgd] at hat
      rw [List.drop_eq_getElem_cons hi2, List.map_cons] at run3
      obtain ⟨lenL, lwL, hsp, hsl⟩ := hl _ hmem
      generalize Ls[i] = L at run3 lenL lwL hsp hsl hat ⊢
      have lenS : L.length + 2 ≤ sizeLine := by omega
      refine ⟨_, rfl, _, rfl, _, _, _, _, rfl, rfl, I3.1.same.seq ha, hat, ⟨_, rfl⟩, ?_⟩
      refine ⟨L, S " ", rfl, rfl, by decide +kernel, lenS, ?_⟩
      refine fun lw nlw => ?_
      generalize hSP : Txt.split L (S " ") = SP at hsp hsl ⊢
      have s5 : Same H4 (upd H4 lw (.lst (SP.map V.str))) := same_new nlw
      have I5 := I3.next s5
      have hlw : upd H4 lw (.lst (SP.map V.str)) lw = some (.lst (SP.map V.str)) := upd_same
      generalize upd H4 lw (.lst (SP.map V.str)) = H5 at I5 hlw ⊢
      refine ⟨lw, rfl, ⟨_, SqL.of hlw⟩, fun D nD => ?_⟩
      refine lc_it walk_list (fun i H' => Same H5 H' ∧ H' D = some (.lst (((SP.take i).filter neS).map V.str))) ⟨same_new nD, upd_same⟩ (fun _ H' _ h => SqL.of (h.1 _ _ hlw)) ?_ ?_
      · rintro j v Hx Hy hlt ⟨sx, hDx⟩ ⟨rfl, hv⟩
        obtain ⟨x, hx, rfl⟩ : ∃ x, SP[j]? = some x ∧ V.str x = v := by
          rw [List.getElem?_map] at hv
          cases e : SP[j]? with
          | none => rw [e] at hv; cases hv
          | some z => rw [e] at hv; exact ⟨z, rfl, Option.some.inj hv⟩
        rw [take_filter hx]
        rw [List.length_map] at hlt
        refine ⟨rfl, ?_⟩
        refine ⟨_, rfl, rfl, _, rfl, ?_⟩
        by_cases hz : x = Str.empty
        · have e : neS x = false := by
            unfold neS
            rw [decide_eq_true hz]
            rfl
          rw [e]
          refine decN_false (congrArg V.str hz) ?_
          exact ⟨sx, by rw [hDx]; exact congrArg (fun z => some (HO.lst z)) (List.append_nil _).symm⟩
        · have e : neS x = true := by
            unfold neS
            rw [decide_eq_false hz]
            rfl
          rw [e]
          refine decN_true (fun z => hz (V.str.inj z)) ?_
          refine ⟨_, rfl, _, hDx, ?_, sx.upd nD, upd_same⟩
          rw [List.length_map]
          have := List.length_filter_le neS (SP.take j)
          rw [List.length_take] at this
          omega
      · rintro H6 ⟨s6, hD⟩
        rw [List.length_map, List.take_of_length_le (Nat.le_refl _), hsp] at hD
        have I6 := I5.next s6
        generalize Txt.words L = WS at hD lwL run3
        have hshw : ∀ x ∈ WS, Ok x := fun x hx => (lwL.ok x hx).2.2
        refine ⟨fun σ H' => Bx (∃ (b : Bool) (tn d : Addr) (v6 v8 : Option V) (s : RS), σ = [some (.ref a), some (.ref lp), some (.ref tn), some (.ref d), some (.int (0 + (i : Int))), some (.ref D), v6, some (.bl b), v8] ∧
          ((b = true ∧ LI K H H' lp d tn s ∧ RSOk (i + 1) s ∧ runL s (i + 1) ((Ls.drop (i + 1)).map Txt.words) = runL s0 0 (Ls.map Txt.words)) ∨ (b = false ∧ Same H H' ∧ runL s0 0 (Ls.map Txt.words) = .inl (i + 1)))), ?_, ?_⟩
        · tm_at "go"
          refine fun p np => ?_
          have sp : Same H6 (upd H6 p (.lst [])) := same_new np
          have hDp := sp _ _ hD
          refine ⟨.list (WS.map PyData.str), .list (([] : List Str).map PyData.str), .lst (SqL.of hDp) (ims_strs (H := upd H6 p (.lst [])) WS).dp, .lst (SqL.of upd_same) .nil, shaped_strs hshw, shaped_strs (fun x hx => by cases hx), ?_⟩
          rw [show PyData.eqv (.list (WS.map PyData.str)) (.list (([] : List Str).map PyData.str)) = decide (WS = []) from eqv_strs _ _]
          refine ⟨_, rfl, ?_⟩
          have I7 := I6.next sp
          generalize upd H6 p (.lst []) = H7 at I7 hDp ⊢
          by_cases hw : WS = []
          · rw [decide_eq_true hw]
            refine iteT ?_
            subst hw
            rw [runL_nil] at run3
            exact .mk ⟨true, _, _, _, _, s, rfl, .inl ⟨rfl, I7, ⟨Nat.le_succ_of_le hn3.rows, hn3.nm, fun z => by
              obtain ⟨c0, c2, c4, c5, p1, p3, a1, a2, a3, a4, a5⟩ := hn3.six z
              exact ⟨c0, c2, c4, c5, p1, p3, a1, a2, by omega, a4, a5⟩⟩, run3⟩⟩
          · rw [decide_eq_false hw]
            refine iteF ?_
            tm_at "go"
            refine fun p np => ?_
            have sp : Same H7 (upd H7 p (.tup [])) := same_new np
            have I8 := I7.next sp
            have hD8 := sp _ _ hDp
            refine ⟨_, .tuple [], .tup I8.1.nms (nm_ims _).dp, .tup (SqT.of upd_same) .nil, nm_shaped hn3.nm, rfl, ?_⟩
            rw [nm_eqv]
            refine ⟨_, rfl, ?_⟩
            generalize upd H7 p (.tup []) = H8 at I8 hD8 ⊢
            cases hnn : s.names with
            | none =>
              rw [decide_eq_true rfl]
              refine iteT ?_
              have hst : step s WS = if WS.length = 4 ∧ WS.getD 0 Str.empty = S "claim" ∧ WS.getD 2 Str.empty = S "with" then some ⟨s.rows, some (WS.getD 1 Str.empty, WS.getD 3 Str.empty), List.replicate 6 [], 0⟩ else none := by
                unfold step
                rw [hnn]
              refine ⟨_, rfl, D, _, rfl, .inl (SqL.of hD8), rfl, ?_⟩
              refine ⟨_, rfl, ?_⟩
              have bad : ∀ (v6 v8 : Option V) (H' : Hp), step s WS = none → Same H8 H' → Bx (∃ (b : Bool) (tn2 d2 : Addr) (v6' v8' : Option V) (s : RS), [some (V.ref a), some (.ref lp), some (.ref tn), some (.ref d), some (.int (0 + (i : Int))), some (.ref D), v6, some (.bl false), v8] = [some (.ref a), some (.ref lp), some (.ref tn2), some (.ref d2), some (.int (0 + (i : Int))), some (.ref D), v6', some (.bl b), v8'] ∧
          ((b = true ∧ LI K H H' lp d2 tn2 s ∧ RSOk (i + 1) s ∧ runL s (i + 1) ((Ls.drop (i + 1)).map Txt.words) = runL s0 0 (Ls.map Txt.words)) ∨ (b = false ∧ Same H H' ∧ runL s0 0 (Ls.map Txt.words) = .inl (i + 1)))) := fun v6 v8 H' e sm => by
                rw [runL_none hw e] at run3
                exact .mk ⟨false, _, _, _, _, s, rfl, .inr ⟨rfl, I8.1.same.trans sm, run3.symm⟩⟩
              by_cases h4 : V.int ((WS.map V.str).length : Int) = V.int 4
              · have h4l : WS.length = 4 := by
                  have := V.int.inj h4
                  rw [List.length_map] at this
                  omega
                obtain ⟨w0, w1, w2, w3, rfl⟩ : ∃ w0 w1 w2 w3, WS = [w0, w1, w2, w3] := by
                  match WS, h4l with
                  | [w0, w1, w2, w3], _ => exact ⟨w0, w1, w2, w3, rfl⟩
                have e0 : atI ([w0, w1, w2, w3].map V.str) 0 = some (V.str w0) := atI_nat (j := 0) rfl
                have e1 : atI ([w0, w1, w2, w3].map V.str) 1 = some (V.str w1) := atI_nat (j := 1) rfl
                have e2 : atI ([w0, w1, w2, w3].map V.str) 2 = some (V.str w2) := atI_nat (j := 2) rfl
                have e3 : atI ([w0, w1, w2, w3].map V.str) 3 = some (V.str w3) := atI_nat (j := 3) rfl
                refine dec_true h4 ?_
                refine ⟨_, rfl, D, _, _, _, rfl, rfl, SqL.of hD8, e0, ?_⟩
                refine ⟨rfl, _, rfl, ?_⟩
                by_cases c0 : w0 = S "claim"
                · refine dec_true (congrArg V.str c0) ?_
                  refine ⟨_, rfl, D, _, _, _, rfl, rfl, SqL.of hD8, e2, ?_⟩
                  refine ⟨rfl, _, rfl, _, rfl, ?_⟩
                  by_cases c2 : w2 = S "with"
                  · refine dec_true (congrArg V.str c2) ?_
                    rw [if_pos ⟨rfl, c0, c2⟩] at hst
                    rw [decide_eq_true (congrArg V.str c2)]
                    tm_at "go"
                    refine fun t nt => ?_
                    have s9 : Same H8 (upd H8 t (.tup [.str w1, .str w3])) := same_new nt
                    have ht9 : upd H8 t (.tup [.str w1, .str w3]) t = some (.tup [.str w1, .str w3]) := upd_same
                    generalize upd H8 t (.tup [.str w1, .str w3]) = H9 at s9 ht9 ⊢
                    tm_at "go"
                    refine fun d2 nd2 => ?_
                    have s10 : Same H9 (upd H9 d2 (.dK [])) := same_new nd2
                    have hd10 : upd H9 d2 (.dK []) d2 = some (.dK []) := upd_same
                    generalize upd H9 d2 (.dK []) = H10 at s10 hd10 ⊢
                    tm_at "go"
                    refine fun a0 n0 => ?_
                    have r0 : Same H10 (upd H10 a0 (.lst [])) := same_new n0
                    have b0 : upd H10 a0 (.lst []) a0 = some (.lst []) := upd_same
                    generalize upd H10 a0 (.lst []) = G0 at r0 b0 ⊢
                    tm_at "go"
                    refine fun a1 n1 => ?_
                    have r1 : Same G0 (upd G0 a1 (.lst [])) := same_new n1
                    have b1 : upd G0 a1 (.lst []) a1 = some (.lst []) := upd_same
                    generalize upd G0 a1 (.lst []) = G1 at r1 b1 ⊢
                    tm_at "go"
                    refine fun a2 n2 => ?_
                    have r2 : Same G1 (upd G1 a2 (.lst [])) := same_new n2
                    have b2 : upd G1 a2 (.lst []) a2 = some (.lst []) := upd_same
                    generalize upd G1 a2 (.lst []) = G2 at r2 b2 ⊢
                    tm_at "go"
                    refine fun a3 n3 => ?_
                    have r3 : Same G2 (upd G2 a3 (.lst [])) := same_new n3
                    have b3 : upd G2 a3 (.lst []) a3 = some (.lst []) := upd_same
                    generalize upd G2 a3 (.lst []) = G3 at r3 b3 ⊢
                    tm_at "go"
                    refine fun a4 n4 => ?_
                    have r4 : Same G3 (upd G3 a4 (.lst [])) := same_new n4
                    have b4 : upd G3 a4 (.lst []) a4 = some (.lst []) := upd_same
                    generalize upd G3 a4 (.lst []) = G4 at r4 b4 ⊢
                    have t34 := r4
                    have t24 := r3.trans t34
                    have t14 := r2.trans t24
                    have t04 := r1.trans t14
                    have tA4 := r0.trans t04
                    have t94 := s10.trans tA4
                    have t84 := s9.trans t94
                    refine ⟨tA4 _ _ hd10, [((Sum.inr (S "given") : Key), V.ref a0), (Sum.inr (S "same"), .ref a1), (Sum.inr (S "ask"), .ref a2), (Sum.inr (S "keep"), .ref a3), (Sum.inr (S "hint"), .ref a4), (Sum.inr (S "walk"), .str (S "any")), (Sum.inr (S "stage"), .int 0)], rfl, Nat.le_of_ble_eq_true rfl, ?_⟩
                    rw [ents_merge]
                    have hcl := LB.claim (d := d2) (x := w1) (y := w3) I8.1 t84 (tA4 _ _ hd10) (s9.free nd2) (t94 _ _ ht9) (a0 := a0) (a1 := a1) (a2 := a2) (a3 := a3) (a4 := a4) (fun z hz => by
                      simp only [List.mem_cons, List.not_mem_nil, or_false] at hz
                      have f10 := s9.trans s10
                      rcases hz with rfl | rfl | rfl | rfl | rfl
                      · exact ⟨f10.free n0, t04 _ _ b0⟩
                      · exact ⟨(f10.trans r0).free n1, t14 _ _ b1⟩
                      · exact ⟨((f10.trans r0).trans r1).free n2, t24 _ _ b2⟩
                      · exact ⟨(((f10.trans r0).trans r1).trans r2).free n3, t34 _ _ b3⟩
                      · exact ⟨((((f10.trans r0).trans r1).trans r2).trans r3).free n4, b4⟩) (by
                      have e01 := ne_of_none b0 n1
                      have e02 := ne_of_none (r1 _ _ b0) n2
                      have e03 := ne_of_none (r2 _ _ (r1 _ _ b0)) n3
                      have e04 := ne_of_none (r3 _ _ (r2 _ _ (r1 _ _ b0))) n4
                      have e12 := ne_of_none b1 n2
                      have e13 := ne_of_none (r2 _ _ b1) n3
                      have e14 := ne_of_none (r3 _ _ (r2 _ _ b1)) n4
                      have e23 := ne_of_none b2 n3
                      have e24 := ne_of_none (r3 _ _ b2) n4
                      have e34 := ne_of_none b3 n4
                      simp only [List.nodup_cons, List.mem_cons, List.not_mem_nil, or_false, not_or, not_false_eq_true, and_true, List.nodup_nil]
                      exact ⟨⟨e01, e02, e03, e04⟩, ⟨e12, e13, e14⟩, ⟨e23, e24⟩, e34⟩)
                    rw [runL_some hw hst] at run3
                    exact .mk ⟨true, t, d2, _, _, ⟨s.rows, some (w1, w3), List.replicate 6 [], 0⟩, rfl, .inl ⟨rfl, .of hcl, (step_ok (by omega) hn3 lwL hst).2, run3⟩⟩
                  · refine dec_false (fun z => c2 (V.str.inj z)) ?_
                    rw [if_neg (fun z => c2 z.2.2)] at hst
                    rw [decide_eq_false (fun z => c2 (V.str.inj z))]
                    exact bad _ _ _ hst (Same.refl _)
                · refine dec_false (fun z => c0 (V.str.inj z)) ?_
                  rw [if_neg (fun z => c0 z.2.1)] at hst
                  refine ⟨_, rfl, _, rfl, ?_⟩
                  refine iteF ?_
                  exact bad _ _ _ hst (Same.refl _)
              · have h4' : ¬ WS.length = 4 := fun z => h4 (congrArg V.int (by rw [List.length_map, z]; rfl))
                rw [if_neg (fun z => h4' z.1)] at hst
                refine dec_false h4 ?_
                refine ⟨_, rfl, _, rfl, ?_⟩
                refine iteF ?_
                exact bad _ _ _ hst (Same.refl _)
            | some nm =>
              rw [decide_eq_false (fun z => nomatch z)]
              refine iteF ?_
              have hnne : s.names ≠ none := by
                rw [hnn]
                exact fun z => nomatch z
              have I8p := I8.2 hnne
              obtain ⟨hd, rest, rfl⟩ := List.exists_cons_of_ne_nil hw
              have hst : step s (hd :: rest) = if hd :: rest = [S "end"] then some (finS s nm.1 nm.2) else (ix hd).bind fun j => partS s j rest := by
                unfold step
                rw [hnn]
              tm_at "go"
              refine fun p2 np2 => ?_
              have sp2 : Same H8 (upd H8 p2 (.lst [.str (S "end")])) := same_new np2
              have I9 := I8p.next sp2
              have hD9 := sp2 _ _ hD8
              refine ⟨_, .list ([S "end"].map PyData.str), .lst (SqL.of hD9) (ims_strs (H := upd H8 p2 (.lst [.str (S "end")])) (hd :: rest)).dp, .lst (SqL.of upd_same) (.cons (.str _) .nil), shaped_strs hshw, shaped_strs end1, ?_⟩
              rw [show PyData.eqv (.list ((hd :: rest).map PyData.str)) (.list ([S "end"].map PyData.str)) = decide (hd :: rest = [S "end"]) from eqv_strs _ _]
              refine ⟨_, rfl, ?_⟩
              generalize upd H8 p2 (.lst [.str (S "end")]) = H9 at I9 hD9 ⊢
              by_cases hend : hd :: rest = [S "end"]
              · rw [if_pos hend] at hst
                rw [decide_eq_true hend]
                refine iteT ?_
                tm_at "go"
                obtain ⟨vs, a0, a1, a2, a3, a4, I⟩ := I9
                obtain ⟨c0, c2, c4, c5, p1, p3, hc, h5, hcl, ho1, ho3⟩ := hn3.six hnne
                obtain ⟨u0, h0, i0⟩ := I.at_ 0 a0 c0 rfl (by rw [hc]; rfl)
                obtain ⟨u1, h1, i1⟩ := I.at_ 1 a1 (p1.map qD) rfl (by rw [hc]; rfl)
                obtain ⟨u2, h2, i2⟩ := I.at_ 2 a2 c2 rfl (by rw [hc]; rfl)
                obtain ⟨u3, h3, i3⟩ := I.at_ 3 a3 (p3.map qD) rfl (by rw [hc]; rfl)
                obtain ⟨u4, h4, i4⟩ := I.at_ 4 a4 c4 rfl (by rw [hc]; rfl)
                have dg : ∀ H', Same H9 H' → ∀ (j : Nat) (h : Str) (a : Addr), heads6[j]? = some h → [a0, a1, a2, a3, a4][j]? = some a → DGet H' d (.str h) (some (.ref a)) := fun H' s' j h a e1 e2 => by
                  have := DGet.k (k := Sum.inr h) (s' _ _ I.prt)
                  rw [ents_get e1 e2] at this
                  exact this
                have r0 := Same.refl H9
                refine ⟨d, .ref a0, rfl, dg _ r0 0 _ _ rfl rfl, ?_⟩
                refine ⟨a0, u0, rfl, .inl ⟨SqL.of h0, fun t0 n0 => ?_⟩⟩
                have s1 : Same H9 (upd H9 t0 (.tup u0)) := same_new n0
                have e0 : upd H9 t0 (.tup u0) t0 = some (.tup u0) := upd_same
                generalize upd H9 t0 (.tup u0) = G1 at s1 e0 ⊢
                refine ⟨_, rfl, d, .ref a1, rfl, dg _ s1 1 _ _ rfl rfl, ?_⟩
                refine ⟨a1, u1, rfl, .inl ⟨SqL.of (s1 _ _ h1), fun t1 n1 => ?_⟩⟩
                have s12 : Same G1 (upd G1 t1 (.tup u1)) := same_new n1
                have e1 : upd G1 t1 (.tup u1) t1 = some (.tup u1) := upd_same
                generalize upd G1 t1 (.tup u1) = G2 at s12 e1 ⊢
                have s2 := s1.trans s12
                refine ⟨_, rfl, d, .ref a2, rfl, dg _ s2 2 _ _ rfl rfl, ?_⟩
                refine ⟨a2, u2, rfl, .inl ⟨SqL.of (s2 _ _ h2), fun t2 n2 => ?_⟩⟩
                have s23 : Same G2 (upd G2 t2 (.tup u2)) := same_new n2
                have e2 : upd G2 t2 (.tup u2) t2 = some (.tup u2) := upd_same
                generalize upd G2 t2 (.tup u2) = G3 at s23 e2 ⊢
                have s3 := s2.trans s23
                refine ⟨_, rfl, d, .ref a3, rfl, dg _ s3 3 _ _ rfl rfl, ?_⟩
                refine ⟨a3, u3, rfl, .inl ⟨SqL.of (s3 _ _ h3), fun t3 n3 => ?_⟩⟩
                have s34 : Same G3 (upd G3 t3 (.tup u3)) := same_new n3
                have e3 : upd G3 t3 (.tup u3) t3 = some (.tup u3) := upd_same
                generalize upd G3 t3 (.tup u3) = G4 at s34 e3 ⊢
                have s4 := s3.trans s34
                tm_at "go"
                refine fun tt ntt => ?_
                have s45 : Same G4 (upd G4 tt (.tup [.ref t0, .ref t1, .ref t2, .ref t3])) := same_new ntt
                have ett : upd G4 tt (.tup [.ref t0, .ref t1, .ref t2, .ref t3]) tt = some (.tup [.ref t0, .ref t1, .ref t2, .ref t3]) := upd_same
                generalize upd G4 tt (.tup [.ref t0, .ref t1, .ref t2, .ref t3]) = G5 at s45 ett ⊢
                have s5 := s4.trans s45
                have hnm := s5.tk.tup I.nms
                rw [hnn] at hnm
                have hsz : (nmV (some nm)).length + [V.ref t0, V.ref t1, V.ref t2, V.ref t3].length ≤ sizeLine := Nat.le_of_ble_eq_true rfl
                refine ⟨tn, tt, nmV (some nm), [.ref t0, .ref t1, .ref t2, .ref t3], rfl, rfl, hnm, SqT.of ett, hsz, fun z => (by cases z), fun _ z => (by cases z), fun _ _ tc ntc => ?_⟩
                have s56 : Same G5 (upd G5 tc (.tup (nmV (some nm) ++ [.ref t0, .ref t1, .ref t2, .ref t3]))) := same_new ntc
                have etc : upd G5 tc (.tup (nmV (some nm) ++ [.ref t0, .ref t1, .ref t2, .ref t3])) tc = some (.tup (nmV (some nm) ++ [.ref t0, .ref t1, .ref t2, .ref t3])) := upd_same
                generalize upd G5 tc (.tup (nmV (some nm) ++ [.ref t0, .ref t1, .ref t2, .ref t3])) = G6 at s56 etc ⊢
                have s6 := s5.trans s56
                refine ⟨_, rfl, .inl ⟨rfl, _, SqL.of (s6 _ _ I.lst)⟩, ?_⟩
                refine ⟨_, rfl, _, rfl, d, .ref a4, rfl, dg _ s6 4 _ _ rfl rfl, ?_⟩
                refine ⟨a4, u4, rfl, .inl ⟨SqL.of (s6 _ _ h4), fun t4 n4 => ?_⟩⟩
                have s67 : Same G6 (upd G6 t4 (.tup u4)) := same_new n4
                have e4 : upd G6 t4 (.tup u4) t4 = some (.tup u4) := upd_same
                generalize upd G6 t4 (.tup u4) = G7 at s67 e4 ⊢
                have s7 := s6.trans s67
                have dgW : DGet G7 d (.str (S "walk")) (some (.str (ruleD (s.cont.getD 5 [])))) := by
                  have := DGet.k (k := Sum.inr (S "walk")) (s7 _ _ I.prt)
                  rw [ents_walk] at this
                  exact this
                refine ⟨_, rfl, d, _, rfl, dgW, ?_⟩
                tm_at "go"
                refine fun tr ntr => ?_
                have s78 : Same G7 (upd G7 tr (.tup [.ref tc, .ref t4, .str (ruleD (s.cont.getD 5 []))])) := same_new ntr
                have er : upd G7 tr (.tup [.ref tc, .ref t4, .str (ruleD (s.cont.getD 5 []))]) tr = some (.tup [.ref tc, .ref t4, .str (ruleD (s.cont.getD 5 []))]) := upd_same
                generalize upd G7 tr (.tup [.ref tc, .ref t4, .str (ruleD (s.cont.getD 5 []))]) = G8 at s78 er ⊢
                have s8 := s7.trans s78
                have s68 := s67.trans s78
                have s58 := s56.trans s68
                have s48 := s45.trans s58
                have s38 := s34.trans s48
                have s28 := s23.trans s38
                have s18 := s12.trans s28
                have hvl := I.rows.length
                have hrw := hn3.rows
                refine ⟨lp, vs, .ref tr, rfl, rfl, s8 _ _ I.lst, small1000 (by omega), ?_⟩
                have iv : Im K G8 (.ref tr) (rowD nm.1 nm.2 c0 (p1.map qD) c2 (p3.map qD) c4 (ruleD (s.cont.getD 5 []))) := by
                  refine .tup (SqT.of er) (.cons (.tup (SqT.of (s68 _ _ etc)) (.cons (.str _) (.cons (.str _) (.cons ?_ (.cons ?_ (.cons ?_ (.cons ?_ .nil))))))) (.cons ?_ (.cons (.str _) .nil)))
                  · exact .tup (SqT.of (s18 _ _ e0)) (s8.tk.ims i0)
                  · exact .tup (SqT.of (s28 _ _ e1)) (s8.tk.ims i1)
                  · exact .tup (SqT.of (s38 _ _ e2)) (s8.tk.ims i2)
                  · exact .tup (SqT.of (s48 _ _ e3)) (s8.tk.ims i3)
                  · exact .tup (SqT.of (s78 _ _ e4)) (s8.tk.ims i4)
                have efin : (finS s nm.1 nm.2).rows = s.rows ++ [rowD nm.1 nm.2 c0 (p1.map qD) c2 (p3.map qD) c4 (ruleD (s.cont.getD 5 []))] := by
                  unfold finS
                  rw [hc]
                  rfl
                have hG8l := s8 _ _ I.lst
                have k8 : TK G8 (upd G8 lp (.lst (vs ++ [.ref tr]))) := TK.lst hG8l
                have s0l : Same H (upd G8 lp (.lst (vs ++ [.ref tr]))) := same_keep (I.same.trans s8) I.nl
                have hl9 : upd G8 lp (.lst (vs ++ [.ref tr])) lp = some (.lst (vs ++ [.ref tr])) := upd_same
                have im9 : Ims K (upd G8 lp (.lst (vs ++ [.ref tr]))) (vs ++ [.ref tr]) (finS s nm.1 nm.2).rows := by
                  rw [efin]
                  exact k8.ims (Ims.snoc (s8.tk.ims I.rows) iv)
                generalize upd G8 lp (.lst (vs ++ [.ref tr])) = G9 at s0l hl9 im9 ⊢
                tm_at "go"
                refine fun tn2 ntn2 => ?_
                have s9 : Same G9 (upd G9 tn2 (.tup [])) := same_new ntn2
                rw [runL_some hw hst] at run3
                exact .mk ⟨true, tn2, d, _, _, finS s nm.1 nm.2, rfl, .inl ⟨rfl, ⟨⟨s0l.trans s9, ⟨_, s9 _ _ hl9, s9.tk.ims im9⟩, I.nl, SqT.of upd_same⟩, fun z => absurd rfl z⟩, (step_ok (by omega) hn3 lwL hst).2, run3⟩⟩
              · rw [if_neg hend] at hst
                rw [decide_eq_false hend]
                refine iteF ?_
                refine ⟨_, rfl, _, rfl, d, D, lp, tn, H, i, s, hd, rest, rfl, I9, by omega, hn3, hnne, hD9, lwL, fun s' H10 e I10 => ?_, fun H10 e s10 => ?_⟩
                · rw [e] at hst
                  rw [runL_some hw hst] at run3
                  exact .mk ⟨true, _, _, _, _, s', rfl, .inl ⟨rfl, .of I10, (step_ok (by omega) hn3 lwL hst).2, run3⟩⟩
                · rw [e] at hst
                  rw [runL_none hw hst] at run3
                  exact .mk ⟨false, _, _, _, _, s, rfl, .inr ⟨rfl, s10, run3.symm⟩⟩
        · rintro σ H10 bx2
          obtain ⟨b, tn2, d2, v6', v8', s2, rfl, hb⟩ := bx2.out
          rcases hb with ⟨rfl, I10, hn10, run10⟩ | ⟨rfl, s10, run10⟩
          · refine ⟨_, rfl, _, rfl, ?_⟩
            refine iteF ?_
            exact .mk ⟨_, _, _, _, _, _, _, s2, rfl, I10, hn10, run10⟩
          · refine ⟨_, rfl, _, rfl, ?_⟩
            refine iteT ?_
            tm_at "go"
            refine fun t nt => ?_
            have st : Same H10 (upd H10 t (.tup [.str (S "line"), .int (0 + (i : Int) + 1)])) := same_new nt
            have e1 : (0 + (i : Int) + 1) = ((i + 1 : Nat) : Int) := by omega
            have ht : upd H10 t (.tup [.str (S "line"), .int (0 + (i : Int) + 1)]) t = some (.tup [.str (S "line"), .int ((i + 1 : Nat) : Int)]) := by
              rw [upd_same, e1]
            refine q2 (i + 1) _ _ ?_ (by omega) (s10.trans st) (.tup (SqT.of ht) (.cons (.str _) (.cons (.int _) .nil)))
            unfold readR
            rw [run10]
    · rintro σ H3 bx
      obtain ⟨tn, d, v4, v5, v6, v7, v8, s, rfl, I3, hn3, run3⟩ := bx.out
      have ed : Ls.drop ((Ls.length : Int)).toNat = [] := by
        rw [Int.toNat_natCast]
        exact List.drop_length
      rw [ed, List.map_nil, runL] at run3
      tm_at "go"
      refine fun p np => ?_
      have sp : Same H3 (upd H3 p (.tup [])) := same_new np
      have I8 := I3.next sp
      refine ⟨_, .tuple [], .tup I8.1.nms (nm_ims _).dp, .tup (SqT.of upd_same) .nil, nm_shaped hn3.nm, rfl, ?_⟩
      rw [nm_eqv]
      refine ⟨_, rfl, ?_⟩
      generalize upd H3 p (.tup []) = H8 at I8 ⊢
      by_cases hnn : s.names = none
      · rw [decide_eq_true hnn]
        refine iteF ?_
        obtain ⟨vs, h1, h2⟩ := I8.1.lst
        tm_at "go"
        refine ⟨lp, vs, rfl, .inl ⟨SqL.of h1, fun l nl => ?_⟩⟩
        have sl : Same H8 (upd H8 l (.tup vs)) := same_new nl
        have hl1 : upd H8 l (.tup vs) l = some (.tup vs) := upd_same
        generalize upd H8 l (.tup vs) = H9 at sl hl1 ⊢
        tm_at "go"
        refine fun t nt => ?_
        have st : Same H9 (upd H9 t (.tup [.str (S "rows"), .ref l])) := same_new nt
        refine q1 s.rows _ _ ?_ ((I8.1.same.trans sl).trans st) (.tup (SqT.of upd_same) (.cons (.str _) (.cons (.tup (SqT.of (st _ _ hl1)) ((sl.trans st).tk.ims h2)) .nil)))
        unfold readR
        rw [← run3]
        dsimp only
        rw [hnn]
      · rw [decide_eq_false hnn]
        refine iteT ?_
        obtain ⟨nm, enm⟩ := Option.ne_none_iff_exists'.mp hnn
        refine ⟨_, rfl, a, _, rfl, .inl (I8.1.same.seq ha), ?_⟩
        rw [List.length_map]
        tm_at "go"
        refine fun t nt => ?_
        have st : Same H8 (upd H8 t (.tup [.str (S "line"), .int ((Ls.length : Int) + 1)])) := same_new nt
        refine q2 (Ls.length + 1) _ _ ?_ (by omega) (I8.1.same.trans st) (.tup (SqT.of upd_same) (.cons (.str _) (.cons ?_ .nil)))
        · unfold readR
          rw [← run3]
          dsimp only
          rw [enm, List.length_map]
        · have e1 : ((Ls.length : Int) + 1) = ((Ls.length + 1 : Nat) : Int) := by omega
          show Im K (upd H8 t (.tup [.str (S "line"), .int ((Ls.length : Int) + 1)])) (.int ((Ls.length : Int) + 1)) (.int ((Ls.length + 1 : Nat) : Int))
          rw [e1]
          exact .int _
end
end C
set_option Elab.async false
set_option linter.all false
set_option pp.maxSteps 1500
set_option maxRecDepth 100000
set_option maxHeartbeats 4000000
namespace C
open PySem PySem.Spec PyProof.Rows L2 Kx M TL
local macro_rules | `(tactic| tm_at "same") => `(tactic| first
  | assumption
  | exact L2.Same.refl _
  | exact L2.Same.upd (by tm_at "same") (by tm_at "free")
  | exact sameTransR (by assumption) (by tm_at "same"))
local macro_rules | `(tactic| tm_at "free") => `(tactic| first
  | assumption
  | exact sameFreeR (by assumption) (by tm_at "same"))
local macro_rules | `(tactic| tm_at "but") => `(tactic| first
  | assumption
  | exact But.refl _ _
  | exact But.transR (by assumption) (by tm_at "but")
  | exact But.upd
  | exact But.self (by tm_at "but")
  | exact But.new1 (by tm_at "but") (by assumption)
  | exact But.new (by tm_at "but") (by tm_at "free")
  | exact L2.Same.but (by assumption) _)
local macro_rules | `(tactic| tm_at "fact") => `(tactic| first
  | exact upd_same
  | assumption
  | exact SqL.of upd_same
  | exact SqT.of upd_same
  | exact SqL.of (by assumption)
  | exact SqT.of (by assumption)
  | exact But.lstR (by assumption) (by assumption) (by tm_at "but"))
local macro_rules | `(tactic| tm_at "cond") => `(tactic| first
  | rfl
  | assumption
  | decide
  | omega
  | exact ⟨by decide, by decide⟩
  | exact .inr ⟨by decide, by decide⟩
  | exact .inl ⟨by decide, by decide⟩
  | exact ⟨by decide, by decide, by decide⟩
  | exact cdivw (by assumption) (by assumption)
  | exact log2_ok (by assumption)
  | exact Or.inl ⟨rfl, _, SqL.of upd_same⟩
  | exact Or.inl ⟨rfl, _, SqL.of (by assumption)⟩
  | exact ⟨_, rfl⟩
  | exact Nat.le_of_ble_eq_true rfl
  | exact small1000 (by omega))
local macro_rules | `(tactic| tm_at "prop") => `(tactic| first
  | assumption
  | omega)
local macro_rules | `(tactic| tm_at "s") => `(tactic| first
  | refine ⟨_, rfl, ?_⟩
  | refine ⟨_, _, rfl, rfl, ?_⟩
  | refine ⟨_, _, _, rfl, rfl, (by tm_at "fact"), (by tm_at "cond"), ?_⟩
  | refine ⟨_, _, _, _, rfl, rfl, (by tm_at "fact"), rfl, ?_⟩
  | refine ⟨_, _, rfl, (by tm_at "fact"), ?_⟩
  | refine And.intro (by tm_at "cond") ?_
  | refine .inl ⟨_, rfl, ?_⟩
  | refine ⟨_, _, rfl, .inl (by tm_at "fact"), ?_⟩
  | refine dec_false (by tm_at "prop") ?_
  | refine dec_true (by tm_at "prop") ?_
  | refine decN_false (by tm_at "prop") ?_
  | refine decN_true (by tm_at "prop") ?_
  | refine iteT ?_
  | refine iteF ?_
  | refine ⟨_, _, rfl, ?_⟩)
local macro_rules | `(tactic| tm_at "go") => `(tactic| repeat tm_at "s")

section
variable {P : Program} {w : World} {K : PySem.W.Frag} {mg : Str → Option Value} {base : Heap} {aH aR : Addr}
/-! ### split at blanks, the empty words left out -/
def pcs : List Nat → List (List Nat)
  | [] => [[]]
  | c :: r => if c = 32 then [] :: pcs r else match pcs r with
    | [] => [[c]]
    | p :: ps => (c :: p) :: ps
theorem pcs_ne : ∀ l, pcs l ≠ []
  | [] => List.cons_ne_nil _ _
  | c :: r => by
    unfold pcs
    split
    · exact List.cons_ne_nil _ _
    · split <;> exact List.cons_ne_nil _ _
theorem pcs_no : ∀ l, ∀ p ∈ pcs l, 32 ∉ p
  | [], p, h => by
    rw [List.mem_singleton.mp h]
    exact List.not_mem_nil
  | c :: r, p, h => by
    unfold pcs at h
    split at h
    · rcases List.mem_cons.mp h with e | e
      · rw [e]
        exact List.not_mem_nil
      · exact pcs_no r p e
    · rename_i hc
      split at h
      · rename_i e
        exact absurd e (pcs_ne r)
      · rename_i q qs e
        rcases List.mem_cons.mp h with e2 | e2
        · rw [e2]
          intro z
          rcases List.mem_cons.mp z with z | z
          · exact hc z.symm
          · exact pcs_no r q (by rw [e]; exact List.mem_cons_self ..) z
        · exact pcs_no r p (by rw [e]; exact List.mem_cons_of_mem _ e2)
theorem pcs_len : ∀ l, (pcs l).length ≤ l.length + 1
  | [] => Nat.le_refl _
  | c :: r => by
    have ih := pcs_len r
    unfold pcs
    split
    · rw [List.length_cons, List.length_cons]
      omega
    · split
      · simp
      · rename_i e
        rw [e] at ih
        rw [List.length_cons] at ih ⊢
        rw [List.length_cons]
        omega
theorem joinL_cons {x y : List Nat} {r : List (List Nat)} : joinL [32] (x :: y :: r) = x ++ ([32] ++ joinL [32] (y :: r)) := rfl
theorem pcs_join : ∀ l, joinL [32] (pcs l) = l
  | [] => rfl
  | c :: r => by
    have ih := pcs_join r
    unfold pcs
    split
    · rename_i hc
      cases e : pcs r with
      | nil => exact absurd e (pcs_ne r)
      | cons p ps =>
        rw [joinL_cons, ← e, ih, hc]
        rfl
    · split
      · rename_i e
        exact absurd e (pcs_ne r)
      · rename_i p ps e
        rw [e] at ih
        cases ps with
        | nil =>
          have ih : p = r := ih
          rw [← ih]
          rfl
        | cons q qs =>
          rw [joinL_cons] at ih ⊢
          rw [← ih]
          rfl
def neL (p : List Nat) : Bool := !p.isEmpty
theorem pcs_words : ∀ (l : List Nat) (ws : List (List Nat)) (u h : List Nat) (t : List (List Nat)), (∀ c ∈ l, Unicode.isSpace c = true → c = 32) → pcs l = h :: t → wfin (l.foldl wstep (ws, u)) = ws ++ ((u ++ h) :: t).filter neL
  | [], ws, u, h, t, _, e => by
    cases e
    rw [List.append_nil]
    show wfin (ws, u) = _
    unfold wfin
    cases u with
    | nil =>
      rw [if_pos rfl]
      exact (List.append_nil _).symm
    | cons a b =>
      rw [if_neg (List.cons_ne_nil _ _)]
      rfl
  | c :: r, ws, u, h, t, hs, e => by
    have hr : ∀ d ∈ r, Unicode.isSpace d = true → d = 32 := fun d hd => hs d (List.mem_cons_of_mem _ hd)
    rw [List.foldl_cons]
    by_cases hc : c = 32
    · subst hc
      unfold pcs at e
      rw [if_pos rfl] at e
      cases e
      have a : wstep (ws, u) 32 = (if u = [] then (ws, u) else (ws ++ [u], [])) := if_pos sp32
      rw [a]
      cases e2 : pcs r with
      | nil => exact absurd e2 (pcs_ne r)
      | cons h2 t2 =>
        by_cases hu : u = []
        · subst hu
          rw [if_pos rfl, pcs_words r ws [] h2 t2 hr e2]
          rfl
        · rw [if_neg hu, pcs_words r (ws ++ [u]) [] h2 t2 hr e2]
          have hne : neL (u ++ []) = true := by
            rw [List.append_nil]
            cases u with
            | nil => exact absurd rfl hu
            | cons _ _ => rfl
          rw [List.filter_cons_of_pos hne, List.append_nil, List.append_assoc]
          rfl
    · have hsp : Unicode.isSpace c = false := by
        cases e3 : Unicode.isSpace c with
        | false => rfl
        | true => exact absurd (hs c (List.mem_cons_self ..) e3) hc
      have a : wstep (ws, u) c = (ws, u ++ [c]) := if_neg (by rw [hsp]; exact Bool.false_ne_true)
      rw [a]
      unfold pcs at e
      rw [if_neg hc] at e
      cases e2 : pcs r with
      | nil => exact absurd e2 (pcs_ne r)
      | cons h2 t2 =>
        rw [e2] at e
        cases e
        rw [pcs_words r ws (u ++ [c]) h2 t hr e2, List.append_assoc]
        rfl
theorem map_tl_inj : ∀ {l m : List Str}, l.map tl = m.map tl → l = m
  | [], [], _ => rfl
  | [], _ :: _, h => by cases h
  | _ :: _, [], h => by cases h
  | a :: r, b :: s, h => by
    rw [List.map_cons, List.map_cons] at h
    injection h with h1 h2
    rw [ext_tl h1, map_tl_inj h2]
def ofL (l : List Nat) : Str := ⟨l.toArray⟩
theorem tl_ofL (l : List Nat) : tl (ofL l) = l := rfl
theorem split_blank (L : Str) : Txt.split L (S " ") = (pcs (tl L)).map ofL := by
  have e : Txt.join (S " ") ((pcs (tl L)).map ofL) = L := by
    refine ext_tl ?_
    rw [join_eq, tl_join, tl_blank, List.map_map, show (tl ∘ ofL) = id from rfl, List.map_id, pcs_join]
  have h := split_join (y := S " ") (s := 32) (S := []) tl_blank (by decide +kernel) (parts := (pcs (tl L)).map ofL) (by
    intro z
    exact pcs_ne _ (List.map_eq_nil_iff.mp z)) (fun p hp => by
    obtain ⟨q, hq, rfl⟩ := List.mem_map.mp hp
    exact pcs_no _ q hq)
  rw [e] at h
  exact h
theorem ne_tl (x : Str) : neL (tl x) = !decide (x = Str.empty) := by
  by_cases h : x = Str.empty
  · rw [decide_eq_true h, h]
    rfl
  · rw [decide_eq_false h]
    cases e : tl x with
    | nil => exact absurd (ext_tl e) h
    | cons _ _ => rfl
theorem words_split {L : Str} (h : ∀ c ∈ tl L, Unicode.isSpace c = true → c = 32) : (Txt.split L (S " ")).filter (fun x => !decide (x = Str.empty)) = Txt.words L := by
  refine map_tl_inj ?_
  rw [words_tl, split_blank]
  obtain ⟨a, b, e⟩ := List.exists_cons_of_ne_nil (pcs_ne (tl L))
  rw [pcs_words _ _ _ _ _ h e, e, List.nil_append, List.nil_append]
  generalize a :: b = l
  rw [List.filter_map, List.map_map, show (tl ∘ ofL) = id from rfl, List.map_id]
  refine List.filter_congr fun x _ => ?_
  exact (ne_tl (ofL x)).symm
theorem split_count (L : Str) : (Txt.split L (S " ")).length ≤ L.length + 1 := by
  rw [split_blank, List.length_map, len_tl]
  exact pcs_len _
end
end C
set_option Elab.async false
set_option linter.all false
set_option pp.maxSteps 1500
set_option maxRecDepth 100000
set_option maxHeartbeats 4000000
namespace C
open PySem PySem.Spec PyProof.Rows L2 Kx M TL
local macro_rules | `(tactic| tm_at "same") => `(tactic| first
  | assumption
  | exact L2.Same.refl _
  | exact L2.Same.upd (by tm_at "same") (by tm_at "free")
  | exact sameTransR (by assumption) (by tm_at "same"))
local macro_rules | `(tactic| tm_at "free") => `(tactic| first
  | assumption
  | exact sameFreeR (by assumption) (by tm_at "same"))
local macro_rules | `(tactic| tm_at "but") => `(tactic| first
  | assumption
  | exact But.refl _ _
  | exact But.transR (by assumption) (by tm_at "but")
  | exact But.upd
  | exact But.self (by tm_at "but")
  | exact But.new1 (by tm_at "but") (by assumption)
  | exact But.new (by tm_at "but") (by tm_at "free")
  | exact L2.Same.but (by assumption) _)
local macro_rules | `(tactic| tm_at "fact") => `(tactic| first
  | exact upd_same
  | assumption
  | exact SqL.of upd_same
  | exact SqT.of upd_same
  | exact SqL.of (by assumption)
  | exact SqT.of (by assumption)
  | exact But.lstR (by assumption) (by assumption) (by tm_at "but"))
local macro_rules | `(tactic| tm_at "cond") => `(tactic| first
  | rfl
  | assumption
  | decide
  | omega
  | exact ⟨by decide, by decide⟩
  | exact .inr ⟨by decide, by decide⟩
  | exact .inl ⟨by decide, by decide⟩
  | exact ⟨by decide, by decide, by decide⟩
  | exact cdivw (by assumption) (by assumption)
  | exact log2_ok (by assumption)
  | exact Or.inl ⟨rfl, _, SqL.of upd_same⟩
  | exact Or.inl ⟨rfl, _, SqL.of (by assumption)⟩
  | exact ⟨_, rfl⟩
  | exact Nat.le_of_ble_eq_true rfl
  | exact small1000 (by omega))
local macro_rules | `(tactic| tm_at "prop") => `(tactic| first
  | assumption
  | omega)
local macro_rules | `(tactic| tm_at "s") => `(tactic| first
  | refine ⟨_, rfl, ?_⟩
  | refine ⟨_, _, rfl, rfl, ?_⟩
  | refine ⟨_, _, _, rfl, rfl, (by tm_at "fact"), (by tm_at "cond"), ?_⟩
  | refine ⟨_, _, _, _, rfl, rfl, (by tm_at "fact"), rfl, ?_⟩
  | refine ⟨_, _, rfl, (by tm_at "fact"), ?_⟩
  | refine And.intro (by tm_at "cond") ?_
  | refine .inl ⟨_, rfl, ?_⟩
  | refine ⟨_, _, rfl, .inl (by tm_at "fact"), ?_⟩
  | refine dec_false (by tm_at "prop") ?_
  | refine dec_true (by tm_at "prop") ?_
  | refine decN_false (by tm_at "prop") ?_
  | refine decN_true (by tm_at "prop") ?_
  | refine iteT ?_
  | refine iteF ?_
  | refine ⟨_, _, rfl, ?_⟩)
local macro_rules | `(tactic| tm_at "go") => `(tactic| repeat tm_at "s")

section
variable {P : Program} {w : World} {K : PySem.W.Frag} {mg : Str → Option Value} {base : Heap} {aH aR : Addr}
/-! ### words of signs, spaced -/
def Wx (m : Nat) (x : Str) : Prop := (∀ c ∈ tl x, 33 ≤ c ∧ c ≤ 126) ∧ x.length ≤ m
theorem Wx.mono {m n : Nat} {x : Str} (h : Wx m x) (q : m ≤ n) : Wx n x := ⟨h.1, Nat.le_trans h.2 q⟩
theorem nosp : ∀ c : Nat, 33 ≤ c → c ≤ 126 → Unicode.isSpace c = false := by
  have h : ∀ c ∈ List.range 127, 33 ≤ c → Unicode.isSpace c = false := by decide +kernel
  exact fun c h1 h2 => h c (List.mem_range.mpr (by omega)) h1
theorem Wx.clean {m : Nat} {x : Str} (h : Wx m x) (hn : x ≠ Str.empty) : Clean x := ⟨fun e => hn (ext_tl e), fun c hc => nosp c (h.1 c hc).1 (h.1 c hc).2⟩
def LnX (K : PySem.W.Frag) (H : Hp) (m c : Nat) (v : V) : Prop := ∃ (b : Addr) (ws : List Str), v = .ref b ∧ SqL K H b (ws.map V.str) ∧ (∀ x ∈ ws, Wx m x) ∧ ws.length ≤ c
theorem LnX.mono {H : Hp} {m c m' c' : Nat} {v : V} (h : LnX K H m c v) (h1 : m ≤ m') (h2 : c ≤ c') : LnX K H m' c' v := by
  obtain ⟨b, ws, e, s, w, l⟩ := h
  exact ⟨b, ws, e, s, fun x hx => (w x hx).mono h1, Nat.le_trans l h2⟩
theorem LnX.same {H H' : Hp} {m c : Nat} {v : V} (h : LnX K H m c v) (s : Same H H') : LnX K H' m c v := by
  obtain ⟨b, ws, e, q, w, l⟩ := h
  exact ⟨b, ws, e, s.seq q, w, l⟩
theorem LnX.but {H H' : Hp} {m c : Nat} {v : V} {st l : Addr} (h : LnX K H m c v) (so : StOk K H st l) (s : But st H H') : LnX K H' m c v := by
  obtain ⟨b, ws, e, q, w, l⟩ := h
  exact ⟨b, ws, e, so.but_strs s q, w, l⟩
/-- a text of such words and blanks -/
def TX (T : Str) : Prop := ∀ c ∈ tl T, 32 ≤ c ∧ c ≤ 126
theorem TX.app {x y : Str} (h : TX x) (g : TX y) : TX (x ++ y) := fun c hc => by
  rw [tl_append] at hc
  exact (List.mem_append.mp hc).elim (h c) (g c)
theorem TX.blanks (n : Nat) : TX (Txt.mul (S " ") (n : Int)) := fun c hc => by
  rw [mul_blank] at hc
  have := (List.mem_replicate.mp hc).2
  omega
theorem Wx.tx {m : Nat} {x : Str} (h : Wx m x) : TX x := fun c hc => ⟨by have := (h.1 c hc).1; omega, (h.1 c hc).2⟩
theorem TX.sp {T : Str} (h : TX T) : ∀ c ∈ tl T, Unicode.isSpace c = true → c = 32 := fun c hc e => by
  by_cases z : c = 32
  · exact z
  · have := h c hc
    rw [nosp c (by omega) this.2] at e
    cases e
theorem TX.nl {T : Str} (h : TX T) : 10 ∉ tl T := fun z => by
  have := h 10 z
  omega
theorem filt_snoc {ws : List Str} {i : Nat} {x : Str} (h : ws[i]? = some x) : (ws.take (i + 1)).filter neS = (ws.take i).filter neS ++ (if x = Str.empty then [] else [x]) := by
  rw [take_snoc h, List.filter_append]
  by_cases e : x = Str.empty
  · rw [if_pos e, List.filter_cons_of_neg (by unfold neS; rw [decide_eq_true e]; exact Bool.false_ne_true)]
    rfl
  · rw [if_neg e, List.filter_cons_of_pos (by unfold neS; rw [decide_eq_false e]; rfl)]
    rfl
def spSpacedX (K : PySem.W.Frag) : Sp := fun vs H Q _ => ∃ (st l a : Addr) (ws : List Str), vs = [.ref st, .ref a] ∧ StOk K H st l ∧ SqL K H a (ws.map V.str) ∧ (∀ x ∈ ws, Wx 56 x) ∧ ws.length ≤ 39 ∧ ∀ T H', T.length ≤ 20000 → TX T → Txt.words T = ws.filter neS → But st H H' → StOk K H' st l → Q (.str T) H'
theorem sc__law_spaced : FnScope ["state", "words", "text", "k"] ["state", "words"] (defScope s__law_spaced) := ⟨rfl, rfl, rfl, by decide +kernel, rfl, by decide +kernel, by decide +kernel⟩
theorem okX__law_spaced {k : Nat} (D : Def K mg "_law_spaced" "_law_spaced" s__law_spaced ["state", "words"]) (B : Bi mg) (c__law_draw : Cal P w K mg base CX0 k "_law_draw" ["state", "most"] (spDraw K)) : Cal P w K mg base CX0 (k + 1) "_law_spaced" ["state", "words"] (spSpacedX K) := by
  refine D.cal fun f fd F => F.ok sc__law_spaced (fun vs H Q E h => ?_) (fun cdv A outer s H vs Q E hr h => ?_)
  · obtain ⟨st, l, a, ws, rfl, _⟩ := h
    rfl
  · obtain ⟨st, l, a, ws, rfl, so, ha, okx, okl, q⟩ := h
    have nd := sc__law_spaced.nd
    have big : (100000 : Nat) ≤ sizeLine := by decide
    refine ⟨_, (pss_cons (ps_set (i := 2) nd rfl (Or.inl rfl) (pe_op op_repS pe_str (pe_cal c__law_draw (Room.mono hr (by omega)) (by rfl) (pa_cons (pv 0) (pa_cons pe_int pa_nil)))))
      (pss_cons (ps_for PassesOwn.never rfl (pi_range1 (by rfl) B.range (pa_cons (pe_callB call_len_seq (by rfl) B.len (by decide +kernel) (pa_cons (pv 1) pa_nil)) pa_nil)) (pg_name (i := 3) nd rfl (Or.inl rfl))
        (C8.pss_cut (ps_if (pt_cmpR op_gt (pv 3) pe_int (nomark _))
          (pss_one (ps_set (i := 2) nd rfl (Or.inl rfl) (pe_op op_add_str (pv 2) (pe_op op_repS pe_str (pe_op op_add pe_int (pe_op op_mul (pe_cal c__law_draw (Room.mono hr (by omega)) (by rfl) (pa_cons (pv 0) (pa_cons pe_int pa_nil))) (pe_cal c__law_draw (Room.mono hr (by omega)) (by rfl) (pa_cons (pv 0) (pa_cons pe_int pa_nil)))))))))
          pss_nil)
        (pss_one (ps_set (i := 2) nd rfl (Or.inl rfl) (pe_op op_add_str (pv 2) (pe_ix ix_list (pv 1) (pv 3) (fun _ _ => rfl)))))))
      (pss_one (ps_ret (pe_op op_add_str (pv 2) (pe_op op_repS pe_str (pe_cal c__law_draw (Room.mono hr (by omega)) (by rfl) (pa_cons (pv 0) (pa_cons pe_int pa_nil))))))))), ?_⟩
    tm_at "go"
    refine ⟨st, l, 4, rfl, so, by decide, by decide, fun r H1 r0 r1 b1 so1 => ?_⟩
    obtain ⟨n, rfl⟩ : ∃ n : Nat, r = (n : Int) := ⟨r.toNat, by omega⟩
    have ha1 := so.but_strs b1 ha
    refine ⟨S " ", n, rfl, rfl, mul_ok (by omega), ?_⟩
    have T0 := Spc.start n True
    have X0 := TX.blanks n
    have L0 := len_blank n
    generalize Txt.mul (S " ") (n : Int) = X at T0 L0 X0 ⊢
    refine ⟨_, rfl, ?_⟩
    refine ⟨a, ws.map V.str, rfl, .inl ha1, ?_⟩
    rw [List.length_map]
    refine ⟨_, rfl, by omega, by omega, ?_⟩
    refine for_it walk_range (fun i σ H' => ∃ T v, σ = [some (.ref st), some (.ref a), some (.str T), v] ∧ But st H H' ∧ StOk K H' st l ∧ Spc T ((ws.take i).filter neS) (i = 0) ∧ TX T ∧ T.length ≤ 3 + i * 170) ⟨X, _, rfl, b1, so1, T0.mono fun _ => trivial, X0, by omega⟩ (fun _ _ _ _ _ => trivial) ?_ ?_
    · rintro i v σ Hx Hy hlt ⟨T, v1, rfl, bx, sox, hT, xT, lT⟩ ⟨rfl, rfl⟩
      refine ⟨fun σ H' => ∃ T, σ = [some (.ref st), some (.ref a), some (.str T), some (.int (0 + (i : Int)))] ∧ But st H H' ∧ StOk K H' st l ∧ Spc T ((ws.take i).filter neS) True ∧ TX T ∧ T.length ≤ 6 + i * 170, ?_, ?_⟩
      · tm_at "go"
        refine ite2 (fun c => ?_) (fun c => ?_)
        · have i0 : 0 < i := by
            have := of_decide_eq_true c
            omega
          tm_at "go"
          refine ⟨st, l, 3, rfl, sox, by decide, by decide, fun r2 H2 r20 r21 b2 so2 => ?_⟩
          tm_at "go"
          refine ⟨st, l, 2, rfl, so2, by decide, by decide, fun r3 H3 r30 r31 b3 so3 => ?_⟩
          obtain ⟨m, em, m1, m3⟩ : ∃ m : Nat, 1 + r2 * r3 = (m : Int) ∧ 1 ≤ m ∧ m ≤ 3 := by
            have : r3 = 0 ∨ r3 = 1 := by omega
            rcases this with e | e <;> subst e
            · exact ⟨1, by omega, by omega, by omega⟩
            · exact ⟨(1 + r2).toNat, by omega, by omega, by omega⟩
          refine ⟨r2, r3, rfl, rfl, .inl ⟨by omega, by omega⟩, ?_⟩
          refine ⟨1, r2 * r3, rfl, rfl, ?_⟩
          refine ⟨S " ", m, rfl, congrArg V.int em, mul_ok (by omega), ?_⟩
          have lb := len_blank m
          refine ⟨T, _, rfl, rfl, by omega, ?_⟩
          exact ⟨_, rfl, (bx.trans b2).trans b3, so3, hT.blanks m True fun _ => .inr (by omega), xT.app (TX.blanks m), by rw [M.len_app]; omega⟩
        · have i0 : i = 0 := by
            by_cases z : i = 0
            · exact z
            · exact absurd (decide_eq_true (show (0 : Int) < 0 + (i : Int) by omega)) c
          exact ⟨T, rfl, bx, sox, hT.mono fun _ => i0, xT, by omega⟩
      · rintro σ H2 ⟨T, rfl, b2, so2, hT, xT, lT⟩
        have hi : i < ws.length := by omega
        have hw := okx _ (List.getElem_mem hi)
        have hwl := hw.2
        have hg : (ws.map V.str)[i]? = some (.str ws[i]) := by
          rw [List.getElem?_map, List.getElem?_eq_getElem hi]
          rfl
        have ha2 := so.but_strs b2 ha
        tm_at "go"
        refine ⟨a, _, _, .str ws[i], rfl, rfl, ha2, at_of (j := i) (by omega) hg, ?_⟩
        refine ⟨T, ws[i], rfl, rfl, by omega, ?_⟩
        refine ⟨T ++ ws[i], _, rfl, b2, so2, ?_, xT.app hw.tx, by rw [M.len_app]; omega⟩
        rw [filt_snoc (List.getElem?_eq_getElem hi)]
        by_cases he : ws[i] = Str.empty
        · rw [if_pos he, he, app_empty, List.append_nil]
          exact hT.mono fun z => trivial
        · rw [if_neg he]
          exact (hT.word (hw.clean he)).mono fun z => by omega
    · rintro σ H2 ⟨T, v1, rfl, bx, sox, hT, xT, lT⟩
      have el : ((ws.length : Int)).toNat = ws.length := Int.toNat_natCast _
      have lT2 : T.length ≤ 3 + ws.length * 170 := lT
      have hT2 : Spc T (ws.filter neS) (ws.length = 0) := by
        have := hT
        rw [show (ws.take ((ws.length : Int)).toNat) = ws from List.take_of_length_le (Nat.le_of_eq el.symm)] at this
        exact this.mono fun z => z
      refine ⟨_, rfl, ?_⟩
      tm_at "go"
      refine ⟨st, l, 3, rfl, sox, by decide, by decide, fun r4 H4 r40 r41 b4 so4 => ?_⟩
      obtain ⟨m, rfl⟩ : ∃ m : Nat, r4 = (m : Int) := ⟨r4.toNat, by omega⟩
      refine ⟨S " ", m, rfl, rfl, mul_ok (by omega), ?_⟩
      have hl : (T ++ Txt.mul (S " ") (m : Int)).length ≤ 20000 := by
        rw [M.len_app, len_blank]
        omega
      have hT3 := hT2.blanks m False fun z => z.elim
      refine ⟨T, Txt.mul (S " ") (m : Int), rfl, rfl, ?_, ?_⟩
      · rw [M.len_app] at hl
        omega
      · exact q _ _ hl (xT.app (TX.blanks m)) hT3.words (bx.trans b4) so4
end
end C
set_option Elab.async false
set_option linter.all false
set_option pp.maxSteps 1500
set_option maxRecDepth 100000
set_option maxHeartbeats 4000000
namespace C
open PySem PySem.Spec PyProof.Rows L2 Kx M TL
local macro_rules | `(tactic| tm_at "same") => `(tactic| first
  | assumption
  | exact L2.Same.refl _
  | exact L2.Same.upd (by tm_at "same") (by tm_at "free")
  | exact sameTransR (by assumption) (by tm_at "same"))
local macro_rules | `(tactic| tm_at "free") => `(tactic| first
  | assumption
  | exact sameFreeR (by assumption) (by tm_at "same"))
local macro_rules | `(tactic| tm_at "but") => `(tactic| first
  | assumption
  | exact But.refl _ _
  | exact But.transR (by assumption) (by tm_at "but")
  | exact But.upd
  | exact But.self (by tm_at "but")
  | exact But.new1 (by tm_at "but") (by assumption)
  | exact But.new (by tm_at "but") (by tm_at "free")
  | exact L2.Same.but (by assumption) _)
local macro_rules | `(tactic| tm_at "fact") => `(tactic| first
  | exact upd_same
  | assumption
  | exact SqL.of upd_same
  | exact SqT.of upd_same
  | exact SqL.of (by assumption)
  | exact SqT.of (by assumption)
  | exact But.lstR (by assumption) (by assumption) (by tm_at "but"))
local macro_rules | `(tactic| tm_at "cond") => `(tactic| first
  | rfl
  | assumption
  | decide
  | omega
  | exact ⟨by decide, by decide⟩
  | exact .inr ⟨by decide, by decide⟩
  | exact .inl ⟨by decide, by decide⟩
  | exact ⟨by decide, by decide, by decide⟩
  | exact cdivw (by assumption) (by assumption)
  | exact log2_ok (by assumption)
  | exact Or.inl ⟨rfl, _, SqL.of upd_same⟩
  | exact Or.inl ⟨rfl, _, SqL.of (by assumption)⟩
  | exact ⟨_, rfl⟩
  | exact Nat.le_of_ble_eq_true rfl
  | exact small1000 (by omega))
local macro_rules | `(tactic| tm_at "prop") => `(tactic| first
  | assumption
  | omega)
local macro_rules | `(tactic| tm_at "s") => `(tactic| first
  | refine ⟨_, rfl, ?_⟩
  | refine ⟨_, _, rfl, rfl, ?_⟩
  | refine ⟨_, _, _, rfl, rfl, (by tm_at "fact"), (by tm_at "cond"), ?_⟩
  | refine ⟨_, _, _, _, rfl, rfl, (by tm_at "fact"), rfl, ?_⟩
  | refine ⟨_, _, rfl, (by tm_at "fact"), ?_⟩
  | refine And.intro (by tm_at "cond") ?_
  | refine .inl ⟨_, rfl, ?_⟩
  | refine ⟨_, _, rfl, .inl (by tm_at "fact"), ?_⟩
  | refine dec_false (by tm_at "prop") ?_
  | refine dec_true (by tm_at "prop") ?_
  | refine decN_false (by tm_at "prop") ?_
  | refine decN_true (by tm_at "prop") ?_
  | refine iteT ?_
  | refine iteF ?_
  | refine ⟨_, _, rfl, ?_⟩)
local macro_rules | `(tactic| tm_at "go") => `(tactic| repeat tm_at "s")

section
variable {P : Program} {w : World} {K : PySem.W.Frag} {mg : Str → Option Value} {base : Heap} {aH aR : Addr}
/-! ### _law_odd_line -/
def okT (T : Str) : Bool := (Txt.split T (S " ")).all (fun x => (tl x).all (fun c => decide (33 ≤ c) && decide (c ≤ 126)) && decide (x.length ≤ 18)) && decide ((Txt.split T (S " ")).length ≤ 8) && decide (T.length ≤ 100)
theorem okT_of {T : Str} (h : okT T = true) : (∀ x ∈ Txt.split T (S " "), Wx 18 x) ∧ (Txt.split T (S " ")).length ≤ 8 ∧ T.length ≤ 100 := by
  unfold okT at h
  rw [Bool.and_eq_true, Bool.and_eq_true] at h
  refine ⟨fun x hx => ?_, of_decide_eq_true h.1.2, of_decide_eq_true h.2⟩
  have h1 := List.all_eq_true.mp h.1.1 x hx
  rw [Bool.and_eq_true] at h1
  refine ⟨fun c hc => ?_, of_decide_eq_true h1.2⟩
  have h2 := List.all_eq_true.mp h1.1 c hc
  rw [Bool.and_eq_true] at h2
  exact ⟨of_decide_eq_true h2.1, of_decide_eq_true h2.2⟩
theorem _root_.M.Wd.all {z : Str} (h : Wd z) : ((tl z).all (fun c => decide (33 ≤ c) && decide (c ≤ 126)) && decide (z.length ≤ 18)) = true := by
  rw [Bool.and_eq_true]
  refine ⟨List.all_eq_true.mpr fun c hc => ?_, decide_eq_true h.2.1⟩
  rw [decide_eq_true (h.2.2 c hc).1, decide_eq_true (h.2.2 c hc).2]
  rfl
theorem _root_.M.Wd.wx {z : Str} (h : Wd z) : Wx 18 z := ⟨h.2.2, h.2.1⟩
theorem _root_.M.Wd.clean {z : Str} (h : Wd z) : Clean z := h.wx.clean fun e => h.1 (by rw [e]; rfl)
theorem okT_word {z : Str} (h : Wd z) : okT z = true := by
  have e : Txt.split z (S " ") = [z] := by
    have := join_split (r := [z]) (fun x hx => by rw [List.mem_singleton.mp hx]; exact h.clean) (List.cons_ne_nil _ _)
    rw [join_eq] at this
    exact this
  unfold okT
  rw [e, List.all_cons, h.all, List.all_nil]
  have : decide (z.length ≤ 100) = true := decide_eq_true (Nat.le_trans h.2.1 (by decide))
  rw [this]
  rfl
theorem okT_given {z : Str} (h : Wd z) : okT (S "given " ++ z) = true := by
  have hg : Clean (S "given") := (Wx.clean (m := 18) ⟨by decide +kernel, by decide +kernel⟩ (by decide +kernel))
  have ej : Txt.join (S " ") [S "given", z] = S "given " ++ z := by
    rw [join_eq]
    show S "given" ++ S " " ++ z = S "given " ++ z
    rw [show S "given" ++ S " " = S "given " by decide +kernel]
  have e : Txt.split (S "given " ++ z) (S " ") = [S "given", z] := by
    have := join_split (r := [S "given", z]) (fun x hx => by
      rcases List.mem_cons.mp hx with e | e
      · rw [e]
        exact hg
      · rw [List.mem_singleton.mp e]
        exact h.clean) (List.cons_ne_nil _ _)
    rw [ej] at this
    exact this
  unfold okT
  rw [e, List.all_cons, List.all_cons, h.all, List.all_nil]
  have : decide ((S "given " ++ z).length ≤ 100) = true := decide_eq_true (by
    rw [M.len_app]
    have := h.2.1
    have e : (S "given ").length = 6 := by decide +kernel
    omega)
  rw [this, show decide (([S "given", z] : List Str).length ≤ 8) = true from rfl]
  decide +kernel
theorem strs_app (a b : List Str) : a.map V.str ++ b.map V.str = (a ++ b).map V.str := (List.map_append ..).symm
def heads3 : List Str := [S "given", S "ask", S "hint"]
def odd1 : List Str := [S "end", S "end end", S "claim a with b", S "claim a with", S "claim a with b c", S "claim a to b", S "Claim a with b"]
def odd2 : List Str := [S "given", S "given 0", S "ask 0", S "hint -1", S "same a b", S "keep a b", S "same a", S "keep a b c", S "walk"]
def odd3 : List Str := [S "walk any", S "walk lockstep", S "walk left", S "walk Lockstep", S "walk left  first x", S "walk pauses"]
def oddF : List Str := [S "-0", S "1*x", S "x + x", S "y + x", S "0*x", S "+ x", S "x+1", S "007", S "x - 0", S "x + -1", S "--x", S "x *2", S "2*"]
def oddG : List Str := [S "2 + x", S "x + y - 1", S "1 - 1", S "x +", S "2*3", S "9x", S "X", S "x - y + 0", S "- x", S "-x", S "-2*x - 5", S "*x"]
theorem ok123 : ∀ z ∈ odd1 ++ odd2 ++ odd3 ++ [S "x", S "needs 0", S "endclaim", S "claim", S "walk lockstep lockstep", S "same"], okT z = true := by decide +kernel
theorem okFG : ∀ h ∈ heads3, ∀ z ∈ oddF ++ oddG, okT (h ++ S " " ++ z) = true := by decide +kernel
theorem lens3 : ∀ h ∈ heads3, h.length ≤ 10 := by decide +kernel
theorem lensFG : ∀ z ∈ oddF ++ oddG, z.length ≤ 20 := by decide +kernel
def spOdd (K : PySem.W.Frag) : Sp := fun vs H Q _ => ∃ (st l : Addr), vs = [.ref st] ∧ StOk K H st l ∧ ∀ (a : Addr) (ws : List Str) H', H a = none → H' a = some (.lst (ws.map V.str)) → (∀ x ∈ ws, Wx 18 x) → ws.length ≤ 8 → But st H H' → StOk K H' st l → Q (.ref a) H'
theorem sc__law_odd_line : FnScope ["state", "word", "head", "texts", "form_v"] ["state"] (defScope s__law_odd_line) := ⟨rfl, rfl, rfl, by decide +kernel, rfl, by decide +kernel, by decide +kernel⟩
theorem ok__law_odd_line {k : Nat} (D : Def K mg "_law_odd_line" "_law_odd_line" s__law_odd_line ["state"]) (B : Bi mg) (c__law_any_word : Cal P w K mg base CX0 k "_law_any_word" ["state"] (spGen K Wd))
    (c__law_one_of : Cal P w K mg base CX0 k "_law_one_of" ["state", "items"] (spOneOf K)) : Cal P w K mg base CX0 (k + 1) "_law_odd_line" ["state"] (spOdd K) := by
  refine D.cal fun f fd F => F.ok sc__law_odd_line (fun vs H Q E h => ?_) (fun cdv A outer s H vs Q E hr h => ?_)
  · obtain ⟨st, l, rfl, _⟩ := h
    rfl
  · obtain ⟨st, l, rfl, so, q⟩ := h
    have nd := sc__law_odd_line.nd
    refine ⟨_, (pss_cons (ps_set (i := 1) nd rfl (Or.inl rfl) (pe_cal c__law_any_word (Room.mono hr (by omega)) (by rfl) (pa_cons (pv 0) pa_nil)))
      (pss_cons (ps_set (i := 2) nd rfl (Or.inl rfl) (pe_cal c__law_one_of (Room.mono hr (by omega)) (by rfl) (pa_cons (pv 0) (pa_cons (pe_lst (pa_cons pe_str (pa_cons pe_str (pa_cons pe_str pa_nil)))) pa_nil))))
      (pss_cons (ps_set (i := 3) nd rfl (Or.inl rfl) (pe_lst (pa_cons pe_str (pa_cons pe_str (pa_cons pe_str (pa_cons pe_str (pa_cons pe_str (pa_cons pe_str (pa_cons pe_str pa_nil)))))))))
      (pss_cons (ps_set (i := 3) nd rfl (Or.inl rfl) (pe_op op_cat (pv 3) (pe_lst (pa_cons pe_str (pa_cons pe_str (pa_cons pe_str (pa_cons pe_str (pa_cons pe_str (pa_cons pe_str (pa_cons pe_str (pa_cons pe_str (pa_cons pe_str pa_nil))))))))))))
      (pss_cons (ps_set (i := 3) nd rfl (Or.inl rfl) (pe_op op_cat (pv 3) (pe_lst (pa_cons pe_str (pa_cons pe_str (pa_cons pe_str (pa_cons pe_str (pa_cons pe_str (pa_cons pe_str pa_nil)))))))))
      (pss_cons (ps_set (i := 3) nd rfl (Or.inl rfl) (pe_op op_cat (pv 3) (pe_lst (pa_cons (pv 1) (pa_cons (pe_op op_add_str pe_str (pv 1)) (pa_cons pe_str (pa_cons pe_str (pa_cons pe_str (pa_cons pe_str (pa_cons pe_str (pa_cons pe_str pa_nil)))))))))))
      (pss_cons (ps_for PassesOwn.never rfl (pi_list (pe_lst (pa_cons pe_str (pa_cons pe_str (pa_cons pe_str (pa_cons pe_str (pa_cons pe_str (pa_cons pe_str (pa_cons pe_str (pa_cons pe_str (pa_cons pe_str (pa_cons pe_str (pa_cons pe_str (pa_cons pe_str (pa_cons pe_str pa_nil))))))))))))))) (pg_name (i := 4) nd rfl (Or.inl rfl))
        (pss_one (ps_expr (pe_bm PySem.F.plainAttrs_list PySem.F.slot_list_append PySem.F.type_list_append mt_append (pv 3) (pa_cons (pe_op op_add_str (pe_op op_add_str (pv 2) pe_str) (pv 4)) pa_nil)))))
      (pss_cons (ps_for PassesOwn.never rfl (pi_list (pe_lst (pa_cons pe_str (pa_cons pe_str (pa_cons pe_str (pa_cons pe_str (pa_cons pe_str (pa_cons pe_str (pa_cons pe_str (pa_cons pe_str (pa_cons pe_str (pa_cons pe_str (pa_cons pe_str (pa_cons pe_str pa_nil)))))))))))))) (pg_name (i := 4) nd rfl (Or.inl rfl))
        (pss_one (ps_expr (pe_bm PySem.F.plainAttrs_list PySem.F.slot_list_append PySem.F.type_list_append mt_append (pv 3) (pa_cons (pe_op op_add_str (pe_op op_add_str (pv 2) pe_str) (pv 4)) pa_nil)))))
      (pss_one (ps_ret (pe_split (pe_cal c__law_one_of (Room.mono hr (by omega)) (by rfl) (pa_cons (pv 0) (pa_cons (pv 3) pa_nil))) pe_str))))))))))), ?_⟩
    have big : (100000 : Nat) ≤ sizeLine := by decide
    refine ⟨_, rfl, st, l, rfl, so, fun z H1 hz b1 so1 => ?_⟩
    tm_at "go"
    refine fun p0 np0 => ?_
    tm_at "go"
    refine ⟨st, l, p0, heads3, rfl, so1.new np0, SqL.of upd_same, by decide, by decide, fun head H2 hh b2 so2 => ?_⟩
    have b02 : But st H H2 := (b1.new1 np0).trans b2
    have hhl := lens3 head hh
    have hzl := hz.2.1
    tm_at "go"
    refine fun pA npA => ?_
    have sA : Same H2 (upd H2 pA (.lst [V.str (S "end"), V.str (S "end end"), V.str (S "claim a with b"), V.str (S "claim a with"), V.str (S "claim a with b c"), V.str (S "claim a to b"), V.str (S "Claim a with b")])) := same_new npA
    have hA : upd H2 pA (.lst [V.str (S "end"), V.str (S "end end"), V.str (S "claim a with b"), V.str (S "claim a with"), V.str (S "claim a with b c"), V.str (S "claim a to b"), V.str (S "Claim a with b")]) pA = some (.lst (odd1.map V.str)) := upd_same
    have soA := so2.same sA
    generalize upd H2 pA (.lst [V.str (S "end"), V.str (S "end end"), V.str (S "claim a with b"), V.str (S "claim a with"), V.str (S "claim a with b c"), V.str (S "claim a to b"), V.str (S "Claim a with b")]) = JA at sA hA soA ⊢
    tm_at "go"
    refine fun pB npB => ?_
    have sB : Same JA (upd JA pB (.lst [V.str (S "given"), V.str (S "given 0"), V.str (S "ask 0"), V.str (S "hint -1"), V.str (S "same a b"), V.str (S "keep a b"), V.str (S "same a"), V.str (S "keep a b c"), V.str (S "walk")])) := same_new npB
    have hB : upd JA pB (.lst [V.str (S "given"), V.str (S "given 0"), V.str (S "ask 0"), V.str (S "hint -1"), V.str (S "same a b"), V.str (S "keep a b"), V.str (S "same a"), V.str (S "keep a b c"), V.str (S "walk")]) pB = some (.lst (odd2.map V.str)) := upd_same
    have soB := soA.same sB
    generalize upd JA pB (.lst [V.str (S "given"), V.str (S "given 0"), V.str (S "ask 0"), V.str (S "hint -1"), V.str (S "same a b"), V.str (S "keep a b"), V.str (S "same a"), V.str (S "keep a b c"), V.str (S "walk")]) = JB at sB hB soB ⊢
    refine ⟨pA, pB, _, _, rfl, rfl, sB _ _ hA, hB, by decide, fun pC npC => ?_⟩
    rw [strs_app]
    have sC : Same JB (upd JB pC (.lst ((odd1 ++ odd2).map V.str))) := same_new npC
    have hC : upd JB pC (.lst ((odd1 ++ odd2).map V.str)) pC = some (.lst ((odd1 ++ odd2).map V.str)) := upd_same
    have soC := soB.same sC
    generalize upd JB pC (.lst ((odd1 ++ odd2).map V.str)) = JC at sC hC soC ⊢
    tm_at "go"
    refine fun pD npD => ?_
    have sD : Same JC (upd JC pD (.lst [V.str (S "walk any"), V.str (S "walk lockstep"), V.str (S "walk left"), V.str (S "walk Lockstep"), V.str (S "walk left  first x"), V.str (S "walk pauses")])) := same_new npD
    have hD : upd JC pD (.lst [V.str (S "walk any"), V.str (S "walk lockstep"), V.str (S "walk left"), V.str (S "walk Lockstep"), V.str (S "walk left  first x"), V.str (S "walk pauses")]) pD = some (.lst (odd3.map V.str)) := upd_same
    have soD := soC.same sD
    generalize upd JC pD (.lst [V.str (S "walk any"), V.str (S "walk lockstep"), V.str (S "walk left"), V.str (S "walk Lockstep"), V.str (S "walk left  first x"), V.str (S "walk pauses")]) = JD at sD hD soD ⊢
    refine ⟨pC, pD, _, _, rfl, rfl, sD _ _ hC, hD, by decide, fun pE npE => ?_⟩
    rw [strs_app]
    have sE : Same JD (upd JD pE (.lst ((odd1 ++ odd2 ++ odd3).map V.str))) := same_new npE
    have hE : upd JD pE (.lst ((odd1 ++ odd2 ++ odd3).map V.str)) pE = some (.lst ((odd1 ++ odd2 ++ odd3).map V.str)) := upd_same
    have soE := soD.same sE
    generalize upd JD pE (.lst ((odd1 ++ odd2 ++ odd3).map V.str)) = JE at sE hE soE ⊢
    tm_at "go"
    have hgl : (S "given ").length + z.length ≤ sizeLine := by
      have e : (S "given ").length = 6 := by decide +kernel
      omega
    refine ⟨hgl, ?_⟩
    tm_at "go"
    refine fun pF npF => ?_
    have sF : Same JE (upd JE pF (.lst [V.str z, V.str (S "given " ++ z), V.str (S "x"), V.str (S "needs 0"), V.str (S "endclaim"), V.str (S "claim"), V.str (S "walk lockstep lockstep"), V.str (S "same")])) := same_new npF
    have hF : upd JE pF (.lst [V.str z, V.str (S "given " ++ z), V.str (S "x"), V.str (S "needs 0"), V.str (S "endclaim"), V.str (S "claim"), V.str (S "walk lockstep lockstep"), V.str (S "same")]) pF = some (.lst ([z, S "given " ++ z, S "x", S "needs 0", S "endclaim", S "claim", S "walk lockstep lockstep", S "same"].map V.str)) := upd_same
    have soF := soE.same sF
    generalize upd JE pF (.lst [V.str z, V.str (S "given " ++ z), V.str (S "x"), V.str (S "needs 0"), V.str (S "endclaim"), V.str (S "claim"), V.str (S "walk lockstep lockstep"), V.str (S "same")]) = JF at sF hF soF ⊢
    refine ⟨pE, pF, _, _, rfl, rfl, sF _ _ hE, hF, Nat.le_of_ble_eq_true rfl, fun pH npH => ?_⟩
    rw [strs_app]
    have hokA : ∀ t ∈ odd1 ++ odd2 ++ odd3 ++ [z, S "given " ++ z, S "x", S "needs 0", S "endclaim", S "claim", S "walk lockstep lockstep", S "same"], okT t = true := fun t ht => by
      rcases List.mem_append.mp ht with m | m
      · exact ok123 t (List.mem_append_left _ m)
      · rcases List.mem_cons.mp m with rfl | m
        · exact okT_word hz
        · rcases List.mem_cons.mp m with rfl | m
          · exact okT_given hz
          · exact ok123 t (List.mem_append_right _ m)
    have hlA : (odd1 ++ odd2 ++ odd3 ++ [z, S "given " ++ z, S "x", S "needs 0", S "endclaim", S "claim", S "walk lockstep lockstep", S "same"]).length = 30 := rfl
    have nsH := (soF.ne npH).symm
    have sH : Same JF (upd JF pH (.lst ((odd1 ++ odd2 ++ odd3 ++ [z, S "given " ++ z, S "x", S "needs 0", S "endclaim", S "claim", S "walk lockstep lockstep", S "same"]).map V.str))) := same_new npH
    have hH : upd JF pH (.lst ((odd1 ++ odd2 ++ odd3 ++ [z, S "given " ++ z, S "x", S "needs 0", S "endclaim", S "claim", S "walk lockstep lockstep", S "same"]).map V.str)) pH = some (.lst ((odd1 ++ odd2 ++ odd3 ++ [z, S "given " ++ z, S "x", S "needs 0", S "endclaim", S "claim", S "walk lockstep lockstep", S "same"]).map V.str)) := upd_same
    have soH := soF.same sH
    have hH0 : H pH = none := But.free ((((((b02.trans (sA.but st)).trans (sB.but st)).trans (sC.but st)).trans (sD.but st)).trans (sE.but st)).trans (sF.but st)) nsH npH
    have BH := ((((((b02.trans (sA.but st)).trans (sB.but st)).trans (sC.but st)).trans (sD.but st)).trans (sE.but st)).trans (sF.but st)).trans (sH.but st)
    generalize upd JF pH (.lst ((odd1 ++ odd2 ++ odd3 ++ [z, S "given " ++ z, S "x", S "needs 0", S "endclaim", S "claim", S "walk lockstep lockstep", S "same"]).map V.str)) = JH at sH hH soH BH ⊢
    generalize odd1 ++ odd2 ++ odd3 ++ [z, S "given " ++ z, S "x", S "needs 0", S "endclaim", S "claim", S "walk lockstep lockstep", S "same"] = ts0 at hokA hlA hH
    clear sA hA soA sB hB soB sC hC soC sD hD soD sE hE soE sF hF soF sH npA npB npC npD npE npF npH
    tm_at "go"
    refine fun pG npG => ?_
    have sG : Same JH (upd JH pG (.lst [V.str (S "-0"), V.str (S "1*x"), V.str (S "x + x"), V.str (S "y + x"), V.str (S "0*x"), V.str (S "+ x"), V.str (S "x+1"), V.str (S "007"), V.str (S "x - 0"), V.str (S "x + -1"), V.str (S "--x"), V.str (S "x *2"), V.str (S "2*")])) := same_new npG
    have hG : upd JH pG (.lst [V.str (S "-0"), V.str (S "1*x"), V.str (S "x + x"), V.str (S "y + x"), V.str (S "0*x"), V.str (S "+ x"), V.str (S "x+1"), V.str (S "007"), V.str (S "x - 0"), V.str (S "x + -1"), V.str (S "--x"), V.str (S "x *2"), V.str (S "2*")]) pG = some (.lst (oddF.map V.str)) := upd_same
    have nHG : pH ≠ pG := ne_of_none hH npG
    have hHG := sG _ _ hH
    have soG := soH.same sG
    have BG := BH.trans (sG.but st)
    generalize upd JH pG (.lst [V.str (S "-0"), V.str (S "1*x"), V.str (S "x + x"), V.str (S "y + x"), V.str (S "0*x"), V.str (S "+ x"), V.str (S "x+1"), V.str (S "007"), V.str (S "x - 0"), V.str (S "x + -1"), V.str (S "--x"), V.str (S "x *2"), V.str (S "2*")]) = JG at sG hG hHG soG BG ⊢
    refine ⟨pG, rfl, ⟨_, SqL.of hG⟩, ?_⟩
    refine for_it walk_list (fun i σ H' => ∃ (ts : List Str) (v4 : Option V), σ = [some (.ref st), some (.str z), some (.str head), some (.ref pH), v4] ∧ But st H H' ∧ StOk K H' st l ∧ H' pH = some (.lst (ts.map V.str)) ∧ H' pG = some (.lst (oddF.map V.str)) ∧ ts.length = 30 + i ∧ ∀ t ∈ ts, okT t = true)
      ⟨ts0, none, rfl, BG, soG, hHG, hG, hlA, hokA⟩ (fun _ _ H' _ ⟨_, _, _, _, _, _, h, _⟩ => SqL.of h) ?_ ?_
    · rintro i v σ Hx Hy hlt ⟨ts, v4, rfl, bx, sox, hpx, hgx, hlx, hox⟩ ⟨rfl, hv⟩
      obtain ⟨x, hx, rfl⟩ : ∃ x, oddF[i]? = some x ∧ V.str x = v := by
        rw [List.getElem?_map] at hv
        cases e : oddF[i]? with
        | none => rw [e] at hv; cases hv
        | some y => rw [e] at hv; exact ⟨y, rfl, Option.some.inj hv⟩
      have hxm := List.mem_append_left oddG (List.mem_of_getElem? hx)
      have hxl := lensFG x hxm
      have hil : i < 13 := (List.getElem?_eq_some_iff.mp hx).1
      tm_at "go"
      have hsp : (S " ").length = 1 := by decide +kernel
      have h1 : (head ++ S " ").length + x.length ≤ sizeLine := by
        rw [M.len_app]
        omega
      refine ⟨h1, ?_⟩
      refine ⟨pH, _, _, rfl, rfl, hpx, small1000 (by rw [List.length_map]; omega), ?_⟩
      refine ⟨ts ++ [head ++ S " " ++ x], _, rfl, bx.new hH0, so.grow hH0 sox, ?_, ?_, by rw [List.length_append, hlx]; rfl, fun t ht => ?_⟩
      · rw [upd_same, List.map_append]
        rfl
      · rw [upd_ne nHG.symm]
        exact hgx
      · rcases List.mem_append.mp ht with m | m
        · exact hox t m
        · rw [List.mem_singleton.mp m]
          exact okFG head hh x hxm
    · rintro σ H3 ⟨ts, v4, rfl, bx, so3, hpx, _, hlx, hox⟩
      have hlx : ts.length = 43 := hlx
      tm_at "go"
      refine fun pI npI => ?_
      have sI : Same H3 (upd H3 pI (.lst [V.str (S "2 + x"), V.str (S "x + y - 1"), V.str (S "1 - 1"), V.str (S "x +"), V.str (S "2*3"), V.str (S "9x"), V.str (S "X"), V.str (S "x - y + 0"), V.str (S "- x"), V.str (S "-x"), V.str (S "-2*x - 5"), V.str (S "*x")])) := same_new npI
      have hI : upd H3 pI (.lst [V.str (S "2 + x"), V.str (S "x + y - 1"), V.str (S "1 - 1"), V.str (S "x +"), V.str (S "2*3"), V.str (S "9x"), V.str (S "X"), V.str (S "x - y + 0"), V.str (S "- x"), V.str (S "-x"), V.str (S "-2*x - 5"), V.str (S "*x")]) pI = some (.lst (oddG.map V.str)) := upd_same
      have nHI : pH ≠ pI := ne_of_none hpx npI
      have hHI := sI _ _ hpx
      have soI := so3.same sI
      have BI := bx.trans (sI.but st)
      generalize upd H3 pI (.lst [V.str (S "2 + x"), V.str (S "x + y - 1"), V.str (S "1 - 1"), V.str (S "x +"), V.str (S "2*3"), V.str (S "9x"), V.str (S "X"), V.str (S "x - y + 0"), V.str (S "- x"), V.str (S "-x"), V.str (S "-2*x - 5"), V.str (S "*x")]) = JI at sI hI hHI soI BI ⊢
      refine ⟨pI, rfl, ⟨_, SqL.of hI⟩, ?_⟩
      refine for_it walk_list (fun i σ H' => ∃ (ts : List Str) (v4 : Option V), σ = [some (.ref st), some (.str z), some (.str head), some (.ref pH), v4] ∧ But st H H' ∧ StOk K H' st l ∧ H' pH = some (.lst (ts.map V.str)) ∧ H' pI = some (.lst (oddG.map V.str)) ∧ ts.length = 43 + i ∧ ∀ t ∈ ts, okT t = true)
        ⟨ts, _, rfl, BI, soI, hHI, hI, hlx, hox⟩ (fun _ _ H' _ ⟨_, _, _, _, _, _, h, _⟩ => SqL.of h) ?_ ?_
      · rintro i v σ Hx Hy hlt ⟨ts, v4, rfl, bx, sox, hpx, hgx, hlx, hox⟩ ⟨rfl, hv⟩
        obtain ⟨x, hx, rfl⟩ : ∃ x, oddG[i]? = some x ∧ V.str x = v := by
          rw [List.getElem?_map] at hv
          cases e : oddG[i]? with
          | none => rw [e] at hv; cases hv
          | some y => rw [e] at hv; exact ⟨y, rfl, Option.some.inj hv⟩
        have hxm := List.mem_append_right oddF (List.mem_of_getElem? hx)
        have hxl := lensFG x hxm
        have hil : i < 12 := (List.getElem?_eq_some_iff.mp hx).1
        tm_at "go"
        have hsp : (S " ").length = 1 := by decide +kernel
        have h1 : (head ++ S " ").length + x.length ≤ sizeLine := by
          rw [M.len_app]
          omega
        refine ⟨h1, ?_⟩
        refine ⟨pH, _, _, rfl, rfl, hpx, small1000 (by rw [List.length_map]; omega), ?_⟩
        refine ⟨ts ++ [head ++ S " " ++ x], _, rfl, bx.new hH0, so.grow hH0 sox, ?_, ?_, by rw [List.length_append, hlx]; rfl, fun t ht => ?_⟩
        · rw [upd_same, List.map_append]
          rfl
        · rw [upd_ne nHI.symm]
          exact hgx
        · rcases List.mem_append.mp ht with m | m
          · exact hox t m
          · rw [List.mem_singleton.mp m]
            exact okFG head hh x hxm
      · rintro σ H4 ⟨ts, v4, rfl, bx, so4, hpx, _, hlx, hox⟩
        have hlx : ts.length = 55 := hlx
        refine ⟨_, rfl, _, rfl, st, l, pH, ts, rfl, so4, SqL.of hpx, by omega, by omega, fun t H5 ht b5 so5 => ?_⟩
        have hok := okT_of (hox t ht)
        tm_at "go"
        refine fun pZ npZ => ?_
        have b0 := bx.trans b5
        exact q pZ (Txt.split t (S " ")) _ (b0.free ((so5.ne npZ).symm) npZ) upd_same hok.1 hok.2.1 (b0.trans ((same_new npZ).but st)) (so5.new npZ)
end
end C
set_option Elab.async false
set_option linter.all false
set_option pp.maxSteps 1500
set_option maxRecDepth 100000
set_option maxHeartbeats 4000000
namespace C
open PySem PySem.Spec PyProof.Rows L2 Kx M TL
local macro_rules | `(tactic| tm_at "same") => `(tactic| first
  | assumption
  | exact L2.Same.refl _
  | exact L2.Same.upd (by tm_at "same") (by tm_at "free")
  | exact sameTransR (by assumption) (by tm_at "same"))
local macro_rules | `(tactic| tm_at "free") => `(tactic| first
  | assumption
  | exact sameFreeR (by assumption) (by tm_at "same"))
local macro_rules | `(tactic| tm_at "but") => `(tactic| first
  | assumption
  | exact But.refl _ _
  | exact But.transR (by assumption) (by tm_at "but")
  | exact But.upd
  | exact But.self (by tm_at "but")
  | exact But.new1 (by tm_at "but") (by assumption)
  | exact But.new (by tm_at "but") (by tm_at "free")
  | exact L2.Same.but (by assumption) _)
local macro_rules | `(tactic| tm_at "fact") => `(tactic| first
  | exact upd_same
  | assumption
  | exact SqL.of upd_same
  | exact SqT.of upd_same
  | exact SqL.of (by assumption)
  | exact SqT.of (by assumption)
  | exact But.lstR (by assumption) (by assumption) (by tm_at "but"))
local macro_rules | `(tactic| tm_at "cond") => `(tactic| first
  | rfl
  | assumption
  | decide
  | omega
  | exact ⟨by decide, by decide⟩
  | exact .inr ⟨by decide, by decide⟩
  | exact .inl ⟨by decide, by decide⟩
  | exact ⟨by decide, by decide, by decide⟩
  | exact cdivw (by assumption) (by assumption)
  | exact log2_ok (by assumption)
  | exact Or.inl ⟨rfl, _, SqL.of upd_same⟩
  | exact Or.inl ⟨rfl, _, SqL.of (by assumption)⟩
  | exact ⟨_, rfl⟩
  | exact Nat.le_of_ble_eq_true rfl
  | exact small1000 (by omega))
local macro_rules | `(tactic| tm_at "prop") => `(tactic| first
  | assumption
  | omega)
local macro_rules | `(tactic| tm_at "s") => `(tactic| first
  | refine ⟨_, rfl, ?_⟩
  | refine ⟨_, _, rfl, rfl, ?_⟩
  | refine ⟨_, _, _, rfl, rfl, (by tm_at "fact"), (by tm_at "cond"), ?_⟩
  | refine ⟨_, _, _, _, rfl, rfl, (by tm_at "fact"), rfl, ?_⟩
  | refine ⟨_, _, rfl, (by tm_at "fact"), ?_⟩
  | refine And.intro (by tm_at "cond") ?_
  | refine .inl ⟨_, rfl, ?_⟩
  | refine ⟨_, _, rfl, .inl (by tm_at "fact"), ?_⟩
  | refine dec_false (by tm_at "prop") ?_
  | refine dec_true (by tm_at "prop") ?_
  | refine decN_false (by tm_at "prop") ?_
  | refine decN_true (by tm_at "prop") ?_
  | refine iteT ?_
  | refine iteF ?_
  | refine ⟨_, _, rfl, ?_⟩)
local macro_rules | `(tactic| tm_at "go") => `(tactic| repeat tm_at "s")

section
variable {P : Program} {w : World} {K : PySem.W.Frag} {mg : Str → Option Value} {base : Heap} {aH aR : Addr}
/-! ### _law_one_of of any list, _law_spoilt -/
def spOneOfV (K : PySem.W.Frag) : Sp := fun vs H Q _ => ∃ (st l a : Addr) (xs : List V), vs = [.ref st, .ref a] ∧ StOk K H st l ∧ a ≠ st ∧ H a = some (.lst xs) ∧ 0 < xs.length ∧ xs.length ≤ 1000 ∧ ∀ v H', v ∈ xs → But st H H' → StOk K H' st l → Q v H'
theorem okV__law_one_of {k : Nat} (D : Def K mg "_law_one_of" "_law_one_of" s__law_one_of ["state", "items"]) (B : Bi mg) (c__law_draw : Cal P w K mg base CX0 k "_law_draw" ["state", "most"] (spDraw K)) : Cal P w K mg base CX0 (k + 1) "_law_one_of" ["state", "items"] (spOneOfV K) := by
  refine D.cal fun f fd F => F.ok sc__law_one_of (fun vs H Q E h => ?_) (fun cdv A outer s H vs Q E hr h => ?_)
  · obtain ⟨a, b, c, ss, rfl, _⟩ := h
    rfl
  · obtain ⟨st, l, a, xs, rfl, so, hne, ha, h0, h1, q⟩ := h
    have nd := sc__law_one_of.nd
    refine ⟨_, (pss_one (ps_ret (pe_ix ix_list (pv 1) (pe_cal c__law_draw (Room.mono hr (by omega)) (by rfl) (pa_cons (pv 0) (pa_cons (pe_callB call_len_seq (by rfl) B.len (by decide +kernel) (pa_cons (pv 1) pa_nil)) pa_nil))) (fun _ _ => rfl)))), ?_⟩
    tm_at "go"
    refine ⟨st, l, _, rfl, so, ?_, ?_, fun r H1 r0 r1 b1 so1 => ?_⟩
    · omega
    · exact pow30 h1
    · obtain ⟨j, rfl⟩ : ∃ j : Nat, r = (j : Int) := ⟨r.toNat, by omega⟩
      have hj : j < xs.length := by omega
      refine ⟨_, _, _, _, rfl, rfl, SqL.of (b1 _ _ hne ha), at_of rfl (List.getElem?_eq_getElem hj), ?_⟩
      exact q _ _ (List.getElem_mem hj) b1 so1
theorem cutV_to (xs : List V) (k : Nat) : cutV xs none (some (k : Int)) = xs.take k := by
  unfold cutV
  rw [HT.sIx_none, HT.sIx_nat, List.drop_zero, Nat.sub_zero]
  by_cases h : k ≤ xs.length
  · rw [Nat.min_eq_left h]
  · rw [Nat.min_eq_right (by omega), List.take_of_length_le (Nat.le_refl _), List.take_of_length_le (by omega)]
theorem cutV_mem {xs : List V} {lo hi : Option Int} {v : V} (h : v ∈ cutV xs lo hi) : v ∈ xs := List.mem_of_mem_drop (List.mem_of_mem_take h)
theorem cutV_mid (xs : List V) (k : Nat) : (cutV xs (some ((k : Int) + 1)) (some ((k : Int) + 2))).length ≤ 1 := by
  unfold cutV
  have e1 : HT.sIx xs.length 0 (some ((k : Int) + 1)) = min (k + 1) xs.length := HT.sIx_nat xs.length 0 (k + 1)
  have e2 : HT.sIx xs.length xs.length (some ((k : Int) + 2)) = min (k + 2) xs.length := HT.sIx_nat xs.length xs.length (k + 2)
  rw [e1, e2, List.length_take]
  omega
theorem Wx.ok {m : Nat} {x : Str} (h : Wx m x) : Ok x := .of fun c hc => (h.1 c hc).2
theorem sizeL {n : Nat} (h : n ≤ 100000) : n ≤ sizeLine := Nat.le_trans h (by decide)
theorem lnx_ne {H : Hp} {st l a : Addr} {xs : List V} {m c : Nat} (so : StOk K H st l) (ha : H a = some (.lst xs)) (hx : ∀ v ∈ xs, LnX K H m c v) : a ≠ st := fun e => by
  subst e
  obtain ⟨i, j, k, ns, hst, _⟩ := so
  rw [hst] at ha
  injection ha with ha
  injection ha with ha
  obtain ⟨b, ws, e, _⟩ := hx (.int i) (by rw [← ha]; simp)
  cases e
def spSpoilt (K : PySem.W.Frag) : Sp := fun vs H Q _ => ∃ (st l a : Addr) (xs : List V) (m c : Nat), vs = [.ref st, .ref a] ∧ StOk K H st l ∧ H a = some (.lst xs) ∧ (∀ v ∈ xs, LnX K H m c v) ∧ xs.length ≤ 60 ∧ 18 ≤ m ∧ m ≤ 60 ∧ 8 ≤ c ∧ c ≤ 60 ∧
  ∀ a' ys H', But st H H' → StOk K H' st l → H' a' = some (.lst ys) → (∀ v ∈ ys, LnX K H' (m + 1) (c + 1) v) → ys.length ≤ xs.length + 1 → Q (.ref a') H'
theorem sc__law_spoilt : FnScope ["state", "lines", "at", "pick", "words", "k", "other"] ["state", "lines"] (defScope s__law_spoilt) := ⟨rfl, rfl, rfl, by decide +kernel, rfl, by decide +kernel, by decide +kernel⟩
theorem ok__law_spoilt {k : Nat} (D : Def K mg "_law_spoilt" "_law_spoilt" s__law_spoilt ["state", "lines"]) (B : Bi mg) (c__law_draw : Cal P w K mg base CX0 k "_law_draw" ["state", "most"] (spDraw K)) (c__law_odd_line : Cal P w K mg base CX0 k "_law_odd_line" ["state"] (spOdd K))
    (c__law_any_word : Cal P w K mg base CX0 k "_law_any_word" ["state"] (spGen K Wd)) (c__law_one_of : Cal P w K mg base CX0 k "_law_one_of" ["state", "items"] (spOneOfV K)) : Cal P w K mg base CX0 (k + 1) "_law_spoilt" ["state", "lines"] (spSpoilt K) := by
  refine D.cal fun f fd F => F.ok sc__law_spoilt (fun vs H Q E h => ?_) (fun cdv A outer s H vs Q E hr h => ?_)
  · obtain ⟨st, l, a, xs, m, c, rfl, _⟩ := h
    rfl
  · obtain ⟨st, l, a, xs, m, c, rfl, so, ha, hx, hN, m1, m2, l1, l2, q⟩ := h
    have nd := sc__law_spoilt.nd
    have na := lnx_ne so ha hx
    refine ⟨_, (pss_cons (ps_set (i := 2) nd rfl (Or.inl rfl) (pe_cal c__law_draw (Room.mono hr (by omega)) (by rfl) (pa_cons (pv 0) (pa_cons (pe_op op_add (pe_callB call_len_seq (by rfl) B.len (by decide +kernel) (pa_cons (pv 1) pa_nil)) pe_int) pa_nil))))
      (pss_cons (ps_set (i := 3) nd rfl (Or.inl rfl) (pe_cal c__law_draw (Room.mono hr (by omega)) (by rfl) (pa_cons (pv 0) (pa_cons pe_int pa_nil))))
      (pss_cons (ps_if (PW.pt (pw_or (pt_cmpR op_lt (pv 3) pe_int (nomark _)) (pw_or (pt_cmpR op_eq (pv 2) (pe_callB call_len_seq (by rfl) B.len (by decide +kernel) (pa_cons (pv 1) pa_nil)) (nomark _)) (pw_or1 (pt_cmpR (op_eqD hr.units) (pe_ix ix_list (pv 1) (pv 2) (fun _ _ => rfl)) (pe_lst pa_nil) (nomark _))))))
        (pss_one (ps_ret (pe_op op_cat (pe_op op_cat (pe_slice sl_list (pv 1) po_none (po_some (pv 2))) (pe_lst (pa_cons (pe_cal c__law_odd_line (Room.mono hr (by omega)) (by rfl) (pa_cons (pv 0) pa_nil)) pa_nil))) (pe_slice sl_list (pv 1) (po_some (pv 2)) po_none))))
        pss_nil)
      (pss_cons (ps_set (i := 4) nd rfl (Or.inl rfl) (pe_ix ix_list (pv 1) (pv 2) (fun _ _ => rfl)))
      (pss_cons (ps_if (pt_cmpR op_eq (pv 3) pe_int (nomark _))
        (pss_one (ps_ret (pe_op op_cat (pe_slice sl_list (pv 1) po_none (po_some (pv 2))) (pe_slice sl_list (pv 1) (po_some (pe_op op_add (pv 2) pe_int)) po_none))))
        pss_nil)
      (pss_cons (ps_if (pt_cmpR op_eq (pv 3) pe_int (nomark _))
        (pss_one (ps_ret (pe_op op_cat (pe_op op_cat (pe_slice sl_list (pv 1) po_none (po_some (pv 2))) (pe_lst (pa_cons (pv 4) pa_nil))) (pe_slice sl_list (pv 1) (po_some (pv 2)) po_none))))
        pss_nil)
      (pss_cons (ps_if (pt_cmpR op_eq (pv 3) pe_int (nomark _))
        (pss_one (ps_ret (pe_op op_cat (pe_op op_cat (pe_op op_cat (pe_slice sl_list (pv 1) po_none (po_some (pv 2))) (pe_slice sl_list (pv 1) (po_some (pe_op op_add (pv 2) pe_int)) (po_some (pe_op op_add (pv 2) pe_int)))) (pe_lst (pa_cons (pv 4) pa_nil))) (pe_slice sl_list (pv 1) (po_some (pe_op op_add (pv 2) pe_int)) po_none))))
        pss_nil)
      (pss_cons (ps_if (pt_cmpR op_eq (pv 3) pe_int (nomark _))
        (pss_cons (ps_set (i := 5) nd rfl (Or.inl rfl) (pe_cal c__law_draw (Room.mono hr (by omega)) (by rfl) (pa_cons (pv 0) (pa_cons (pe_callB call_len_seq (by rfl) B.len (by decide +kernel) (pa_cons (pv 4) pa_nil)) pa_nil))))
        (pss_cons (ps_set (i := 6) nd rfl (Or.inl rfl) (pe_cal c__law_one_of (Room.mono hr (by omega)) (by rfl) (pa_cons (pv 0) (pa_cons (pe_lst (pa_cons (pe_lst pa_nil) (pa_cons (pe_lst (pa_cons (pe_cal c__law_any_word (Room.mono hr (by omega)) (by rfl) (pa_cons (pv 0) pa_nil)) pa_nil)) (pa_cons (pe_lst (pa_cons (pe_ix ix_list (pv 4) (pv 5) (fun _ _ => rfl)) (pa_cons (pe_ix ix_list (pv 4) (pv 5) (fun _ _ => rfl)) pa_nil))) (pa_cons (pe_lst (pa_cons (pe_op op_add_str (pe_ix ix_list (pv 4) (pv 5) (fun _ _ => rfl)) pe_str) pa_nil)) pa_nil))))) pa_nil))))
        (pss_one (ps_ret (pe_op op_cat (pe_op op_cat (pe_slice sl_list (pv 1) po_none (po_some (pv 2))) (pe_lst (pa_cons (pe_op op_cat (pe_op op_cat (pe_slice sl_list (pv 4) po_none (po_some (pv 5))) (pv 6)) (pe_slice sl_list (pv 4) (po_some (pe_op op_add (pv 5) pe_int)) po_none)) pa_nil))) (pe_slice sl_list (pv 1) (po_some (pe_op op_add (pv 2) pe_int)) po_none))))))
        pss_nil)
      (pss_one (ps_ret (pe_slice sl_list (pv 1) po_none (po_some (pv 2))))))))))))), ?_⟩
    have big : (100000 : Nat) ≤ sizeLine := by decide
    tm_at "go"
    refine ⟨st, l, _, rfl, so, by omega, by have := pow30 (n := xs.length + 1) (by omega); omega, fun r H1 r0 r1 b1 so1 => ?_⟩
    obtain ⟨n, rfl⟩ : ∃ n : Nat, r = (n : Int) := ⟨r.toNat, by omega⟩
    have hnN : n ≤ xs.length := by omega
    tm_at "go"
    refine ⟨st, l, 8, rfl, so1, by decide, by decide, fun r2 H2 r20 r21 b2 so2 => ?_⟩
    obtain ⟨j, rfl⟩ : ∃ j : Nat, r2 = (j : Int) := ⟨r2.toNat, by omega⟩
    refine ⟨_, rfl, _, _, rfl, rfl, _, rfl, ?_⟩
    have ha := b2 _ _ na (b1 _ _ na ha)
    have B0 : But st H H2 := b1.trans b2
    have hNl : xs.length ≤ 60 := hN
    by_cases c0 : ((j : Nat) : Int) < 3
    · refine dec_true c0 ?_
      refine iteT ?_
      tm_at "go"
      refine fun p1 ep1 => ?_
      have ss : Same H2 (upd H2 p1 (.lst (cutV xs none (some (n : Int))))) := same_new ep1
      have hp1 : upd H2 p1 (.lst (cutV xs none (some (n : Int)))) p1 = some (.lst (cutV xs none (some (n : Int)))) := upd_same
      have np1 := (so2.ne ep1).symm
      have so1 := so2.same ss
      have B1 := B0.trans (ss.but st)
      have ha := ss _ _ ha
      clear ss
      generalize upd H2 p1 (.lst (cutV xs none (some (n : Int)))) = J1 at hp1 so1 B1 ha ⊢
      tm_at "go"
      refine fun oq ows JO noq hoq howx howl bO soO => ?_
      have noqs := (so1.ne noq).symm
      have ha := bO _ _ na ha
      have hp1 := bO _ _ np1 hp1
      have B2 := B1.trans bO
      have noq := noqs
      tm_at "go"
      refine fun p3 ep3 => ?_
      have ss : Same JO (upd JO p3 (.lst ([V.ref oq]))) := same_new ep3
      have hp3 : upd JO p3 (.lst ([V.ref oq])) p3 = some (.lst ([V.ref oq])) := upd_same
      have np3 := (soO.ne ep3).symm
      have so3 := soO.same ss
      have B3 := B2.trans (ss.but st)
      have ha := ss _ _ ha
      have hp1 := ss _ _ hp1
      have hoq := ss _ _ hoq
      clear ss
      generalize upd JO p3 (.lst ([V.ref oq])) = J3 at hp3 so3 B3 ha hp1 hoq ⊢
      refine ⟨p1, p3, _, _, rfl, rfl, hp1, hp3, ?_, ?_⟩
      · exact sizeL (by
          have q1 := cutV_length xs none (some (n : Int))
          have q2 := cutV_length xs (some (n : Int)) none
          have q3 := cutV_length xs (some ((n : Int) + 1)) none
          have q4 := cutV_length xs (some ((n : Int) + 2)) none
          have q5 := cutV_length xs (some ((n : Int) + 1)) (some ((n : Int) + 2))
          try simp only [List.length_append, List.length_cons, List.length_nil]
          omega)
      refine fun p4 ep4 => ?_
      have ss : Same J3 (upd J3 p4 (.lst (cutV xs none (some (n : Int)) ++ [V.ref oq]))) := same_new ep4
      have hp4 : upd J3 p4 (.lst (cutV xs none (some (n : Int)) ++ [V.ref oq])) p4 = some (.lst (cutV xs none (some (n : Int)) ++ [V.ref oq])) := upd_same
      have np4 := (so3.ne ep4).symm
      have so4 := so3.same ss
      have B4 := B3.trans (ss.but st)
      have ha := ss _ _ ha
      have hp1 := ss _ _ hp1
      have hoq := ss _ _ hoq
      have hp3 := ss _ _ hp3
      clear ss
      generalize upd J3 p4 (.lst (cutV xs none (some (n : Int)) ++ [V.ref oq])) = J4 at hp4 so4 B4 ha hp1 hoq hp3 ⊢
      tm_at "go"
      refine fun p5 ep5 => ?_
      have ss : Same J4 (upd J4 p5 (.lst (cutV xs (some (n : Int)) none))) := same_new ep5
      have hp5 : upd J4 p5 (.lst (cutV xs (some (n : Int)) none)) p5 = some (.lst (cutV xs (some (n : Int)) none)) := upd_same
      have np5 := (so4.ne ep5).symm
      have so5 := so4.same ss
      have B5 := B4.trans (ss.but st)
      have ha := ss _ _ ha
      have hp1 := ss _ _ hp1
      have hoq := ss _ _ hoq
      have hp3 := ss _ _ hp3
      have hp4 := ss _ _ hp4
      clear ss
      generalize upd J4 p5 (.lst (cutV xs (some (n : Int)) none)) = J5 at hp5 so5 B5 ha hp1 hoq hp3 hp4 ⊢
      refine ⟨p4, p5, _, _, rfl, rfl, hp4, hp5, ?_, ?_⟩
      · exact sizeL (by
          have q1 := cutV_length xs none (some (n : Int))
          have q2 := cutV_length xs (some (n : Int)) none
          have q3 := cutV_length xs (some ((n : Int) + 1)) none
          have q4 := cutV_length xs (some ((n : Int) + 2)) none
          have q5 := cutV_length xs (some ((n : Int) + 1)) (some ((n : Int) + 2))
          try simp only [List.length_append, List.length_cons, List.length_nil]
          omega)
      refine fun p6 ep6 => ?_
      have ss : Same J5 (upd J5 p6 (.lst (cutV xs none (some (n : Int)) ++ [V.ref oq] ++ cutV xs (some (n : Int)) none))) := same_new ep6
      have hp6 : upd J5 p6 (.lst (cutV xs none (some (n : Int)) ++ [V.ref oq] ++ cutV xs (some (n : Int)) none)) p6 = some (.lst (cutV xs none (some (n : Int)) ++ [V.ref oq] ++ cutV xs (some (n : Int)) none)) := upd_same
      have np6 := (so5.ne ep6).symm
      have so6 := so5.same ss
      have B6 := B5.trans (ss.but st)
      have ha := ss _ _ ha
      have hp1 := ss _ _ hp1
      have hoq := ss _ _ hoq
      have hp3 := ss _ _ hp3
      have hp4 := ss _ _ hp4
      have hp5 := ss _ _ hp5
      clear ss
      generalize upd J5 p6 (.lst (cutV xs none (some (n : Int)) ++ [V.ref oq] ++ cutV xs (some (n : Int)) none)) = J6 at hp6 so6 B6 ha hp1 hoq hp3 hp4 hp5 ⊢
      have newo : LnX K J6 (m + 1) (c + 1) (.ref oq) := ⟨oq, ows, rfl, SqL.of hoq, fun x hx => (howx x hx).mono (by omega), by omega⟩
      tm_at "go"
      refine q p6 _ _ B6 so6 hp6 (fun v hv => ?_) ?_
      · try simp only [List.mem_append, List.mem_cons, List.not_mem_nil, or_false] at hv
        have old : ∀ v, v ∈ xs → LnX K J6 (m + 1) (c + 1) v := fun v hv => ((hx v hv).but so B6).mono (Nat.le_succ _) (Nat.le_succ _)
        first
          | exact old v (cutV_mem hv)
          | (rcases hv with hv | hv <;> first | exact old v (cutV_mem hv) | (rw [hv]; exact newo))
          | (rcases hv with (hv | hv) | hv <;> first | exact old v (cutV_mem hv) | (rw [hv]; exact newo))
          | (rcases hv with ((hv | hv) | hv) | hv <;> first | exact old v (cutV_mem hv) | (rw [hv]; exact newo))
      · have q1 := cutV_to xs n
        have q2 := cutV_from xs n
        have q3 : cutV xs (some ((n : Int) + 1)) none = xs.drop (n + 1) := cutV_from xs (n + 1)
        have q4 : cutV xs (some ((n : Int) + 2)) none = xs.drop (n + 2) := cutV_from xs (n + 2)
        have q5 := cutV_mid xs n
        try rw [q1]
        try rw [q2]
        try rw [q3]
        try rw [q4]
        try simp only [List.length_append, List.length_cons, List.length_nil, List.length_take, List.length_drop]
        omega
    refine dec_false c0 ?_
    refine ⟨_, rfl, _, rfl, a, _, rfl, .inl (SqL.of ha), ?_⟩
    refine ⟨rfl, _, rfl, ?_⟩
    by_cases c1 : n = xs.length
    · refine dec_true (congrArg (fun z : Nat => V.int (z : Int)) c1) ?_
      refine iteT ?_
      tm_at "go"
      refine fun p1 ep1 => ?_
      have ss : Same H2 (upd H2 p1 (.lst (cutV xs none (some (n : Int))))) := same_new ep1
      have hp1 : upd H2 p1 (.lst (cutV xs none (some (n : Int)))) p1 = some (.lst (cutV xs none (some (n : Int)))) := upd_same
      have np1 := (so2.ne ep1).symm
      have so1 := so2.same ss
      have B1 := B0.trans (ss.but st)
      have ha := ss _ _ ha
      clear ss
      generalize upd H2 p1 (.lst (cutV xs none (some (n : Int)))) = J1 at hp1 so1 B1 ha ⊢
      tm_at "go"
      refine fun oq ows JO noq hoq howx howl bO soO => ?_
      have noqs := (so1.ne noq).symm
      have ha := bO _ _ na ha
      have hp1 := bO _ _ np1 hp1
      have B2 := B1.trans bO
      have noq := noqs
      tm_at "go"
      refine fun p3 ep3 => ?_
      have ss : Same JO (upd JO p3 (.lst ([V.ref oq]))) := same_new ep3
      have hp3 : upd JO p3 (.lst ([V.ref oq])) p3 = some (.lst ([V.ref oq])) := upd_same
      have np3 := (soO.ne ep3).symm
      have so3 := soO.same ss
      have B3 := B2.trans (ss.but st)
      have ha := ss _ _ ha
      have hp1 := ss _ _ hp1
      have hoq := ss _ _ hoq
      clear ss
      generalize upd JO p3 (.lst ([V.ref oq])) = J3 at hp3 so3 B3 ha hp1 hoq ⊢
      refine ⟨p1, p3, _, _, rfl, rfl, hp1, hp3, ?_, ?_⟩
      · exact sizeL (by
          have q1 := cutV_length xs none (some (n : Int))
          have q2 := cutV_length xs (some (n : Int)) none
          have q3 := cutV_length xs (some ((n : Int) + 1)) none
          have q4 := cutV_length xs (some ((n : Int) + 2)) none
          have q5 := cutV_length xs (some ((n : Int) + 1)) (some ((n : Int) + 2))
          try simp only [List.length_append, List.length_cons, List.length_nil]
          omega)
      refine fun p4 ep4 => ?_
      have ss : Same J3 (upd J3 p4 (.lst (cutV xs none (some (n : Int)) ++ [V.ref oq]))) := same_new ep4
      have hp4 : upd J3 p4 (.lst (cutV xs none (some (n : Int)) ++ [V.ref oq])) p4 = some (.lst (cutV xs none (some (n : Int)) ++ [V.ref oq])) := upd_same
      have np4 := (so3.ne ep4).symm
      have so4 := so3.same ss
      have B4 := B3.trans (ss.but st)
      have ha := ss _ _ ha
      have hp1 := ss _ _ hp1
      have hoq := ss _ _ hoq
      have hp3 := ss _ _ hp3
      clear ss
      generalize upd J3 p4 (.lst (cutV xs none (some (n : Int)) ++ [V.ref oq])) = J4 at hp4 so4 B4 ha hp1 hoq hp3 ⊢
      tm_at "go"
      refine fun p5 ep5 => ?_
      have ss : Same J4 (upd J4 p5 (.lst (cutV xs (some (n : Int)) none))) := same_new ep5
      have hp5 : upd J4 p5 (.lst (cutV xs (some (n : Int)) none)) p5 = some (.lst (cutV xs (some (n : Int)) none)) := upd_same
      have np5 := (so4.ne ep5).symm
      have so5 := so4.same ss
      have B5 := B4.trans (ss.but st)
      have ha := ss _ _ ha
      have hp1 := ss _ _ hp1
      have hoq := ss _ _ hoq
      have hp3 := ss _ _ hp3
      have hp4 := ss _ _ hp4
      clear ss
      generalize upd J4 p5 (.lst (cutV xs (some (n : Int)) none)) = J5 at hp5 so5 B5 ha hp1 hoq hp3 hp4 ⊢
      refine ⟨p4, p5, _, _, rfl, rfl, hp4, hp5, ?_, ?_⟩
      · exact sizeL (by
          have q1 := cutV_length xs none (some (n : Int))
          have q2 := cutV_length xs (some (n : Int)) none
          have q3 := cutV_length xs (some ((n : Int) + 1)) none
          have q4 := cutV_length xs (some ((n : Int) + 2)) none
          have q5 := cutV_length xs (some ((n : Int) + 1)) (some ((n : Int) + 2))
          try simp only [List.length_append, List.length_cons, List.length_nil]
          omega)
      refine fun p6 ep6 => ?_
      have ss : Same J5 (upd J5 p6 (.lst (cutV xs none (some (n : Int)) ++ [V.ref oq] ++ cutV xs (some (n : Int)) none))) := same_new ep6
      have hp6 : upd J5 p6 (.lst (cutV xs none (some (n : Int)) ++ [V.ref oq] ++ cutV xs (some (n : Int)) none)) p6 = some (.lst (cutV xs none (some (n : Int)) ++ [V.ref oq] ++ cutV xs (some (n : Int)) none)) := upd_same
      have np6 := (so5.ne ep6).symm
      have so6 := so5.same ss
      have B6 := B5.trans (ss.but st)
      have ha := ss _ _ ha
      have hp1 := ss _ _ hp1
      have hoq := ss _ _ hoq
      have hp3 := ss _ _ hp3
      have hp4 := ss _ _ hp4
      have hp5 := ss _ _ hp5
      clear ss
      generalize upd J5 p6 (.lst (cutV xs none (some (n : Int)) ++ [V.ref oq] ++ cutV xs (some (n : Int)) none)) = J6 at hp6 so6 B6 ha hp1 hoq hp3 hp4 hp5 ⊢
      have newo : LnX K J6 (m + 1) (c + 1) (.ref oq) := ⟨oq, ows, rfl, SqL.of hoq, fun x hx => (howx x hx).mono (by omega), by omega⟩
      tm_at "go"
      refine q p6 _ _ B6 so6 hp6 (fun v hv => ?_) ?_
      · try simp only [List.mem_append, List.mem_cons, List.not_mem_nil, or_false] at hv
        have old : ∀ v, v ∈ xs → LnX K J6 (m + 1) (c + 1) v := fun v hv => ((hx v hv).but so B6).mono (Nat.le_succ _) (Nat.le_succ _)
        first
          | exact old v (cutV_mem hv)
          | (rcases hv with hv | hv <;> first | exact old v (cutV_mem hv) | (rw [hv]; exact newo))
          | (rcases hv with (hv | hv) | hv <;> first | exact old v (cutV_mem hv) | (rw [hv]; exact newo))
          | (rcases hv with ((hv | hv) | hv) | hv <;> first | exact old v (cutV_mem hv) | (rw [hv]; exact newo))
      · have q1 := cutV_to xs n
        have q2 := cutV_from xs n
        have q3 : cutV xs (some ((n : Int) + 1)) none = xs.drop (n + 1) := cutV_from xs (n + 1)
        have q4 : cutV xs (some ((n : Int) + 2)) none = xs.drop (n + 2) := cutV_from xs (n + 2)
        have q5 := cutV_mid xs n
        try rw [q1]
        try rw [q2]
        try rw [q3]
        try rw [q4]
        try simp only [List.length_append, List.length_cons, List.length_nil, List.length_take, List.length_drop]
        omega
    refine dec_false (fun z => c1 (by have := V.int.inj z; omega)) ?_
    have hnN : n < xs.length := by omega
    have hxn : xs[n]? = some xs[n] := List.getElem?_eq_getElem hnN
    obtain ⟨bw, ws, ebw, hbw0, hwx, hwl⟩ := hx _ (List.getElem_mem hnN)
    rw [ebw] at hxn
    have hbw := so.but_strs B0 hbw0
    refine ⟨_, rfl, _, rfl, _, _, _, _, rfl, rfl, SqL.of ha, at_of (j := n) (by omega) hxn, ?_⟩
    tm_at "go"
    refine fun p0 ep0 => ?_
    have ss : Same H2 (upd H2 p0 (.lst ([]))) := same_new ep0
    have hp0 : upd H2 p0 (.lst ([])) p0 = some (.lst ([])) := upd_same
    have np0 := (so2.ne ep0).symm
    have so1 := so2.same ss
    have B1 := B0.trans (ss.but st)
    have ha := ss _ _ ha
    have hbw := ss.seq hbw
    clear ss
    generalize upd H2 p0 (.lst ([])) = J1 at hp0 so1 B1 ha hbw ⊢
    refine ⟨.list (ws.map PyData.str), .list (([] : List Str).map PyData.str), .lst hbw (ims_strs (H := J1) ws).dp, .lst (SqL.of hp0) .nil, shaped_strs (fun x hx => (hwx x hx).ok), shaped_strs (fun x hx => by cases hx), ?_⟩
    rw [show PyData.eqv (.list (ws.map PyData.str)) (.list (([] : List Str).map PyData.str)) = decide (ws = []) from eqv_strs _ _]
    refine ⟨_, rfl, ?_⟩
    by_cases c2 : ws = []
    · refine dec_true c2 ?_
      tm_at "go"
      refine fun p1 ep1 => ?_
      have ss : Same J1 (upd J1 p1 (.lst (cutV xs none (some (n : Int))))) := same_new ep1
      have hp1 : upd J1 p1 (.lst (cutV xs none (some (n : Int)))) p1 = some (.lst (cutV xs none (some (n : Int)))) := upd_same
      have np1 := (so1.ne ep1).symm
      have so2 := so1.same ss
      have B2 := B1.trans (ss.but st)
      have ha := ss _ _ ha
      have hp0 := ss _ _ hp0
      have hbw := ss.seq hbw
      clear ss
      generalize upd J1 p1 (.lst (cutV xs none (some (n : Int)))) = J2 at hp1 so2 B2 ha hp0 hbw ⊢
      tm_at "go"
      refine fun oq ows JO noq hoq howx howl bO soO => ?_
      have noqs := (so2.ne noq).symm
      have ha := bO _ _ na ha
      have hp0 := bO _ _ np0 hp0
      have hp1 := bO _ _ np1 hp1
      have hbw := so2.but_strs bO hbw
      have B3 := B2.trans bO
      have noq := noqs
      tm_at "go"
      refine fun p3 ep3 => ?_
      have ss : Same JO (upd JO p3 (.lst ([V.ref oq]))) := same_new ep3
      have hp3 : upd JO p3 (.lst ([V.ref oq])) p3 = some (.lst ([V.ref oq])) := upd_same
      have np3 := (soO.ne ep3).symm
      have so4 := soO.same ss
      have B4 := B3.trans (ss.but st)
      have ha := ss _ _ ha
      have hp0 := ss _ _ hp0
      have hp1 := ss _ _ hp1
      have hoq := ss _ _ hoq
      have hbw := ss.seq hbw
      clear ss
      generalize upd JO p3 (.lst ([V.ref oq])) = J4 at hp3 so4 B4 ha hp0 hp1 hoq hbw ⊢
      refine ⟨p1, p3, _, _, rfl, rfl, hp1, hp3, ?_, ?_⟩
      · exact sizeL (by
          have q1 := cutV_length xs none (some (n : Int))
          have q2 := cutV_length xs (some (n : Int)) none
          have q3 := cutV_length xs (some ((n : Int) + 1)) none
          have q4 := cutV_length xs (some ((n : Int) + 2)) none
          have q5 := cutV_length xs (some ((n : Int) + 1)) (some ((n : Int) + 2))
          try simp only [List.length_append, List.length_cons, List.length_nil]
          omega)
      refine fun p4 ep4 => ?_
      have ss : Same J4 (upd J4 p4 (.lst (cutV xs none (some (n : Int)) ++ [V.ref oq]))) := same_new ep4
      have hp4 : upd J4 p4 (.lst (cutV xs none (some (n : Int)) ++ [V.ref oq])) p4 = some (.lst (cutV xs none (some (n : Int)) ++ [V.ref oq])) := upd_same
      have np4 := (so4.ne ep4).symm
      have so5 := so4.same ss
      have B5 := B4.trans (ss.but st)
      have ha := ss _ _ ha
      have hp0 := ss _ _ hp0
      have hp1 := ss _ _ hp1
      have hoq := ss _ _ hoq
      have hp3 := ss _ _ hp3
      have hbw := ss.seq hbw
      clear ss
      generalize upd J4 p4 (.lst (cutV xs none (some (n : Int)) ++ [V.ref oq])) = J5 at hp4 so5 B5 ha hp0 hp1 hoq hp3 hbw ⊢
      tm_at "go"
      refine fun p5 ep5 => ?_
      have ss : Same J5 (upd J5 p5 (.lst (cutV xs (some (n : Int)) none))) := same_new ep5
      have hp5 : upd J5 p5 (.lst (cutV xs (some (n : Int)) none)) p5 = some (.lst (cutV xs (some (n : Int)) none)) := upd_same
      have np5 := (so5.ne ep5).symm
      have so6 := so5.same ss
      have B6 := B5.trans (ss.but st)
      have ha := ss _ _ ha
      have hp0 := ss _ _ hp0
      have hp1 := ss _ _ hp1
      have hoq := ss _ _ hoq
      have hp3 := ss _ _ hp3
      have hp4 := ss _ _ hp4
      have hbw := ss.seq hbw
      clear ss
      generalize upd J5 p5 (.lst (cutV xs (some (n : Int)) none)) = J6 at hp5 so6 B6 ha hp0 hp1 hoq hp3 hp4 hbw ⊢
      refine ⟨p4, p5, _, _, rfl, rfl, hp4, hp5, ?_, ?_⟩
      · exact sizeL (by
          have q1 := cutV_length xs none (some (n : Int))
          have q2 := cutV_length xs (some (n : Int)) none
          have q3 := cutV_length xs (some ((n : Int) + 1)) none
          have q4 := cutV_length xs (some ((n : Int) + 2)) none
          have q5 := cutV_length xs (some ((n : Int) + 1)) (some ((n : Int) + 2))
          try simp only [List.length_append, List.length_cons, List.length_nil]
          omega)
      refine fun p6 ep6 => ?_
      have ss : Same J6 (upd J6 p6 (.lst (cutV xs none (some (n : Int)) ++ [V.ref oq] ++ cutV xs (some (n : Int)) none))) := same_new ep6
      have hp6 : upd J6 p6 (.lst (cutV xs none (some (n : Int)) ++ [V.ref oq] ++ cutV xs (some (n : Int)) none)) p6 = some (.lst (cutV xs none (some (n : Int)) ++ [V.ref oq] ++ cutV xs (some (n : Int)) none)) := upd_same
      have np6 := (so6.ne ep6).symm
      have so7 := so6.same ss
      have B7 := B6.trans (ss.but st)
      have ha := ss _ _ ha
      have hp0 := ss _ _ hp0
      have hp1 := ss _ _ hp1
      have hoq := ss _ _ hoq
      have hp3 := ss _ _ hp3
      have hp4 := ss _ _ hp4
      have hp5 := ss _ _ hp5
      have hbw := ss.seq hbw
      clear ss
      generalize upd J6 p6 (.lst (cutV xs none (some (n : Int)) ++ [V.ref oq] ++ cutV xs (some (n : Int)) none)) = J7 at hp6 so7 B7 ha hp0 hp1 hoq hp3 hp4 hp5 hbw ⊢
      have newo : LnX K J7 (m + 1) (c + 1) (.ref oq) := ⟨oq, ows, rfl, SqL.of hoq, fun x hx => (howx x hx).mono (by omega), by omega⟩
      tm_at "go"
      refine q p6 _ _ B7 so7 hp6 (fun v hv => ?_) ?_
      · try simp only [List.mem_append, List.mem_cons, List.not_mem_nil, or_false] at hv
        have old : ∀ v, v ∈ xs → LnX K J7 (m + 1) (c + 1) v := fun v hv => ((hx v hv).but so B7).mono (Nat.le_succ _) (Nat.le_succ _)
        first
          | exact old v (cutV_mem hv)
          | (rcases hv with hv | hv <;> first | exact old v (cutV_mem hv) | (rw [hv]; exact newo))
          | (rcases hv with (hv | hv) | hv <;> first | exact old v (cutV_mem hv) | (rw [hv]; exact newo))
          | (rcases hv with ((hv | hv) | hv) | hv <;> first | exact old v (cutV_mem hv) | (rw [hv]; exact newo))
      · have q1 := cutV_to xs n
        have q2 := cutV_from xs n
        have q3 : cutV xs (some ((n : Int) + 1)) none = xs.drop (n + 1) := cutV_from xs (n + 1)
        have q4 : cutV xs (some ((n : Int) + 2)) none = xs.drop (n + 2) := cutV_from xs (n + 2)
        have q5 := cutV_mid xs n
        try rw [q1]
        try rw [q2]
        try rw [q3]
        try rw [q4]
        try simp only [List.length_append, List.length_cons, List.length_nil, List.length_take, List.length_drop]
        omega
    refine dec_false c2 ?_
    have ham : atI xs (n : Int) = some (V.ref bw) := at_of (j := n) rfl hxn
    refine ⟨_, rfl, _, rfl, _, _, _, _, rfl, rfl, SqL.of ha, ham, ?_⟩
    by_cases c3 : V.int ((j : Nat) : Int) = V.int 3
    · tm_at "go"
      refine fun p1 ep1 => ?_
      have ss : Same J1 (upd J1 p1 (.lst (cutV xs none (some (n : Int))))) := same_new ep1
      have hp1 : upd J1 p1 (.lst (cutV xs none (some (n : Int)))) p1 = some (.lst (cutV xs none (some (n : Int)))) := upd_same
      have np1 := (so1.ne ep1).symm
      have so2 := so1.same ss
      have B2 := B1.trans (ss.but st)
      have ha := ss _ _ ha
      have hp0 := ss _ _ hp0
      have hbw := ss.seq hbw
      clear ss
      generalize upd J1 p1 (.lst (cutV xs none (some (n : Int)))) = J2 at hp1 so2 B2 ha hp0 hbw ⊢
      tm_at "go"
      refine fun p2 ep2 => ?_
      have ss : Same J2 (upd J2 p2 (.lst (cutV xs (some ((n : Int) + 1)) none))) := same_new ep2
      have hp2 : upd J2 p2 (.lst (cutV xs (some ((n : Int) + 1)) none)) p2 = some (.lst (cutV xs (some ((n : Int) + 1)) none)) := upd_same
      have np2 := (so2.ne ep2).symm
      have so3 := so2.same ss
      have B3 := B2.trans (ss.but st)
      have ha := ss _ _ ha
      have hp0 := ss _ _ hp0
      have hp1 := ss _ _ hp1
      have hbw := ss.seq hbw
      clear ss
      generalize upd J2 p2 (.lst (cutV xs (some ((n : Int) + 1)) none)) = J3 at hp2 so3 B3 ha hp0 hp1 hbw ⊢
      refine ⟨p1, p2, _, _, rfl, rfl, hp1, hp2, ?_, ?_⟩
      · exact sizeL (by
          have q1 := cutV_length xs none (some (n : Int))
          have q2 := cutV_length xs (some (n : Int)) none
          have q3 := cutV_length xs (some ((n : Int) + 1)) none
          have q4 := cutV_length xs (some ((n : Int) + 2)) none
          have q5 := cutV_length xs (some ((n : Int) + 1)) (some ((n : Int) + 2))
          try simp only [List.length_append, List.length_cons, List.length_nil]
          omega)
      refine fun p3 ep3 => ?_
      have ss : Same J3 (upd J3 p3 (.lst (cutV xs none (some (n : Int)) ++ cutV xs (some ((n : Int) + 1)) none))) := same_new ep3
      have hp3 : upd J3 p3 (.lst (cutV xs none (some (n : Int)) ++ cutV xs (some ((n : Int) + 1)) none)) p3 = some (.lst (cutV xs none (some (n : Int)) ++ cutV xs (some ((n : Int) + 1)) none)) := upd_same
      have np3 := (so3.ne ep3).symm
      have so4 := so3.same ss
      have B4 := B3.trans (ss.but st)
      have ha := ss _ _ ha
      have hp0 := ss _ _ hp0
      have hp1 := ss _ _ hp1
      have hp2 := ss _ _ hp2
      have hbw := ss.seq hbw
      clear ss
      generalize upd J3 p3 (.lst (cutV xs none (some (n : Int)) ++ cutV xs (some ((n : Int) + 1)) none)) = J4 at hp3 so4 B4 ha hp0 hp1 hp2 hbw ⊢
      tm_at "go"
      refine q p3 _ _ B4 so4 hp3 (fun v hv => ?_) ?_
      · try simp only [List.mem_append, List.mem_cons, List.not_mem_nil, or_false] at hv
        have old : ∀ v, v ∈ xs → LnX K J4 (m + 1) (c + 1) v := fun v hv => ((hx v hv).but so B4).mono (Nat.le_succ _) (Nat.le_succ _)
        first
          | exact old v (cutV_mem hv)
          | (rcases hv with hv | hv <;> first | exact old v (cutV_mem hv))
          | (rcases hv with (hv | hv) | hv <;> first | exact old v (cutV_mem hv))
          | (rcases hv with ((hv | hv) | hv) | hv <;> first | exact old v (cutV_mem hv))
      · have q1 := cutV_to xs n
        have q2 := cutV_from xs n
        have q3 : cutV xs (some ((n : Int) + 1)) none = xs.drop (n + 1) := cutV_from xs (n + 1)
        have q4 : cutV xs (some ((n : Int) + 2)) none = xs.drop (n + 2) := cutV_from xs (n + 2)
        have q5 := cutV_mid xs n
        try rw [q1]
        try rw [q2]
        try rw [q3]
        try rw [q4]
        try simp only [List.length_append, List.length_cons, List.length_nil, List.length_take, List.length_drop]
        omega
    by_cases c4 : V.int ((j : Nat) : Int) = V.int 4
    · tm_at "go"
      refine fun p1 ep1 => ?_
      have ss : Same J1 (upd J1 p1 (.lst (cutV xs none (some (n : Int))))) := same_new ep1
      have hp1 : upd J1 p1 (.lst (cutV xs none (some (n : Int)))) p1 = some (.lst (cutV xs none (some (n : Int)))) := upd_same
      have np1 := (so1.ne ep1).symm
      have so2 := so1.same ss
      have B2 := B1.trans (ss.but st)
      have ha := ss _ _ ha
      have hp0 := ss _ _ hp0
      have hbw := ss.seq hbw
      clear ss
      generalize upd J1 p1 (.lst (cutV xs none (some (n : Int)))) = J2 at hp1 so2 B2 ha hp0 hbw ⊢
      tm_at "go"
      refine fun p2 ep2 => ?_
      have ss : Same J2 (upd J2 p2 (.lst ([V.ref bw]))) := same_new ep2
      have hp2 : upd J2 p2 (.lst ([V.ref bw])) p2 = some (.lst ([V.ref bw])) := upd_same
      have np2 := (so2.ne ep2).symm
      have so3 := so2.same ss
      have B3 := B2.trans (ss.but st)
      have ha := ss _ _ ha
      have hp0 := ss _ _ hp0
      have hp1 := ss _ _ hp1
      have hbw := ss.seq hbw
      clear ss
      generalize upd J2 p2 (.lst ([V.ref bw])) = J3 at hp2 so3 B3 ha hp0 hp1 hbw ⊢
      refine ⟨p1, p2, _, _, rfl, rfl, hp1, hp2, ?_, ?_⟩
      · exact sizeL (by
          have q1 := cutV_length xs none (some (n : Int))
          have q2 := cutV_length xs (some (n : Int)) none
          have q3 := cutV_length xs (some ((n : Int) + 1)) none
          have q4 := cutV_length xs (some ((n : Int) + 2)) none
          have q5 := cutV_length xs (some ((n : Int) + 1)) (some ((n : Int) + 2))
          try simp only [List.length_append, List.length_cons, List.length_nil]
          omega)
      refine fun p3 ep3 => ?_
      have ss : Same J3 (upd J3 p3 (.lst (cutV xs none (some (n : Int)) ++ [V.ref bw]))) := same_new ep3
      have hp3 : upd J3 p3 (.lst (cutV xs none (some (n : Int)) ++ [V.ref bw])) p3 = some (.lst (cutV xs none (some (n : Int)) ++ [V.ref bw])) := upd_same
      have np3 := (so3.ne ep3).symm
      have so4 := so3.same ss
      have B4 := B3.trans (ss.but st)
      have ha := ss _ _ ha
      have hp0 := ss _ _ hp0
      have hp1 := ss _ _ hp1
      have hp2 := ss _ _ hp2
      have hbw := ss.seq hbw
      clear ss
      generalize upd J3 p3 (.lst (cutV xs none (some (n : Int)) ++ [V.ref bw])) = J4 at hp3 so4 B4 ha hp0 hp1 hp2 hbw ⊢
      tm_at "go"
      refine fun p4 ep4 => ?_
      have ss : Same J4 (upd J4 p4 (.lst (cutV xs (some (n : Int)) none))) := same_new ep4
      have hp4 : upd J4 p4 (.lst (cutV xs (some (n : Int)) none)) p4 = some (.lst (cutV xs (some (n : Int)) none)) := upd_same
      have np4 := (so4.ne ep4).symm
      have so5 := so4.same ss
      have B5 := B4.trans (ss.but st)
      have ha := ss _ _ ha
      have hp0 := ss _ _ hp0
      have hp1 := ss _ _ hp1
      have hp2 := ss _ _ hp2
      have hp3 := ss _ _ hp3
      have hbw := ss.seq hbw
      clear ss
      generalize upd J4 p4 (.lst (cutV xs (some (n : Int)) none)) = J5 at hp4 so5 B5 ha hp0 hp1 hp2 hp3 hbw ⊢
      refine ⟨p3, p4, _, _, rfl, rfl, hp3, hp4, ?_, ?_⟩
      · exact sizeL (by
          have q1 := cutV_length xs none (some (n : Int))
          have q2 := cutV_length xs (some (n : Int)) none
          have q3 := cutV_length xs (some ((n : Int) + 1)) none
          have q4 := cutV_length xs (some ((n : Int) + 2)) none
          have q5 := cutV_length xs (some ((n : Int) + 1)) (some ((n : Int) + 2))
          try simp only [List.length_append, List.length_cons, List.length_nil]
          omega)
      refine fun p5 ep5 => ?_
      have ss : Same J5 (upd J5 p5 (.lst (cutV xs none (some (n : Int)) ++ [V.ref bw] ++ cutV xs (some (n : Int)) none))) := same_new ep5
      have hp5 : upd J5 p5 (.lst (cutV xs none (some (n : Int)) ++ [V.ref bw] ++ cutV xs (some (n : Int)) none)) p5 = some (.lst (cutV xs none (some (n : Int)) ++ [V.ref bw] ++ cutV xs (some (n : Int)) none)) := upd_same
      have np5 := (so5.ne ep5).symm
      have so6 := so5.same ss
      have B6 := B5.trans (ss.but st)
      have ha := ss _ _ ha
      have hp0 := ss _ _ hp0
      have hp1 := ss _ _ hp1
      have hp2 := ss _ _ hp2
      have hp3 := ss _ _ hp3
      have hp4 := ss _ _ hp4
      have hbw := ss.seq hbw
      clear ss
      generalize upd J5 p5 (.lst (cutV xs none (some (n : Int)) ++ [V.ref bw] ++ cutV xs (some (n : Int)) none)) = J6 at hp5 so6 B6 ha hp0 hp1 hp2 hp3 hp4 hbw ⊢
      have neww : LnX K J6 (m + 1) (c + 1) (.ref bw) := ⟨bw, ws, rfl, hbw, fun x hx => (hwx x hx).mono (Nat.le_succ _), by omega⟩
      tm_at "go"
      refine q p5 _ _ B6 so6 hp5 (fun v hv => ?_) ?_
      · try simp only [List.mem_append, List.mem_cons, List.not_mem_nil, or_false] at hv
        have old : ∀ v, v ∈ xs → LnX K J6 (m + 1) (c + 1) v := fun v hv => ((hx v hv).but so B6).mono (Nat.le_succ _) (Nat.le_succ _)
        first
          | exact old v (cutV_mem hv)
          | (rcases hv with hv | hv <;> first | exact old v (cutV_mem hv) | (rw [hv]; exact neww))
          | (rcases hv with (hv | hv) | hv <;> first | exact old v (cutV_mem hv) | (rw [hv]; exact neww))
          | (rcases hv with ((hv | hv) | hv) | hv <;> first | exact old v (cutV_mem hv) | (rw [hv]; exact neww))
      · have q1 := cutV_to xs n
        have q2 := cutV_from xs n
        have q3 : cutV xs (some ((n : Int) + 1)) none = xs.drop (n + 1) := cutV_from xs (n + 1)
        have q4 : cutV xs (some ((n : Int) + 2)) none = xs.drop (n + 2) := cutV_from xs (n + 2)
        have q5 := cutV_mid xs n
        try rw [q1]
        try rw [q2]
        try rw [q3]
        try rw [q4]
        try simp only [List.length_append, List.length_cons, List.length_nil, List.length_take, List.length_drop]
        omega
    by_cases c5 : V.int ((j : Nat) : Int) = V.int 5
    · tm_at "go"
      refine fun p1 ep1 => ?_
      have ss : Same J1 (upd J1 p1 (.lst (cutV xs none (some (n : Int))))) := same_new ep1
      have hp1 : upd J1 p1 (.lst (cutV xs none (some (n : Int)))) p1 = some (.lst (cutV xs none (some (n : Int)))) := upd_same
      have np1 := (so1.ne ep1).symm
      have so2 := so1.same ss
      have B2 := B1.trans (ss.but st)
      have ha := ss _ _ ha
      have hp0 := ss _ _ hp0
      have hbw := ss.seq hbw
      clear ss
      generalize upd J1 p1 (.lst (cutV xs none (some (n : Int)))) = J2 at hp1 so2 B2 ha hp0 hbw ⊢
      tm_at "go"
      refine fun p2 ep2 => ?_
      have ss : Same J2 (upd J2 p2 (.lst (cutV xs (some ((n : Int) + 1)) (some ((n : Int) + 2))))) := same_new ep2
      have hp2 : upd J2 p2 (.lst (cutV xs (some ((n : Int) + 1)) (some ((n : Int) + 2)))) p2 = some (.lst (cutV xs (some ((n : Int) + 1)) (some ((n : Int) + 2)))) := upd_same
      have np2 := (so2.ne ep2).symm
      have so3 := so2.same ss
      have B3 := B2.trans (ss.but st)
      have ha := ss _ _ ha
      have hp0 := ss _ _ hp0
      have hp1 := ss _ _ hp1
      have hbw := ss.seq hbw
      clear ss
      generalize upd J2 p2 (.lst (cutV xs (some ((n : Int) + 1)) (some ((n : Int) + 2)))) = J3 at hp2 so3 B3 ha hp0 hp1 hbw ⊢
      refine ⟨p1, p2, _, _, rfl, rfl, hp1, hp2, ?_, ?_⟩
      · exact sizeL (by
          have q1 := cutV_length xs none (some (n : Int))
          have q2 := cutV_length xs (some (n : Int)) none
          have q3 := cutV_length xs (some ((n : Int) + 1)) none
          have q4 := cutV_length xs (some ((n : Int) + 2)) none
          have q5 := cutV_length xs (some ((n : Int) + 1)) (some ((n : Int) + 2))
          try simp only [List.length_append, List.length_cons, List.length_nil]
          omega)
      refine fun p3 ep3 => ?_
      have ss : Same J3 (upd J3 p3 (.lst (cutV xs none (some (n : Int)) ++ cutV xs (some ((n : Int) + 1)) (some ((n : Int) + 2))))) := same_new ep3
      have hp3 : upd J3 p3 (.lst (cutV xs none (some (n : Int)) ++ cutV xs (some ((n : Int) + 1)) (some ((n : Int) + 2)))) p3 = some (.lst (cutV xs none (some (n : Int)) ++ cutV xs (some ((n : Int) + 1)) (some ((n : Int) + 2)))) := upd_same
      have np3 := (so3.ne ep3).symm
      have so4 := so3.same ss
      have B4 := B3.trans (ss.but st)
      have ha := ss _ _ ha
      have hp0 := ss _ _ hp0
      have hp1 := ss _ _ hp1
      have hp2 := ss _ _ hp2
      have hbw := ss.seq hbw
      clear ss
      generalize upd J3 p3 (.lst (cutV xs none (some (n : Int)) ++ cutV xs (some ((n : Int) + 1)) (some ((n : Int) + 2)))) = J4 at hp3 so4 B4 ha hp0 hp1 hp2 hbw ⊢
      tm_at "go"
      refine fun p4 ep4 => ?_
      have ss : Same J4 (upd J4 p4 (.lst ([V.ref bw]))) := same_new ep4
      have hp4 : upd J4 p4 (.lst ([V.ref bw])) p4 = some (.lst ([V.ref bw])) := upd_same
      have np4 := (so4.ne ep4).symm
      have so5 := so4.same ss
      have B5 := B4.trans (ss.but st)
      have ha := ss _ _ ha
      have hp0 := ss _ _ hp0
      have hp1 := ss _ _ hp1
      have hp2 := ss _ _ hp2
      have hp3 := ss _ _ hp3
      have hbw := ss.seq hbw
      clear ss
      generalize upd J4 p4 (.lst ([V.ref bw])) = J5 at hp4 so5 B5 ha hp0 hp1 hp2 hp3 hbw ⊢
      refine ⟨p3, p4, _, _, rfl, rfl, hp3, hp4, ?_, ?_⟩
      · exact sizeL (by
          have q1 := cutV_length xs none (some (n : Int))
          have q2 := cutV_length xs (some (n : Int)) none
          have q3 := cutV_length xs (some ((n : Int) + 1)) none
          have q4 := cutV_length xs (some ((n : Int) + 2)) none
          have q5 := cutV_length xs (some ((n : Int) + 1)) (some ((n : Int) + 2))
          try simp only [List.length_append, List.length_cons, List.length_nil]
          omega)
      refine fun p5 ep5 => ?_
      have ss : Same J5 (upd J5 p5 (.lst (cutV xs none (some (n : Int)) ++ cutV xs (some ((n : Int) + 1)) (some ((n : Int) + 2)) ++ [V.ref bw]))) := same_new ep5
      have hp5 : upd J5 p5 (.lst (cutV xs none (some (n : Int)) ++ cutV xs (some ((n : Int) + 1)) (some ((n : Int) + 2)) ++ [V.ref bw])) p5 = some (.lst (cutV xs none (some (n : Int)) ++ cutV xs (some ((n : Int) + 1)) (some ((n : Int) + 2)) ++ [V.ref bw])) := upd_same
      have np5 := (so5.ne ep5).symm
      have so6 := so5.same ss
      have B6 := B5.trans (ss.but st)
      have ha := ss _ _ ha
      have hp0 := ss _ _ hp0
      have hp1 := ss _ _ hp1
      have hp2 := ss _ _ hp2
      have hp3 := ss _ _ hp3
      have hp4 := ss _ _ hp4
      have hbw := ss.seq hbw
      clear ss
      generalize upd J5 p5 (.lst (cutV xs none (some (n : Int)) ++ cutV xs (some ((n : Int) + 1)) (some ((n : Int) + 2)) ++ [V.ref bw])) = J6 at hp5 so6 B6 ha hp0 hp1 hp2 hp3 hp4 hbw ⊢
      tm_at "go"
      refine fun p6 ep6 => ?_
      have ss : Same J6 (upd J6 p6 (.lst (cutV xs (some ((n : Int) + 2)) none))) := same_new ep6
      have hp6 : upd J6 p6 (.lst (cutV xs (some ((n : Int) + 2)) none)) p6 = some (.lst (cutV xs (some ((n : Int) + 2)) none)) := upd_same
      have np6 := (so6.ne ep6).symm
      have so7 := so6.same ss
      have B7 := B6.trans (ss.but st)
      have ha := ss _ _ ha
      have hp0 := ss _ _ hp0
      have hp1 := ss _ _ hp1
      have hp2 := ss _ _ hp2
      have hp3 := ss _ _ hp3
      have hp4 := ss _ _ hp4
      have hp5 := ss _ _ hp5
      have hbw := ss.seq hbw
      clear ss
      generalize upd J6 p6 (.lst (cutV xs (some ((n : Int) + 2)) none)) = J7 at hp6 so7 B7 ha hp0 hp1 hp2 hp3 hp4 hp5 hbw ⊢
      refine ⟨p5, p6, _, _, rfl, rfl, hp5, hp6, ?_, ?_⟩
      · exact sizeL (by
          have q1 := cutV_length xs none (some (n : Int))
          have q2 := cutV_length xs (some (n : Int)) none
          have q3 := cutV_length xs (some ((n : Int) + 1)) none
          have q4 := cutV_length xs (some ((n : Int) + 2)) none
          have q5 := cutV_length xs (some ((n : Int) + 1)) (some ((n : Int) + 2))
          try simp only [List.length_append, List.length_cons, List.length_nil]
          omega)
      refine fun p7 ep7 => ?_
      have ss : Same J7 (upd J7 p7 (.lst (cutV xs none (some (n : Int)) ++ cutV xs (some ((n : Int) + 1)) (some ((n : Int) + 2)) ++ [V.ref bw] ++ cutV xs (some ((n : Int) + 2)) none))) := same_new ep7
      have hp7 : upd J7 p7 (.lst (cutV xs none (some (n : Int)) ++ cutV xs (some ((n : Int) + 1)) (some ((n : Int) + 2)) ++ [V.ref bw] ++ cutV xs (some ((n : Int) + 2)) none)) p7 = some (.lst (cutV xs none (some (n : Int)) ++ cutV xs (some ((n : Int) + 1)) (some ((n : Int) + 2)) ++ [V.ref bw] ++ cutV xs (some ((n : Int) + 2)) none)) := upd_same
      have np7 := (so7.ne ep7).symm
      have so8 := so7.same ss
      have B8 := B7.trans (ss.but st)
      have ha := ss _ _ ha
      have hp0 := ss _ _ hp0
      have hp1 := ss _ _ hp1
      have hp2 := ss _ _ hp2
      have hp3 := ss _ _ hp3
      have hp4 := ss _ _ hp4
      have hp5 := ss _ _ hp5
      have hp6 := ss _ _ hp6
      have hbw := ss.seq hbw
      clear ss
      generalize upd J7 p7 (.lst (cutV xs none (some (n : Int)) ++ cutV xs (some ((n : Int) + 1)) (some ((n : Int) + 2)) ++ [V.ref bw] ++ cutV xs (some ((n : Int) + 2)) none)) = J8 at hp7 so8 B8 ha hp0 hp1 hp2 hp3 hp4 hp5 hp6 hbw ⊢
      have neww : LnX K J8 (m + 1) (c + 1) (.ref bw) := ⟨bw, ws, rfl, hbw, fun x hx => (hwx x hx).mono (Nat.le_succ _), by omega⟩
      tm_at "go"
      refine q p7 _ _ B8 so8 hp7 (fun v hv => ?_) ?_
      · try simp only [List.mem_append, List.mem_cons, List.not_mem_nil, or_false] at hv
        have old : ∀ v, v ∈ xs → LnX K J8 (m + 1) (c + 1) v := fun v hv => ((hx v hv).but so B8).mono (Nat.le_succ _) (Nat.le_succ _)
        first
          | exact old v (cutV_mem hv)
          | (rcases hv with hv | hv <;> first | exact old v (cutV_mem hv) | (rw [hv]; exact neww))
          | (rcases hv with (hv | hv) | hv <;> first | exact old v (cutV_mem hv) | (rw [hv]; exact neww))
          | (rcases hv with ((hv | hv) | hv) | hv <;> first | exact old v (cutV_mem hv) | (rw [hv]; exact neww))
      · have q1 := cutV_to xs n
        have q2 := cutV_from xs n
        have q3 : cutV xs (some ((n : Int) + 1)) none = xs.drop (n + 1) := cutV_from xs (n + 1)
        have q4 : cutV xs (some ((n : Int) + 2)) none = xs.drop (n + 2) := cutV_from xs (n + 2)
        have q5 := cutV_mid xs n
        try rw [q1]
        try rw [q2]
        try rw [q3]
        try rw [q4]
        try simp only [List.length_append, List.length_cons, List.length_nil, List.length_take, List.length_drop]
        omega
    by_cases c6 : V.int ((j : Nat) : Int) = V.int 6
    · tm_at "go"
      have hwl0 : 0 < ws.length := List.length_pos_iff.mpr c2
      have hwm : (ws.map V.str).length = ws.length := List.length_map ..
      refine ⟨st, l, _, rfl, so1, by omega, by have := pow30 (n := ws.length) (by omega); omega, fun r3 H3 r30 r31 b3 so3 => ?_⟩
      obtain ⟨kk, rfl⟩ : ∃ kk : Nat, r3 = (kk : Int) := ⟨r3.toNat, by omega⟩
      have hkk : kk < ws.length := by omega
      have ha := b3 _ _ na ha
      have hp0 := b3 _ _ np0 hp0
      have hbw := so1.but_strs b3 hbw
      have B2 := B1.trans b3
      have hwk : Wx m (ws.getD kk Str.empty) := hwx _ (List.mem_of_getElem? (getD_lt hkk))
      have haw := at_strs (i := (kk : Int)) hkk rfl
      generalize ws.getD kk Str.empty = wk at hwk haw
      tm_at "go"
      refine fun q0 eq0 => ?_
      have ss : Same H3 (upd H3 q0 (.lst ([]))) := same_new eq0
      have hq0 : upd H3 q0 (.lst ([])) q0 = some (.lst ([])) := upd_same
      have nq0 := (so3.ne eq0).symm
      have so3 := so3.same ss
      have B3 := B2.trans (ss.but st)
      have ha := ss _ _ ha
      have hp0 := ss _ _ hp0
      have hbw := ss.seq hbw
      clear ss
      generalize upd H3 q0 (.lst ([])) = J3 at hq0 so3 B3 ha hp0 hbw ⊢
      tm_at "go"
      refine fun zw H4 hzw b4 so4 => ?_
      have ha := b4 _ _ na ha
      have hp0 := b4 _ _ np0 hp0
      have hq0 := b4 _ _ nq0 hq0
      have hbw := so3.but_strs b4 hbw
      have B4 := B3.trans b4
      tm_at "go"
      refine fun q1 eq1 => ?_
      have ss : Same H4 (upd H4 q1 (.lst ([V.str zw]))) := same_new eq1
      have hq1 : upd H4 q1 (.lst ([V.str zw])) q1 = some (.lst ([V.str zw])) := upd_same
      have nq1 := (so4.ne eq1).symm
      have so5 := so4.same ss
      have B5 := B4.trans (ss.but st)
      have ha := ss _ _ ha
      have hp0 := ss _ _ hp0
      have hq0 := ss _ _ hq0
      have hbw := ss.seq hbw
      clear ss
      generalize upd H4 q1 (.lst ([V.str zw])) = J5 at hq1 so5 B5 ha hp0 hq0 hbw ⊢
      refine ⟨_, rfl, _, rfl, _, _, _, _, rfl, rfl, hbw, haw, ?_⟩
      refine ⟨_, rfl, _, rfl, _, _, _, _, rfl, rfl, hbw, haw, ?_⟩
      tm_at "go"
      refine fun q2 eq2 => ?_
      have ss : Same J5 (upd J5 q2 (.lst ([V.str wk, V.str wk]))) := same_new eq2
      have hq2 : upd J5 q2 (.lst ([V.str wk, V.str wk])) q2 = some (.lst ([V.str wk, V.str wk])) := upd_same
      have nq2 := (so5.ne eq2).symm
      have so6 := so5.same ss
      have B6 := B5.trans (ss.but st)
      have ha := ss _ _ ha
      have hp0 := ss _ _ hp0
      have hq0 := ss _ _ hq0
      have hq1 := ss _ _ hq1
      have hbw := ss.seq hbw
      clear ss
      generalize upd J5 q2 (.lst ([V.str wk, V.str wk])) = J6 at hq2 so6 B6 ha hp0 hq0 hq1 hbw ⊢
      refine ⟨_, rfl, _, rfl, _, _, _, _, rfl, rfl, hbw, haw, ?_⟩
      refine ⟨wk, S "x", rfl, rfl, sizeL (by have := hwk.2; have e : (S "x").length = 1 := (by decide +kernel); omega), ?_⟩
      tm_at "go"
      refine fun q3 eq3 => ?_
      have ss : Same J6 (upd J6 q3 (.lst ([V.str (wk ++ S "x")]))) := same_new eq3
      have hq3 : upd J6 q3 (.lst ([V.str (wk ++ S "x")])) q3 = some (.lst ([V.str (wk ++ S "x")])) := upd_same
      have nq3 := (so6.ne eq3).symm
      have so7 := so6.same ss
      have B7 := B6.trans (ss.but st)
      have ha := ss _ _ ha
      have hp0 := ss _ _ hp0
      have hq0 := ss _ _ hq0
      have hq1 := ss _ _ hq1
      have hq2 := ss _ _ hq2
      have hbw := ss.seq hbw
      clear ss
      generalize upd J6 q3 (.lst ([V.str (wk ++ S "x")])) = J7 at hq3 so7 B7 ha hp0 hq0 hq1 hq2 hbw ⊢
      tm_at "go"
      refine fun q4 eq4 => ?_
      have ss : Same J7 (upd J7 q4 (.lst ([V.ref q0, V.ref q1, V.ref q2, V.ref q3]))) := same_new eq4
      have hq4 : upd J7 q4 (.lst ([V.ref q0, V.ref q1, V.ref q2, V.ref q3])) q4 = some (.lst ([V.ref q0, V.ref q1, V.ref q2, V.ref q3])) := upd_same
      have nq4 := (so7.ne eq4).symm
      have so8 := so7.same ss
      have B8 := B7.trans (ss.but st)
      have ha := ss _ _ ha
      have hp0 := ss _ _ hp0
      have hq0 := ss _ _ hq0
      have hq1 := ss _ _ hq1
      have hq2 := ss _ _ hq2
      have hq3 := ss _ _ hq3
      have hbw := ss.seq hbw
      clear ss
      generalize upd J7 q4 (.lst ([V.ref q0, V.ref q1, V.ref q2, V.ref q3])) = J8 at hq4 so8 B8 ha hp0 hq0 hq1 hq2 hq3 hbw ⊢
      tm_at "go"
      refine ⟨st, l, q4, _, rfl, so8, nq4, hq4, Nat.le_of_ble_eq_true rfl, Nat.le_of_ble_eq_true rfl, fun v H5 hv b5 so5 => ?_⟩
      have ha := b5 _ _ na ha
      have hp0 := b5 _ _ np0 hp0
      have hq0 := b5 _ _ nq0 hq0
      have hq1 := b5 _ _ nq1 hq1
      have hq2 := b5 _ _ nq2 hq2
      have hq3 := b5 _ _ nq3 hq3
      have hq4 := b5 _ _ nq4 hq4
      have hbw := so8.but_strs b5 hbw
      have B9 := B8.trans b5
      have hox : ∃ (oo : Addr) (os : List Str), v = V.ref oo ∧ H5 oo = some (.lst (os.map V.str)) ∧ (∀ x ∈ os, Wx (m + 1) x) ∧ os.length ≤ 2 ∧ oo ≠ st := by
        simp only [List.mem_cons, List.not_mem_nil, or_false] at hv
        rcases hv with rfl | rfl | rfl | rfl
        · exact ⟨q0, [], rfl, hq0, fun x hx => (by cases hx), by decide, nq0⟩
        · exact ⟨q1, [zw], rfl, hq1, fun x hx => (by rw [List.mem_singleton.mp hx]; exact hzw.wx.mono (by omega)), Nat.le_of_ble_eq_true rfl, nq1⟩
        · exact ⟨q2, [wk, wk], rfl, hq2, fun x hx => (by simp only [List.mem_cons, List.not_mem_nil, or_false, or_self] at hx; rw [hx]; exact hwk.mono (Nat.le_succ _)), Nat.le_of_ble_eq_true rfl, nq2⟩
        · refine ⟨q3, [wk ++ S "x"], rfl, hq3, fun x hx => ?_, Nat.le_of_ble_eq_true rfl, nq3⟩
          rw [List.mem_singleton.mp hx]
          refine ⟨fun z hz => ?_, ?_⟩
          · rw [tl_append] at hz
            rcases List.mem_append.mp hz with h | h
            · exact hwk.1 z h
            · have hz2 : ∀ z ∈ tl (S "x"), 33 ≤ z ∧ z ≤ 126 := by decide +kernel
              exact hz2 z h
          · rw [M.len_app]
            have h1 := hwk.2
            have e : (S "x").length = 1 := by decide +kernel
            omega
      obtain ⟨oo, os, rfl, hoo, hox, hol, noo⟩ := hox
      clear hq0 hq1 hq2 hq3 hq4
      tm_at "go"
      refine fun p1 ep1 => ?_
      have ss : Same H5 (upd H5 p1 (.lst (cutV xs none (some (n : Int))))) := same_new ep1
      have hp1 : upd H5 p1 (.lst (cutV xs none (some (n : Int)))) p1 = some (.lst (cutV xs none (some (n : Int)))) := upd_same
      have np1 := (so5.ne ep1).symm
      have so10 := so5.same ss
      have B10 := B9.trans (ss.but st)
      have ha := ss _ _ ha
      have hp0 := ss _ _ hp0
      have hoo := ss _ _ hoo
      have hbw := ss.seq hbw
      clear ss
      generalize upd H5 p1 (.lst (cutV xs none (some (n : Int)))) = J10 at hp1 so10 B10 ha hp0 hoo hbw ⊢
      tm_at "go"
      refine fun p2 ep2 => ?_
      have ss : Same J10 (upd J10 p2 (.lst (cutV (ws.map V.str) none (some (kk : Int))))) := same_new ep2
      have hp2 : upd J10 p2 (.lst (cutV (ws.map V.str) none (some (kk : Int)))) p2 = some (.lst (cutV (ws.map V.str) none (some (kk : Int)))) := upd_same
      have np2 := (so10.ne ep2).symm
      have so11 := so10.same ss
      have B11 := B10.trans (ss.but st)
      have ha := ss _ _ ha
      have hp0 := ss _ _ hp0
      have hoo := ss _ _ hoo
      have hp1 := ss _ _ hp1
      have hbw := ss.seq hbw
      clear ss
      generalize upd J10 p2 (.lst (cutV (ws.map V.str) none (some (kk : Int)))) = J11 at hp2 so11 B11 ha hp0 hoo hp1 hbw ⊢
      tm_at "go"
      refine ⟨p2, oo, _, _, rfl, rfl, hp2, hoo, ?_, ?_⟩
      · exact sizeL (by
          have q1 := cutV_length xs none (some (n : Int))
          have q2 := cutV_length xs (some (n : Int)) none
          have q3 := cutV_length xs (some ((n : Int) + 1)) none
          have q4 := cutV_length xs (some ((n : Int) + 2)) none
          have q5 := cutV_length xs (some ((n : Int) + 1)) (some ((n : Int) + 2))
          have q6 := cutV_length (ws.map V.str) none (some (kk : Int))
          have q7 := cutV_length (ws.map V.str) (some ((kk : Int) + 1)) none
          have q8 : (os.map V.str).length = os.length := List.length_map ..
          try simp only [List.length_append, List.length_cons, List.length_nil]
          omega)
      refine fun p3 ep3 => ?_
      have ss : Same J11 (upd J11 p3 (.lst (cutV (ws.map V.str) none (some (kk : Int)) ++ os.map V.str))) := same_new ep3
      have hp3 : upd J11 p3 (.lst (cutV (ws.map V.str) none (some (kk : Int)) ++ os.map V.str)) p3 = some (.lst (cutV (ws.map V.str) none (some (kk : Int)) ++ os.map V.str)) := upd_same
      have np3 := (so11.ne ep3).symm
      have so12 := so11.same ss
      have B12 := B11.trans (ss.but st)
      have ha := ss _ _ ha
      have hp0 := ss _ _ hp0
      have hoo := ss _ _ hoo
      have hp1 := ss _ _ hp1
      have hp2 := ss _ _ hp2
      have hbw := ss.seq hbw
      clear ss
      generalize upd J11 p3 (.lst (cutV (ws.map V.str) none (some (kk : Int)) ++ os.map V.str)) = J12 at hp3 so12 B12 ha hp0 hoo hp1 hp2 hbw ⊢
      tm_at "go"
      refine fun p4 ep4 => ?_
      have ss : Same J12 (upd J12 p4 (.lst (cutV (ws.map V.str) (some ((kk : Int) + 1)) none))) := same_new ep4
      have hp4 : upd J12 p4 (.lst (cutV (ws.map V.str) (some ((kk : Int) + 1)) none)) p4 = some (.lst (cutV (ws.map V.str) (some ((kk : Int) + 1)) none)) := upd_same
      have np4 := (so12.ne ep4).symm
      have so13 := so12.same ss
      have B13 := B12.trans (ss.but st)
      have ha := ss _ _ ha
      have hp0 := ss _ _ hp0
      have hoo := ss _ _ hoo
      have hp1 := ss _ _ hp1
      have hp2 := ss _ _ hp2
      have hp3 := ss _ _ hp3
      have hbw := ss.seq hbw
      clear ss
      generalize upd J12 p4 (.lst (cutV (ws.map V.str) (some ((kk : Int) + 1)) none)) = J13 at hp4 so13 B13 ha hp0 hoo hp1 hp2 hp3 hbw ⊢
      refine ⟨p3, p4, _, _, rfl, rfl, hp3, hp4, ?_, ?_⟩
      · exact sizeL (by
          have q1 := cutV_length xs none (some (n : Int))
          have q2 := cutV_length xs (some (n : Int)) none
          have q3 := cutV_length xs (some ((n : Int) + 1)) none
          have q4 := cutV_length xs (some ((n : Int) + 2)) none
          have q5 := cutV_length xs (some ((n : Int) + 1)) (some ((n : Int) + 2))
          have q6 := cutV_length (ws.map V.str) none (some (kk : Int))
          have q7 := cutV_length (ws.map V.str) (some ((kk : Int) + 1)) none
          have q8 : (os.map V.str).length = os.length := List.length_map ..
          try simp only [List.length_append, List.length_cons, List.length_nil]
          omega)
      refine fun p5 ep5 => ?_
      have ss : Same J13 (upd J13 p5 (.lst (cutV (ws.map V.str) none (some (kk : Int)) ++ os.map V.str ++ cutV (ws.map V.str) (some ((kk : Int) + 1)) none))) := same_new ep5
      have hp5 : upd J13 p5 (.lst (cutV (ws.map V.str) none (some (kk : Int)) ++ os.map V.str ++ cutV (ws.map V.str) (some ((kk : Int) + 1)) none)) p5 = some (.lst (cutV (ws.map V.str) none (some (kk : Int)) ++ os.map V.str ++ cutV (ws.map V.str) (some ((kk : Int) + 1)) none)) := upd_same
      have np5 := (so13.ne ep5).symm
      have so14 := so13.same ss
      have B14 := B13.trans (ss.but st)
      have ha := ss _ _ ha
      have hp0 := ss _ _ hp0
      have hoo := ss _ _ hoo
      have hp1 := ss _ _ hp1
      have hp2 := ss _ _ hp2
      have hp3 := ss _ _ hp3
      have hp4 := ss _ _ hp4
      have hbw := ss.seq hbw
      clear ss
      generalize upd J13 p5 (.lst (cutV (ws.map V.str) none (some (kk : Int)) ++ os.map V.str ++ cutV (ws.map V.str) (some ((kk : Int) + 1)) none)) = J14 at hp5 so14 B14 ha hp0 hoo hp1 hp2 hp3 hp4 hbw ⊢
      tm_at "go"
      refine fun p6 ep6 => ?_
      have ss : Same J14 (upd J14 p6 (.lst ([V.ref p5]))) := same_new ep6
      have hp6 : upd J14 p6 (.lst ([V.ref p5])) p6 = some (.lst ([V.ref p5])) := upd_same
      have np6 := (so14.ne ep6).symm
      have so15 := so14.same ss
      have B15 := B14.trans (ss.but st)
      have ha := ss _ _ ha
      have hp0 := ss _ _ hp0
      have hoo := ss _ _ hoo
      have hp1 := ss _ _ hp1
      have hp2 := ss _ _ hp2
      have hp3 := ss _ _ hp3
      have hp4 := ss _ _ hp4
      have hp5 := ss _ _ hp5
      have hbw := ss.seq hbw
      clear ss
      generalize upd J14 p6 (.lst ([V.ref p5])) = J15 at hp6 so15 B15 ha hp0 hoo hp1 hp2 hp3 hp4 hp5 hbw ⊢
      refine ⟨p1, p6, _, _, rfl, rfl, hp1, hp6, ?_, ?_⟩
      · exact sizeL (by
          have q1 := cutV_length xs none (some (n : Int))
          have q2 := cutV_length xs (some (n : Int)) none
          have q3 := cutV_length xs (some ((n : Int) + 1)) none
          have q4 := cutV_length xs (some ((n : Int) + 2)) none
          have q5 := cutV_length xs (some ((n : Int) + 1)) (some ((n : Int) + 2))
          try simp only [List.length_append, List.length_cons, List.length_nil]
          omega)
      refine fun p7 ep7 => ?_
      have ss : Same J15 (upd J15 p7 (.lst (cutV xs none (some (n : Int)) ++ [V.ref p5]))) := same_new ep7
      have hp7 : upd J15 p7 (.lst (cutV xs none (some (n : Int)) ++ [V.ref p5])) p7 = some (.lst (cutV xs none (some (n : Int)) ++ [V.ref p5])) := upd_same
      have np7 := (so15.ne ep7).symm
      have so16 := so15.same ss
      have B16 := B15.trans (ss.but st)
      have ha := ss _ _ ha
      have hp0 := ss _ _ hp0
      have hoo := ss _ _ hoo
      have hp1 := ss _ _ hp1
      have hp2 := ss _ _ hp2
      have hp3 := ss _ _ hp3
      have hp4 := ss _ _ hp4
      have hp5 := ss _ _ hp5
      have hp6 := ss _ _ hp6
      have hbw := ss.seq hbw
      clear ss
      generalize upd J15 p7 (.lst (cutV xs none (some (n : Int)) ++ [V.ref p5])) = J16 at hp7 so16 B16 ha hp0 hoo hp1 hp2 hp3 hp4 hp5 hp6 hbw ⊢
      tm_at "go"
      refine fun p8 ep8 => ?_
      have ss : Same J16 (upd J16 p8 (.lst (cutV xs (some ((n : Int) + 1)) none))) := same_new ep8
      have hp8 : upd J16 p8 (.lst (cutV xs (some ((n : Int) + 1)) none)) p8 = some (.lst (cutV xs (some ((n : Int) + 1)) none)) := upd_same
      have np8 := (so16.ne ep8).symm
      have so17 := so16.same ss
      have B17 := B16.trans (ss.but st)
      have ha := ss _ _ ha
      have hp0 := ss _ _ hp0
      have hoo := ss _ _ hoo
      have hp1 := ss _ _ hp1
      have hp2 := ss _ _ hp2
      have hp3 := ss _ _ hp3
      have hp4 := ss _ _ hp4
      have hp5 := ss _ _ hp5
      have hp6 := ss _ _ hp6
      have hp7 := ss _ _ hp7
      have hbw := ss.seq hbw
      clear ss
      generalize upd J16 p8 (.lst (cutV xs (some ((n : Int) + 1)) none)) = J17 at hp8 so17 B17 ha hp0 hoo hp1 hp2 hp3 hp4 hp5 hp6 hp7 hbw ⊢
      refine ⟨p7, p8, _, _, rfl, rfl, hp7, hp8, ?_, ?_⟩
      · exact sizeL (by
          have q1 := cutV_length xs none (some (n : Int))
          have q2 := cutV_length xs (some (n : Int)) none
          have q3 := cutV_length xs (some ((n : Int) + 1)) none
          have q4 := cutV_length xs (some ((n : Int) + 2)) none
          have q5 := cutV_length xs (some ((n : Int) + 1)) (some ((n : Int) + 2))
          try simp only [List.length_append, List.length_cons, List.length_nil]
          omega)
      refine fun p9 ep9 => ?_
      have ss : Same J17 (upd J17 p9 (.lst (cutV xs none (some (n : Int)) ++ [V.ref p5] ++ cutV xs (some ((n : Int) + 1)) none))) := same_new ep9
      have hp9 : upd J17 p9 (.lst (cutV xs none (some (n : Int)) ++ [V.ref p5] ++ cutV xs (some ((n : Int) + 1)) none)) p9 = some (.lst (cutV xs none (some (n : Int)) ++ [V.ref p5] ++ cutV xs (some ((n : Int) + 1)) none)) := upd_same
      have np9 := (so17.ne ep9).symm
      have so18 := so17.same ss
      have B18 := B17.trans (ss.but st)
      have ha := ss _ _ ha
      have hp0 := ss _ _ hp0
      have hoo := ss _ _ hoo
      have hp1 := ss _ _ hp1
      have hp2 := ss _ _ hp2
      have hp3 := ss _ _ hp3
      have hp4 := ss _ _ hp4
      have hp5 := ss _ _ hp5
      have hp6 := ss _ _ hp6
      have hp7 := ss _ _ hp7
      have hp8 := ss _ _ hp8
      have hbw := ss.seq hbw
      clear ss
      generalize upd J17 p9 (.lst (cutV xs none (some (n : Int)) ++ [V.ref p5] ++ cutV xs (some ((n : Int) + 1)) none)) = J18 at hp9 so18 B18 ha hp0 hoo hp1 hp2 hp3 hp4 hp5 hp6 hp7 hp8 hbw ⊢
      have neww : LnX K J18 (m + 1) (c + 1) (.ref p5) := by
        refine ⟨p5, ws.take kk ++ os ++ ws.drop (kk + 1), rfl, SqL.of ?_, fun x hx => ?_, ?_⟩
        · rw [hp5]
          have q2 : cutV (ws.map V.str) (some ((kk : Int) + 1)) none = (ws.map V.str).drop (kk + 1) := cutV_from _ (kk + 1)
          rw [cutV_to, q2, List.map_append, List.map_append, List.map_take, List.map_drop]
        · rcases List.mem_append.mp hx with h | h
          · rcases List.mem_append.mp h with h | h
            · exact (hwx x (List.mem_of_mem_take h)).mono (Nat.le_succ _)
            · exact hox x h
          · exact (hwx x (List.mem_of_mem_drop h)).mono (Nat.le_succ _)
        · rw [List.length_append, List.length_append, List.length_take, List.length_drop]
          omega
      tm_at "go"
      refine q p9 _ _ B18 so18 hp9 (fun v hv => ?_) ?_
      · try simp only [List.mem_append, List.mem_cons, List.not_mem_nil, or_false] at hv
        have old : ∀ v, v ∈ xs → LnX K J18 (m + 1) (c + 1) v := fun v hv => ((hx v hv).but so B18).mono (Nat.le_succ _) (Nat.le_succ _)
        first
          | exact old v (cutV_mem hv)
          | (rcases hv with hv | hv <;> first | exact old v (cutV_mem hv) | (rw [hv]; exact neww))
          | (rcases hv with (hv | hv) | hv <;> first | exact old v (cutV_mem hv) | (rw [hv]; exact neww))
          | (rcases hv with ((hv | hv) | hv) | hv <;> first | exact old v (cutV_mem hv) | (rw [hv]; exact neww))
      · have q1 := cutV_to xs n
        have q2 := cutV_from xs n
        have q3 : cutV xs (some ((n : Int) + 1)) none = xs.drop (n + 1) := cutV_from xs (n + 1)
        have q4 : cutV xs (some ((n : Int) + 2)) none = xs.drop (n + 2) := cutV_from xs (n + 2)
        have q5 := cutV_mid xs n
        try rw [q1]
        try rw [q2]
        try rw [q3]
        try rw [q4]
        try simp only [List.length_append, List.length_cons, List.length_nil, List.length_take, List.length_drop]
        omega
    tm_at "go"
    refine fun p1 ep1 => ?_
    have ss : Same J1 (upd J1 p1 (.lst (cutV xs none (some (n : Int))))) := same_new ep1
    have hp1 : upd J1 p1 (.lst (cutV xs none (some (n : Int)))) p1 = some (.lst (cutV xs none (some (n : Int)))) := upd_same
    have np1 := (so1.ne ep1).symm
    have so2 := so1.same ss
    have B2 := B1.trans (ss.but st)
    have ha := ss _ _ ha
    have hp0 := ss _ _ hp0
    have hbw := ss.seq hbw
    clear ss
    generalize upd J1 p1 (.lst (cutV xs none (some (n : Int)))) = J2 at hp1 so2 B2 ha hp0 hbw ⊢
    tm_at "go"
    refine q p1 _ _ B2 so2 hp1 (fun v hv => ?_) ?_
    · try simp only [List.mem_append, List.mem_cons, List.not_mem_nil, or_false] at hv
      have old : ∀ v, v ∈ xs → LnX K J2 (m + 1) (c + 1) v := fun v hv => ((hx v hv).but so B2).mono (Nat.le_succ _) (Nat.le_succ _)
      first
        | exact old v (cutV_mem hv)
        | (rcases hv with hv | hv <;> first | exact old v (cutV_mem hv))
        | (rcases hv with (hv | hv) | hv <;> first | exact old v (cutV_mem hv))
        | (rcases hv with ((hv | hv) | hv) | hv <;> first | exact old v (cutV_mem hv))
    · have q1 := cutV_to xs n
      have q2 := cutV_from xs n
      have q3 : cutV xs (some ((n : Int) + 1)) none = xs.drop (n + 1) := cutV_from xs (n + 1)
      have q4 : cutV xs (some ((n : Int) + 2)) none = xs.drop (n + 2) := cutV_from xs (n + 2)
      have q5 := cutV_mid xs n
      try rw [q1]
      try rw [q2]
      try rw [q3]
      try rw [q4]
      try simp only [List.length_append, List.length_cons, List.length_nil, List.length_take, List.length_drop]
      omega
end
end C
set_option Elab.async false
set_option linter.all false
set_option pp.maxSteps 1500
set_option maxRecDepth 100000
set_option maxHeartbeats 4000000
namespace C
open PySem PySem.Spec PyProof.Rows L2 Kx M TL
local macro_rules | `(tactic| tm_at "same") => `(tactic| first
  | assumption
  | exact L2.Same.refl _
  | exact L2.Same.upd (by tm_at "same") (by tm_at "free")
  | exact sameTransR (by assumption) (by tm_at "same"))
local macro_rules | `(tactic| tm_at "free") => `(tactic| first
  | assumption
  | exact sameFreeR (by assumption) (by tm_at "same"))
local macro_rules | `(tactic| tm_at "but") => `(tactic| first
  | assumption
  | exact But.refl _ _
  | exact But.transR (by assumption) (by tm_at "but")
  | exact But.upd
  | exact But.self (by tm_at "but")
  | exact But.new1 (by tm_at "but") (by assumption)
  | exact But.new (by tm_at "but") (by tm_at "free")
  | exact L2.Same.but (by assumption) _)
local macro_rules | `(tactic| tm_at "fact") => `(tactic| first
  | exact upd_same
  | assumption
  | exact SqL.of upd_same
  | exact SqT.of upd_same
  | exact SqL.of (by assumption)
  | exact SqT.of (by assumption)
  | exact But.lstR (by assumption) (by assumption) (by tm_at "but"))
local macro_rules | `(tactic| tm_at "cond") => `(tactic| first
  | rfl
  | assumption
  | decide
  | omega
  | exact ⟨by decide, by decide⟩
  | exact .inr ⟨by decide, by decide⟩
  | exact .inl ⟨by decide, by decide⟩
  | exact ⟨by decide, by decide, by decide⟩
  | exact cdivw (by assumption) (by assumption)
  | exact log2_ok (by assumption)
  | exact Or.inl ⟨rfl, _, SqL.of upd_same⟩
  | exact Or.inl ⟨rfl, _, SqL.of (by assumption)⟩
  | exact ⟨_, rfl⟩
  | exact Nat.le_of_ble_eq_true rfl
  | exact small1000 (by omega))
local macro_rules | `(tactic| tm_at "prop") => `(tactic| first
  | assumption
  | omega)
local macro_rules | `(tactic| tm_at "s") => `(tactic| first
  | refine ⟨_, rfl, ?_⟩
  | refine ⟨_, _, rfl, rfl, ?_⟩
  | refine ⟨_, _, _, rfl, rfl, (by tm_at "fact"), (by tm_at "cond"), ?_⟩
  | refine ⟨_, _, _, _, rfl, rfl, (by tm_at "fact"), rfl, ?_⟩
  | refine ⟨_, _, rfl, (by tm_at "fact"), ?_⟩
  | refine And.intro (by tm_at "cond") ?_
  | refine .inl ⟨_, rfl, ?_⟩
  | refine ⟨_, _, rfl, .inl (by tm_at "fact"), ?_⟩
  | refine dec_false (by tm_at "prop") ?_
  | refine dec_true (by tm_at "prop") ?_
  | refine decN_false (by tm_at "prop") ?_
  | refine decN_true (by tm_at "prop") ?_
  | refine iteT ?_
  | refine iteF ?_
  | refine ⟨_, _, rfl, ?_⟩)
local macro_rules | `(tactic| tm_at "go") => `(tactic| repeat tm_at "s")

section
variable {P : Program} {w : World} {K : PySem.W.Frag} {mg : Str → Option Value} {base : Heap} {aH aR : Addr}
/-! ### the lines of a row: words of signs -/
theorem num_len32 {n : Nat} (h : n < 10 ^ 32) : (num n).length ≤ 32 := by
  rw [len_tl, tl_numS]
  exact numL_len (by decide) h
def PSm (p : Str × Int) : Prop := POk p ∧ p.1.length ≤ 11 ∧ p.2.natAbs < 10 ^ 32
theorem psm_terms {f : Form} (h : FOk f) (g : FSm f) : ∀ p ∈ terms f, PSm p := by
  have hp := terms_ok h
  intro p hm
  refine ⟨hp p hm, ?_⟩
  unfold terms at hm
  split at hm
  · rcases List.mem_append.mp hm with z | z
    · exact g.nm p z
    · rw [List.mem_singleton.mp z]
      exact ⟨Nat.zero_le _, g.cst⟩
  · exact g.nm p hm
theorem small33 : ∀ c ∈ 42 :: 43 :: 45 :: (nh ++ dg), 33 ≤ c ∧ c ≤ 126 := by decide +kernel
theorem wx_tm {p : Str × Int} (h : PSm p) : Wx 44 (tm p.1 p.2.natAbs) := by
  refine ⟨fun c hc => small33 c (by
    rcases tm_mem h.1 c hc with q | q | q
    · simp [q]
    · simp [q]
    · simp [q]), ?_⟩
  have h1 := num_len32 h.2.2
  have h2 := h.2.1
  unfold tm
  split
  · omega
  · split
    · omega
    · rw [M.len_app, M.len_app]
      have e : (S "*").length = 1 := by decide +kernel
      omega
theorem wx_pm (n : Int) : Wx 44 (pm n) := by
  unfold pm
  split
  · exact ⟨by decide +kernel, by decide +kernel⟩
  · exact ⟨by decide +kernel, by decide +kernel⟩
theorem wx_sgtm {p : Str × Int} (h : PSm p) : Wx 45 (M.sg p.2 ++ tm p.1 p.2.natAbs) := by
  have h1 := wx_tm h
  refine ⟨fun c hc => ?_, ?_⟩
  · rw [tl_append] at hc
    rcases List.mem_append.mp hc with q | q
    · unfold M.sg at q
      split at q
      · rw [tl_minus, List.mem_singleton] at q
        omega
      · cases q
    · exact h1.1 c q
  · rw [M.len_app]
    have h2 := h1.2
    have h3 := sg_len p.2
    omega
theorem wx_wdl : ∀ {l : List (Str × Int)}, (∀ p ∈ l, PSm p) → ∀ w ∈ wdl l, Wx 45 w
  | [], _, _, hw => by cases hw
  | p :: r, h, w, hw => by
    rcases List.mem_cons.mp hw with e | e
    · subst e
      exact (wx_pm _).mono (by decide)
    · rcases List.mem_cons.mp e with e | e
      · subst e
        exact (wx_tm (h p (List.mem_cons_self ..))).mono (by decide)
      · exact wx_wdl (fun q hq => h q (List.mem_cons_of_mem _ hq)) w e
theorem wx_wd {f : Form} (h : FOk f) (g : FSm f) : ∀ x ∈ wd f, Wx 45 x := by
  have hp := psm_terms h g
  unfold wd
  generalize terms f = l at hp
  cases l with
  | nil =>
    intro x hx
    cases hx
  | cons p r =>
    intro x hx
    rcases List.mem_cons.mp hx with e | e
    · subst e
      exact wx_sgtm (hp p (List.mem_cons_self ..))
    · exact wx_wdl (fun q hq => hp q (List.mem_cons_of_mem _ hq)) x e
theorem wd_cnt {f : Form} (g : FSm f) : (wd f).length ≤ 11 := by
  have h1 := wd_len (f := f)
  have h2 := g.len
  have h3 : (terms f).length ≤ f.2.length + 1 := by
    unfold terms
    split
    · rw [List.length_append]
      exact Nat.le_refl _
    · omega
  omega
theorem wx_form {hd : Str} (h1 : Wx 45 hd) {f : Form} (hf : FOk f) (g : FSm f) : (∀ x ∈ fW hd f, Wx 45 x) ∧ (fW hd f).length ≤ 12 := by
  refine ⟨fun x hx => ?_, ?_⟩
  · rcases List.mem_cons.mp hx with e | e
    · rw [e]
      exact h1
    · exact wx_wd hf g x e
  · have := wd_cnt g
    show (wd f).length + 1 ≤ 12
    omega
theorem wx_pair {hd : Str} (h1 : Wx 45 hd) {p : Str × Str} (hp : Wd p.1 ∧ Wd p.2) : (∀ x ∈ pW hd p, Wx 45 x) ∧ (pW hd p).length ≤ 12 := by
  refine ⟨fun x hx => ?_, Nat.le_of_ble_eq_true rfl⟩
  simp only [pW, List.mem_cons, List.not_mem_nil, or_false] at hx
  rcases hx with rfl | rfl | rfl
  · exact h1
  · exact hp.1.wx.mono (by decide)
  · exact hp.2.wx.mono (by decide)
def wxb (x : Str) : Bool := (tl x).all (fun c => decide (33 ≤ c) && decide (c ≤ 126)) && decide (x.length ≤ 45)
theorem wxb_of {x : Str} (h : wxb x = true) : Wx 45 x := by
  unfold wxb at h
  rw [Bool.and_eq_true] at h
  refine ⟨fun c hc => ?_, of_decide_eq_true h.2⟩
  have h2 := List.all_eq_true.mp h.1 c hc
  rw [Bool.and_eq_true] at h2
  exact ⟨of_decide_eq_true h2.1, of_decide_eq_true h2.2⟩
theorem wx_row {r : M.Row} (h : r.Ok) : ∀ ws ∈ rowW r, (∀ x ∈ ws, Wx 45 x) ∧ ws.length ≤ 12 := by
  intro ws hw
  unfold rowW at hw
  simp only [List.mem_append, List.mem_map, List.mem_singleton] at hw
  rcases hw with ((((((rfl | ⟨f, hf, rfl⟩) | ⟨p, hp, rfl⟩) | ⟨f, hf, rfl⟩) | ⟨p, hp, rfl⟩) | ⟨f, hf, rfl⟩) | hw) | rfl
  · refine ⟨fun x hx => ?_, Nat.le_of_ble_eq_true rfl⟩
    simp only [List.mem_cons, List.not_mem_nil, or_false] at hx
    rcases hx with rfl | rfl | rfl | rfl
    · exact wxb_of (by decide +kernel)
    · exact h.wa.wx.mono (by decide)
    · exact wxb_of (by decide +kernel)
    · exact h.wb.wx.mono (by decide)
  · exact wx_form (wxb_of (by decide +kernel)) (h.g f hf) (h.sm f (.inl hf))
  · exact wx_pair (wxb_of (by decide +kernel)) (h.s p hp)
  · exact wx_form (wxb_of (by decide +kernel)) (h.a' f hf) (h.sm f (.inr (.inl hf)))
  · exact wx_pair (wxb_of (by decide +kernel)) (h.k p hp)
  · exact wx_form (wxb_of (by decide +kernel)) (h.h f hf) (h.sm f (.inr (.inr hf)))
  · by_cases ha : r.rule = S "any"
    · rw [if_pos ha] at hw
      cases hw
    · rw [if_neg ha, List.mem_singleton] at hw
      subst hw
      have h7 : r.rule ∈ rules7 := by
        rcases List.mem_append.mp h.ru with z | z
        · exact z
        · refine absurd ?_ ha
          simp only [List.mem_cons, List.not_mem_nil, or_false] at z
          rcases z with z | z | z <;> exact z
      have hh : ∀ z ∈ rules7, (Txt.split z (S " ")).length ≤ 5 ∧ ∀ x ∈ S "walk" :: Txt.split z (S " "), wxb x = true := by decide +kernel
      obtain ⟨h1, h2⟩ := hh _ h7
      refine ⟨fun x hx => wxb_of (h2 x hx), ?_⟩
      rw [List.length_cons]
      omega
  · refine ⟨fun x hx => ?_, Nat.le_of_ble_eq_true rfl⟩
    rw [List.mem_singleton] at hx
    subst hx
    exact wxb_of (by decide +kernel)
theorem wls_lnx {H : Hp} : ∀ {vs : List V} {W : List (List Str)} {m c : Nat}, Wls K H vs W → (∀ ws ∈ W, (∀ x ∈ ws, Wx m x) ∧ ws.length ≤ c) → ∀ v ∈ vs, LnX K H m c v
  | _, _, _, _, .nil, _, _, h => by cases h
  | _, _, _, _, .cons (b := b) (ws := ws) n a r, h, v, hv => by
    rcases List.mem_cons.mp hv with e | e
    · have := h ws (List.mem_cons_self ..)
      exact ⟨b, ws, e, a, this.1, this.2⟩
    · exact wls_lnx r (fun z hz => h z (List.mem_cons_of_mem _ hz)) v e
end
end C
set_option Elab.async false
set_option linter.all false
set_option pp.maxSteps 1500
set_option maxRecDepth 100000
set_option maxHeartbeats 4000000
namespace C
open PySem PySem.Spec PyProof.Rows L2 Kx M TL
local macro_rules | `(tactic| tm_at "same") => `(tactic| first
  | assumption
  | exact L2.Same.refl _
  | exact L2.Same.upd (by tm_at "same") (by tm_at "free")
  | exact sameTransR (by assumption) (by tm_at "same"))
local macro_rules | `(tactic| tm_at "free") => `(tactic| first
  | assumption
  | exact sameFreeR (by assumption) (by tm_at "same"))
local macro_rules | `(tactic| tm_at "but") => `(tactic| first
  | assumption
  | exact But.refl _ _
  | exact But.transR (by assumption) (by tm_at "but")
  | exact But.upd
  | exact But.self (by tm_at "but")
  | exact But.new1 (by tm_at "but") (by assumption)
  | exact But.new (by tm_at "but") (by tm_at "free")
  | exact L2.Same.but (by assumption) _)
local macro_rules | `(tactic| tm_at "fact") => `(tactic| first
  | exact upd_same
  | assumption
  | exact SqL.of upd_same
  | exact SqT.of upd_same
  | exact SqL.of (by assumption)
  | exact SqT.of (by assumption)
  | exact But.lstR (by assumption) (by assumption) (by tm_at "but"))
local macro_rules | `(tactic| tm_at "cond") => `(tactic| first
  | rfl
  | assumption
  | decide
  | omega
  | exact ⟨by decide, by decide⟩
  | exact .inr ⟨by decide, by decide⟩
  | exact .inl ⟨by decide, by decide⟩
  | exact ⟨by decide, by decide, by decide⟩
  | exact cdivw (by assumption) (by assumption)
  | exact log2_ok (by assumption)
  | exact Or.inl ⟨rfl, _, SqL.of upd_same⟩
  | exact Or.inl ⟨rfl, _, SqL.of (by assumption)⟩
  | exact ⟨_, rfl⟩
  | exact Nat.le_of_ble_eq_true rfl
  | exact small1000 (by omega))
local macro_rules | `(tactic| tm_at "prop") => `(tactic| first
  | assumption
  | omega)
local macro_rules | `(tactic| tm_at "s") => `(tactic| first
  | refine ⟨_, rfl, ?_⟩
  | refine ⟨_, _, rfl, rfl, ?_⟩
  | refine ⟨_, _, _, rfl, rfl, (by tm_at "fact"), (by tm_at "cond"), ?_⟩
  | refine ⟨_, _, _, _, rfl, rfl, (by tm_at "fact"), rfl, ?_⟩
  | refine ⟨_, _, rfl, (by tm_at "fact"), ?_⟩
  | refine And.intro (by tm_at "cond") ?_
  | refine .inl ⟨_, rfl, ?_⟩
  | refine ⟨_, _, rfl, .inl (by tm_at "fact"), ?_⟩
  | refine dec_false (by tm_at "prop") ?_
  | refine dec_true (by tm_at "prop") ?_
  | refine decN_false (by tm_at "prop") ?_
  | refine decN_true (by tm_at "prop") ?_
  | refine iteT ?_
  | refine iteF ?_
  | refine ⟨_, _, rfl, ?_⟩)
local macro_rules | `(tactic| tm_at "go") => `(tactic| repeat tm_at "s")

section
variable {P : Program} {w : World} {K : PySem.W.Frag} {mg : Str → Option Value} {base : Heap} {aH aR : Addr}
/-! ### the rows that are read can be compared -/
structure NR (n : Nat) (s : RS) : Prop where
  rows : ∀ d ∈ s.rows, Nice 7 d
  rl : s.rows.length ≤ n
  cont : ∀ c ∈ s.cont, c.length ≤ n ∧ ∀ d ∈ c, Nice 4 d
theorem NR.get {n : Nat} {s : RS} (h : NR n s) (j : Nat) : (s.cont.getD j []).length ≤ n ∧ ∀ d ∈ s.cont.getD j [], Nice 4 d := by
  rw [List.getD_eq_getElem?_getD]
  cases e : s.cont[j]? with
  | none => exact ⟨Nat.zero_le _, fun d hd => by cases hd⟩
  | some c => exact h.cont c (List.mem_of_getElem? e)
theorem NR.push {n : Nat} {s : RS} (h : NR n s) (j : Nat) {d : PyData} (hd : Nice 4 d) : NR (n + 1) (pushS s j d) := by
  refine ⟨h.rows, Nat.le_succ_of_le h.rl, fun c hc => ?_⟩
  have hc : c ∈ s.cont.set j (s.cont.getD j [] ++ [d]) := hc
  rcases List.mem_or_eq_of_mem_set hc with z | z
  · have := h.cont c z
    exact ⟨Nat.le_succ_of_le this.1, this.2⟩
  · have := h.get j
    rw [z]
    refine ⟨by rw [List.length_append]; exact Nat.succ_le_succ this.1, fun e he => ?_⟩
    rcases List.mem_append.mp he with y | y
    · exact this.2 e y
    · rw [List.mem_singleton.mp y]
      exact hd
theorem Nice.up {n : Nat} {d : PyData} (h : Nice n d) : Nice (n + 1) d := ⟨h.sok, h.few, Nat.le_succ_of_le h.dep⟩
theorem step_nr {n : Nat} {s s' : RS} {ws : List Str} (hn : n ≤ 500) (h : NR n s) (e : step s ws = some s') : NR (n + 1) s' := by
  unfold step at e
  cases hnm : s.names with
  | none =>
    rw [hnm] at e
    dsimp only at e
    split at e
    · cases e
      refine ⟨h.rows, Nat.le_succ_of_le h.rl, fun c hc => ?_⟩
      have hc : c ∈ List.replicate 6 ([] : List PyData) := hc
      rw [(List.mem_replicate.mp hc).2]
      exact ⟨Nat.zero_le _, fun d hd => by cases hd⟩
    · cases e
  | some nm =>
    rw [hnm] at e
    dsimp only at e
    split at e
    · cases e
      have tp : ∀ j, Nice 5 (.tuple (s.cont.getD j [])) := fun j => by
        have := h.get j
        exact .tup this.2 (by omega)
      refine ⟨fun d hd => ?_, ?_, fun c hc => ?_⟩
      · have hd : d ∈ s.rows ++ [rowD nm.1 nm.2 (s.cont.getD 0 []) (s.cont.getD 1 []) (s.cont.getD 2 []) (s.cont.getD 3 []) (s.cont.getD 4 []) (ruleD (s.cont.getD 5 []))] := hd
        rcases List.mem_append.mp hd with z | z
        · exact h.rows d z
        · rw [List.mem_singleton.mp z]
          refine .tup (fun x hx => ?_) (Nat.le_of_ble_eq_true rfl)
          simp only [List.mem_cons, List.not_mem_nil, or_false] at hx
          rcases hx with rfl | rfl | rfl
          · refine .tup (fun x hx => ?_) (Nat.le_of_ble_eq_true rfl)
            simp only [List.mem_cons, List.not_mem_nil, or_false] at hx
            rcases hx with rfl | rfl | rfl | rfl | rfl | rfl
            · exact .str _ _
            · exact .str _ _
            · exact tp 0
            · exact tp 1
            · exact tp 2
            · exact tp 3
          · exact (tp 4).up
          · exact .str _ _
      · show (s.rows ++ [_]).length ≤ n + 1
        rw [List.length_append]
        exact Nat.succ_le_succ h.rl
      · have := h.cont c hc
        exact ⟨Nat.le_succ_of_le this.1, this.2⟩
    · cases ws with
      | nil => cases e
      | cons hd r =>
        dsimp only at e
        cases hj : ix hd with
        | none =>
          rw [hj] at e
          cases e
        | some j =>
          rw [hj] at e
          have e : partS s j r = some s' := e
          unfold partS at e
          split at e
          · cases e
          split at e
          · split at e
            · cases e
              exact h.push _ (nice_q 2 _)
            · cases e
          split at e
          · split at e
            · cases e
              exact h.push _ (.str 3 _)
            · cases e
          · cases hp : prs r with
            | none =>
              rw [hp] at e
              cases e
            | some f =>
              rw [hp] at e
              cases e
              exact h.push _ (nice_f 0 (prs_some hp).1)
theorem runL_nr : ∀ (W : List (List Str)) {s s' : RS} {n k : Nat}, n + W.length ≤ 500 → NR n s → runL s k W = .inr s' → NR (n + W.length) s'
  | [], s, s', n, k, _, h, e => by
    rw [runL] at e
    cases e
    exact h
  | ws :: r, s, s', n, k, hn, h, e => by
    rw [List.length_cons] at hn
    have e0 : n + (ws :: r).length = (n + 1) + r.length := by
      rw [List.length_cons]
      omega
    rw [e0]
    by_cases hw : ws = []
    · subst hw
      rw [runL_nil] at e
      exact runL_nr r (by omega) ⟨h.rows, Nat.le_succ_of_le h.rl, fun c hc => ⟨Nat.le_succ_of_le (h.cont c hc).1, (h.cont c hc).2⟩⟩ e
    · cases hs : step s ws with
      | none =>
        rw [runL_none hw hs] at e
        cases e
      | some s1 =>
        rw [runL_some hw hs] at e
        exact runL_nr r (by omega) (step_nr (by omega) h hs) e
theorem readR_nice {W : List (List Str)} {rows : List PyData} (h : readR W = .inr rows) (hw : W.length ≤ 400) : Nice 9 (.tuple [.str (S "rows"), .tuple rows]) := by
  unfold readR at h
  cases e : runL s0 0 W with
  | inl k =>
    rw [e] at h
    cases h
  | inr s =>
    rw [e] at h
    dsimp only at h
    have hr := runL_nr W (n := 0) (by omega) ⟨fun d hd => (by cases hd), Nat.le_refl _, fun c hc => (by cases hc)⟩ e
    cases hnm : s.names with
    | none =>
      rw [hnm] at h
      cases h
      refine .tup (fun x hx => ?_) (Nat.le_of_ble_eq_true rfl)
      simp only [List.mem_cons, List.not_mem_nil, or_false] at hx
      rcases hx with rfl | rfl
      · exact .str _ _
      · exact .tup hr.rows (by
          have := hr.rl
          omega)
    | some nm =>
      rw [hnm] at h
      cases h
theorem line_nice (k : Nat) : Nice 9 (.tuple [.str (S "line"), .int (k : Int)]) := .tup (fun x hx => by
  simp only [List.mem_cons, List.not_mem_nil, or_false] at hx
  rcases hx with rfl | rfl
  · exact .str _ _
  · exact .int _ _) (Nat.le_of_ble_eq_true rfl)
end
end C
set_option Elab.async false
set_option linter.all false
set_option pp.maxSteps 1500
set_option maxRecDepth 100000
set_option maxHeartbeats 4000000
namespace C
open PySem PySem.Spec PyProof.Rows L2 Kx M TL
local macro_rules | `(tactic| tm_at "same") => `(tactic| first
  | assumption
  | exact L2.Same.refl _
  | exact L2.Same.upd (by tm_at "same") (by tm_at "free")
  | exact sameTransR (by assumption) (by tm_at "same"))
local macro_rules | `(tactic| tm_at "free") => `(tactic| first
  | assumption
  | exact sameFreeR (by assumption) (by tm_at "same"))
local macro_rules | `(tactic| tm_at "but") => `(tactic| first
  | assumption
  | exact But.refl _ _
  | exact But.transR (by assumption) (by tm_at "but")
  | exact But.upd
  | exact But.self (by tm_at "but")
  | exact But.new1 (by tm_at "but") (by assumption)
  | exact But.new (by tm_at "but") (by tm_at "free")
  | exact L2.Same.but (by assumption) _)
local macro_rules | `(tactic| tm_at "fact") => `(tactic| first
  | exact upd_same
  | assumption
  | exact SqL.of upd_same
  | exact SqT.of upd_same
  | exact SqL.of (by assumption)
  | exact SqT.of (by assumption)
  | exact But.lstR (by assumption) (by assumption) (by tm_at "but"))
local macro_rules | `(tactic| tm_at "cond") => `(tactic| first
  | rfl
  | assumption
  | decide
  | omega
  | exact ⟨by decide, by decide⟩
  | exact .inr ⟨by decide, by decide⟩
  | exact .inl ⟨by decide, by decide⟩
  | exact ⟨by decide, by decide, by decide⟩
  | exact cdivw (by assumption) (by assumption)
  | exact log2_ok (by assumption)
  | exact Or.inl ⟨rfl, _, SqL.of upd_same⟩
  | exact Or.inl ⟨rfl, _, SqL.of (by assumption)⟩
  | exact ⟨_, rfl⟩
  | exact Nat.le_of_ble_eq_true rfl
  | exact small1000 (by omega))
local macro_rules | `(tactic| tm_at "prop") => `(tactic| first
  | assumption
  | omega)
local macro_rules | `(tactic| tm_at "s") => `(tactic| first
  | refine ⟨_, rfl, ?_⟩
  | refine ⟨_, _, rfl, rfl, ?_⟩
  | refine ⟨_, _, _, rfl, rfl, (by tm_at "fact"), (by tm_at "cond"), ?_⟩
  | refine ⟨_, _, _, _, rfl, rfl, (by tm_at "fact"), rfl, ?_⟩
  | refine ⟨_, _, rfl, (by tm_at "fact"), ?_⟩
  | refine And.intro (by tm_at "cond") ?_
  | refine .inl ⟨_, rfl, ?_⟩
  | refine ⟨_, _, rfl, .inl (by tm_at "fact"), ?_⟩
  | refine dec_false (by tm_at "prop") ?_
  | refine dec_true (by tm_at "prop") ?_
  | refine decN_false (by tm_at "prop") ?_
  | refine decN_true (by tm_at "prop") ?_
  | refine iteT ?_
  | refine iteF ?_
  | refine ⟨_, _, rfl, ?_⟩)
local macro_rules | `(tactic| tm_at "go") => `(tactic| repeat tm_at "s")

section
variable {P : Program} {w : World} {K : PySem.W.Frag} {mg : Str → Option Value} {base : Heap} {aH aR : Addr}
/-! ### the law -/
def spLaw (K : PySem.W.Frag) : Sp := fun vs H Q _ => ∃ (a : Addr) (ns : List Int), vs = [.ref a] ∧ SqL K H a (ns.map V.int) ∧ ns.length ≤ 63 ∧ ∀ H', Q (.bl true) H'
theorem _root_.Kx.StOk.but_lst {H H' : Hp} {st l a : Addr} {ss : List Str} (o : StOk K H st l) (b : But st H H') (h : H a = some (.lst (ss.map V.str))) : H' a = some (.lst (ss.map V.str)) := by
  obtain ⟨i, j, k, ns, hst, _⟩ := o
  refine b _ _ (fun e => ?_) h
  subst e
  rw [hst] at h
  injection h with h
  injection h with h
  cases ss with
  | nil => cases h
  | cons x r => cases h
/-- a line's text -/
structure TLn (T : Str) : Prop where
  len : T.length ≤ 20000
  tx : TX T
  lw : LW (Txt.words T)
theorem TLn.of {T : Str} {ws : List Str} (h1 : T.length ≤ 20000) (h2 : TX T) (h3 : Txt.words T = ws.filter neS) (hw : ∀ x ∈ ws, Wx 56 x) (hl : ws.length ≤ 39) : TLn T := by
  refine ⟨h1, h2, ?_, ?_⟩
  · intro x hx
    rw [h3] at hx
    obtain ⟨m1, m2⟩ := List.mem_filter.mp hx
    have hne : x ≠ Str.empty := fun z => by
      unfold neS at m2
      rw [decide_eq_true z] at m2
      cases m2
    exact ⟨(hw x m1).clean hne, (hw x m1).2, (hw x m1).ok⟩
  · rw [h3]
    exact Nat.le_trans (List.length_filter_le _ _) hl
theorem TLn.blanks {n : Nat} (h : n ≤ 100) : TLn (Txt.mul (S " ") (n : Int)) := by
  refine ⟨by rw [len_blank]; omega, TX.blanks n, ?_⟩
  rw [(Spc.start n True).words]
  exact ⟨fun x hx => (by cases hx), Nat.zero_le _⟩
theorem TLn.empty : TLn (S "") := by
  have e : Txt.mul (S " ") ((0 : Nat) : Int) = S "" := rfl
  rw [← e]
  exact TLn.blanks (Nat.zero_le _)
theorem nl_split {ls : List Str} (h : ∀ x ∈ ls, TLn x) (hl : ls.length ≤ 96) : (Txt.split (Txt.join (S "\n") ls) (S "\n")).length ≤ 97 ∧ (∀ x ∈ Txt.split (Txt.join (S "\n") ls) (S "\n"), TLn x) := by
  have e10 : tl (S "\n") = [10] := by decide +kernel
  cases ls with
  | nil =>
    have e : Txt.split (Txt.join (S "\n") []) (S "\n") = [S ""] := by decide +kernel
    rw [e]
    refine ⟨by decide, fun x hx => ?_⟩
    rw [List.mem_singleton.mp hx]
    exact TLn.empty
  | cons a r =>
    have e : Txt.split (Txt.join (S "\n") (a :: r)) (S "\n") = a :: r := split_join (s := 10) (S := []) e10 (by decide +kernel) (List.cons_ne_nil _ _) fun p hp => (h p hp).tx.nl
    rw [e]
    exact ⟨by omega, h⟩
theorem nl_len {ls : List Str} (h : ∀ x ∈ ls, TLn x) (hl : ls.length ≤ 96) : (Txt.join (S "\n") ls).length ≤ 2000000 := by
  rw [join_eq]
  have h1 := join_len (S "\n") ls
  have h2 := sum_le (b := 20000) fun x hx => (h x hx).len
  have e : (S "\n").length = 1 := by decide +kernel
  rw [e] at h1
  omega
theorem rep_flat (n : Nat) (v : V) : (List.replicate n [v]).flatten = List.replicate n v := by
  induction n with
  | zero => rfl
  | succ n ih =>
    rw [List.replicate_succ, List.flatten_cons, ih, List.replicate_succ]
    rfl
theorem sc_law : FnScope ["script", "state", "lines", "k", "turn", "texts", "words", "text", "due", "found", "e"] ["script"] (defScope s_law) := ⟨rfl, rfl, rfl, by decide +kernel, rfl, by decide +kernel, by decide +kernel⟩
theorem ok_law {k : Nat} {f : Addr} {fd : FuncData} {cBL cDE cBT cBC : Addr} (F : Fun K "law" "law" s_law f fd) (B : Bi mg)
    (gBL : mg "BadLine" = some (.ref cBL)) (g_DifferwithinError : mg "DifferwithinError" = some (.ref cDE)) (g_BadText : mg "BadText" = some (.ref cBT)) (g_BadClaim : mg "BadClaim" = some (.ref cBC))
    (TX : XfC K cBL) (EX : ExcC K cBL) (hnoL : PySem.W.findIn K (.ref cBL) "line" = some none) (mBL : PySem.W.exmOne K (.ref cBL) (.ref cBL) = some true)
    (kDE : PySem.W.kitOne K (.ref cBL) (.ref cDE) = some true) (kBT : PySem.W.kitOne K (.ref cBL) (.ref cBT) = some false) (kBC : PySem.W.kitOne K (.ref cBL) (.ref cBC) = some false)
    (c__law_start : Cal P w K mg base CX0 k "_law_start" ["script"] (spStart K)) (c__law_draw : Cal P w K mg base CX0 k "_law_draw" ["state", "most"] (spDraw K))
    (c__law_some_row : Cal P w K mg base CX0 k "_law_some_row" ["state"] (spRow K)) (c__law_row_lines : Cal P w K mg base CX0 k "_law_row_lines" ["row"] (spLines K))
    (c__law_spoilt : Cal P w K mg base CX0 k "_law_spoilt" ["state", "lines"] (spSpoilt K)) (c__law_spaced : Cal P w K mg base CX0 k "_law_spaced" ["state", "words"] (spSpacedX K)) (c__law_read : Cal P w K mg base CX0 k "_law_read" ["lines"] (spLRead K))
    (x_read_claims : Cal P w K mg base (L2.CX P w) k "read_claims" ["text"] (spReadCX K cBL)) (c__law_same : Cal P w K mg base CX0 k "_law_same" ["x", "y"] (spSame K 9)) : FnOk P w K mg base CX0 (k + 1) f fd ["script"] (spLaw K) := by
  refine F.ok sc_law (fun vs H Q E h => ?_) (fun cdv A outer s H vs Q E hr h => ?_)
  · obtain ⟨a, ns, rfl, _⟩ := h
    rfl
  · obtain ⟨a, ns, rfl, ha, hns, q⟩ := h
    have nd := sc_law.nd
    refine ⟨_, (pss_cons (ps_set (i := 1) nd rfl (Or.inr rfl) (pe_cal c__law_start (Room.mono hr (by omega)) (by rfl) (pa_cons (pv 0) pa_nil)))
      (pss_cons (ps_set (i := 2) nd rfl (Or.inl rfl) (pe_lst pa_nil))
      (pss_cons (ps_for PassesOwn.never rfl (pi_range1 (by rfl) B.range (pa_cons (pe_cal c__law_draw (Room.mono hr (by omega)) (by rfl) (pa_cons (pv 1) (pa_cons pe_int pa_nil))) pa_nil)) (pg_name (i := 3) nd rfl (Or.inl rfl))
        (pss_one (ps_set (i := 2) nd rfl (Or.inl rfl) (pe_op op_cat (pv 2) (pe_cal c__law_row_lines (Room.mono hr (by omega)) (by rfl) (pa_cons (pe_cal c__law_some_row (Room.mono hr (by omega)) (by rfl) (pa_cons (pv 1) pa_nil)) pa_nil))))))
      (pss_cons (ps_for PassesOwn.never rfl (pi_range1 (by rfl) B.range (pa_cons (pe_op op_add pe_int (pe_cal c__law_draw (Room.mono hr (by omega)) (by rfl) (pa_cons (pv 1) (pa_cons pe_int pa_nil)))) pa_nil)) (pg_name (i := 4) nd rfl (Or.inl rfl))
        (pss_one (ps_set (i := 2) nd rfl (Or.inl rfl) (pe_cal c__law_spoilt (Room.mono hr (by omega)) (by rfl) (pa_cons (pv 1) (pa_cons (pv 2) pa_nil))))))
      (pss_cons (ps_set (i := 5) nd rfl (Or.inl rfl) (pe_lst pa_nil))
      (pss_cons (ps_for PassesOwn.never rfl (pi_list (pv 2)) (pg_name (i := 6) nd rfl (Or.inl rfl))
        (pss_cons (ps_set (i := 5) nd rfl (Or.inl rfl) (pe_op op_cat (pv 5) (pe_lc (own := [("k", 3)]) (by rfl) nd (pi_range1 (by rfl) B.range (pa_cons (pe_callTy call_int1 (by rfl) B.int (by decide +kernel) (pa_cons (pe_cmpR op_eq (pe_cal c__law_draw (Room.mono hr (by omega)) (by rfl) (pa_cons (pv 1) (pa_cons pe_int pa_nil))) pe_int (nomark _)) pa_nil)) pa_nil)) (blkOk_by (own := [("k", 3)]) (N := ["script", "state", "lines", "k", "turn", "texts", "words", "text", "due", "found", "e"]) (sc := defScope s_law) (by decide +kernel)) (fun _ _ _ _ _ => (pg_name (i := 3) nd rfl (Or.inl rfl))) (fun _ _ _ _ _ => pts_nil) (fun _ _ _ _ _ => (pe_op op_repS pe_str (pe_cal c__law_draw (Room.mono hr (by omega)) (by rfl) (pa_cons (pv 1) (pa_cons pe_int pa_nil))))))))
        (pss_one (ps_expr (pe_bm PySem.F.plainAttrs_list PySem.F.slot_list_append PySem.F.type_list_append mt_append (pv 5) (pa_cons (pe_cal c__law_spaced (Room.mono hr (by omega)) (by rfl) (pa_cons (pv 1) (pa_cons (pv 6) pa_nil))) pa_nil))))))
      (pss_cons (ps_set (i := 5) nd rfl (Or.inl rfl) (pe_op op_cat (pv 5) (pe_op op_rep (pe_lst (pa_cons pe_str pa_nil)) (pe_cal c__law_draw (Room.mono hr (by omega)) (by rfl) (pa_cons (pv 1) (pa_cons pe_int pa_nil))))))
      (pss_cons (ps_set (i := 7) nd rfl (Or.inl rfl) (pe_join pe_str (pv 5)))
      (pss_cons (ps_set (i := 8) nd rfl (Or.inl rfl) (pe_cal c__law_read (Room.mono hr (by omega)) (by rfl) (pa_cons (pe_split (pv 7) pe_str) pa_nil)))
      (pss_cons (ps_set (i := 9) nd rfl (Or.inl rfl) (pe_tup pa_nil))
      (pss_cons (ps_try_as (i := 10) rfl rfl nd rfl rfl ⟨rfl, by decide, .inl gBL⟩ takes0 (fun W pn xe tk _ => (pss_one (ps_set (i := 9) nd rfl (Or.inl rfl) (pe_tup (pa_cons pe_str (pa_cons (pe_calX x_read_claims (Room.mono hr (by omega)) (by rfl) tk (pa_cons (pv 7) pa_nil)) pa_nil)))))) (fun a oe cls d pn hz hf => (pss_cons (ps_if (PW.pt (pw_or (pt_not (pt_val (pe_callB (call_isEX hz hf) (by rfl) B.isinstance (by decide +kernel) (pa_cons (pv 10) (pa_cons (pe_globR (by rfl) g_DifferwithinError) pa_nil))))) (pw_or (pt_val (pe_callB (call_isEX hz hf) (by rfl) B.isinstance (by decide +kernel) (pa_cons (pv 10) (pa_cons (pe_globR (by rfl) g_BadText) pa_nil)))) (pw_or1 (pt_val (pe_callB (call_isEX hz hf) (by rfl) B.isinstance (by decide +kernel) (pa_cons (pv 10) (pa_cons (pe_globR (by rfl) g_BadClaim) pa_nil))))))))
          (pss_one (ps_ret pe_bl))
          pss_nil)
        (pss_one (ps_set (i := 9) nd rfl (Or.inl rfl) (pe_tup (pa_cons pe_str (pa_cons (pe_xf TX hnoL hz hf (pv 10)) pa_nil))))))))
      (pss_one (ps_ret (pe_cal c__law_same (Room.mono hr (by omega)) (by rfl) (pa_cons (pv 9) (pa_cons (pv 8) pa_nil)))))))))))))))), ?_⟩
    have big : (100000 : Nat) ≤ sizeLine := by decide
    refine ⟨_, rfl, a, ns, rfl, ha, fun st l H1 s1 nst so1 => ?_⟩
    clear ha s1 nst
    tm_at "go"
    refine fun l0 nl0 => ?_
    have so2 := so1.new (x := .lst []) nl0
    have hl2 : upd H1 l0 (.lst []) l0 = some (.lst []) := upd_same
    generalize upd H1 l0 (.lst []) = H2 at so2 hl2 ⊢
    clear so1 nl0 H1
    tm_at "go"
    refine ⟨st, l, 4, rfl, so2, by decide, by decide, fun r H3 r0 r1 b3 so3 => ?_⟩
    have hl3 := so2.but_lst (ss := []) b3 hl2
    clear hl2 b3 so2 H2
    obtain ⟨nr, rfl⟩ : ∃ nr : Nat, r = (nr : Int) := ⟨r.toNat, by omega⟩
    refine ⟨_, rfl, by omega, by omega, ?_⟩
    refine for_it walk_range (fun i σ H' => ∃ (lp : Addr) (xs : List V) (v3 : Option V), σ = [some (.ref a), some (.ref st), some (.ref lp), v3, none, none, none, none, none, none, none] ∧ StOk K H' st l ∧ H' lp = some (.lst xs) ∧ (∀ v ∈ xs, LnX K H' 45 12 v) ∧ xs.length ≤ 15 * i)
      ⟨l0, [], none, rfl, so3, hl3, fun v hv => (by cases hv), Nat.le_refl _⟩ (fun _ _ _ _ _ => trivial) ?_ ?_
    · rintro i v σ Hx Hy hlt ⟨lp, xs, v3, rfl, sox, hlp, hxs, hxl⟩ ⟨rfl, rfl⟩
      tm_at "go"
      refine fun r v H3 hr hv b3 so3 => ?_
      have nlp := lnx_ne sox hlp hxs
      have hlp3 := b3 _ _ nlp hlp
      have hxs3 : ∀ v ∈ xs, LnX K H3 45 12 v := fun v hv => (hxs v hv).but sox b3
      refine ⟨v, r, rfl, hv, hr, fun wl ws H4 s4 nwl hwl hW => ?_⟩
      have wc := row_count hr
      have hwn := hW.length
      refine ⟨lp, wl, _, _, rfl, rfl, s4 _ _ hlp3, hwl, ?_, fun p np => ?_⟩
      · omega
      have s5 : Same H4 (upd H4 p (.lst (xs ++ ws))) := same_new np
      refine ⟨p, xs ++ ws, _, rfl, (so3.same s4).same s5, upd_same, fun v hv => ?_, ?_⟩
      · rcases List.mem_append.mp hv with m | m
        · exact ((hxs3 v m).same s4).same s5
        · exact (wls_lnx hW (wx_row hr) v m).same s5
      · rw [List.length_append]
        omega
    · rintro σ H4 ⟨lp, xs, v3, rfl, so4, hlp, hxs, hxl⟩
      have hxl : xs.length ≤ 45 := by omega
      tm_at "go"
      refine ⟨st, l, 2, rfl, so4, by decide, by decide, fun r5 H5 r50 r51 b5 so5 => ?_⟩
      have nlp := lnx_ne so4 hlp hxs
      have hlp5 := b5 _ _ nlp hlp
      have hxs5 : ∀ v ∈ xs, LnX K H5 45 12 v := fun v hv => (hxs v hv).but so4 b5
      clear hlp hxs b5 so4 nlp H4
      obtain ⟨m, rfl⟩ : ∃ m : Nat, r5 = (m : Int) := ⟨r5.toNat, by omega⟩
      have e1 : (1 : Int) + (m : Int) = ((m + 1 : Nat) : Int) := by omega
      refine ⟨1, (m : Int), rfl, rfl, ?_⟩
      refine ⟨((m + 1 : Nat) : Int), congrArg (fun z => [V.int z]) e1, by omega, by omega, ?_⟩
      refine for_it walk_range (fun i σ H' => ∃ (lp : Addr) (xs : List V) (v4 : Option V), σ = [some (.ref a), some (.ref st), some (.ref lp), v3, v4, none, none, none, none, none, none] ∧ StOk K H' st l ∧ H' lp = some (.lst xs) ∧ (∀ v ∈ xs, LnX K H' (45 + i) (12 + i) v) ∧ xs.length ≤ 45 + i)
        ⟨lp, xs, none, rfl, so5, hlp5, hxs5, hxl⟩ (fun _ _ _ _ _ => trivial) ?_ ?_
      · rintro i v σ Hx Hy hlt ⟨lp, xs, v4, rfl, sox, hlp, hxs, hxl⟩ ⟨rfl, rfl⟩
        refine ⟨_, rfl, _, rfl, st, l, lp, xs, 45 + i, 12 + i, rfl, sox, hlp, hxs, by omega, by omega, by omega, by omega, by omega, fun a2 ys H6 b6 so6 h6 hy6 hl6 => ?_⟩
        exact ⟨a2, ys, _, rfl, so6, h6, hy6, by omega⟩
      · rintro σ H6 ⟨lp, xs, v4, rfl, so6, hlp, hxs, hxl⟩
        have hxl : xs.length ≤ 47 := by omega
        have hxs : ∀ v ∈ xs, LnX K H6 56 39 v := fun v hv => (hxs v hv).mono (by omega) (by omega)
        have nlp := lnx_ne so6 hlp hxs
        clear hlp5 hxs5 so5
        tm_at "go"
        refine fun t0 nt0 => ?_
        have s7 : Same H6 (upd H6 t0 (.lst [])) := same_new nt0
        have ht7 : upd H6 t0 (.lst []) t0 = some (.lst (([] : List Str).map V.str)) := upd_same
        have so7 := so6.same s7
        have hlp7 := s7 _ _ hlp
        have hxs7 : ∀ v ∈ xs, LnX K (upd H6 t0 (.lst [])) 56 39 v := fun v hv => (hxs v hv).same s7
        generalize upd H6 t0 (.lst []) = H7 at s7 ht7 so7 hlp7 hxs7 ⊢
        refine ⟨_, rfl, lp, rfl, ⟨_, SqL.of hlp7⟩, ?_⟩
        refine for_it walk_list (fun i σ H' => ∃ (tp : Addr) (ts : List Str) (w3 w6 : Option V), σ = [some (.ref a), some (.ref st), some (.ref lp), w3, v4, some (.ref tp), w6, none, none, none, none] ∧ But st H7 H' ∧ StOk K H' st l ∧ H' tp = some (.lst (ts.map V.str)) ∧ ts.length ≤ 2 * i ∧ ∀ t ∈ ts, TLn t)
          ⟨t0, [], _, _, rfl, But.refl _ _, so7, ht7, Nat.le_refl _, fun t ht => (by cases ht)⟩ (fun i σ H' _ ⟨_, _, _, _, _, b, _⟩ => SqL.of (b _ _ nlp hlp7)) ?_ ?_
        · rintro i v σ Hx Hy hlt ⟨tp, ts, w3, w6, rfl, bx, sox, htp, htl, hts⟩ ⟨rfl, hv⟩
          obtain ⟨b, ws, rfl, hb7, hwx, hwl⟩ := hxs7 _ (List.mem_of_getElem? hv)
          tm_at "go"
          refine ⟨st, l, 6, rfl, sox, by decide, by decide, fun r8 H8 r80 r81 b8 so8 => ?_⟩
          refine ⟨rfl, ?_⟩
          refine .inr ⟨_, rfl, ?_⟩
          obtain ⟨m, em, hm⟩ : ∃ m : Nat, (if decide (V.int r8 = V.int 0) = true then (1 : Int) else 0) = (m : Int) ∧ m ≤ 1 := by
            split
            · exact ⟨1, rfl, Nat.le_refl _⟩
            · exact ⟨0, rfl, Nat.zero_le _⟩
          rw [em]
          refine ⟨_, rfl, by omega, by omega, fun D nD => ?_⟩
          have nsD := so8.ne nD
          refine lc_it walk_range (fun i H' => But st H8 H' ∧ StOk K H' st l ∧ ∃ (bs : List Str), H' D = some (.lst (bs.map V.str)) ∧ bs.length = i ∧ ∀ t ∈ bs, TLn t) ⟨(same_new nD).but st, so8.new nD, [], upd_same, rfl, fun t ht => (by cases ht)⟩ (fun _ _ _ _ => trivial) ?_ ?_
          · rintro i' v' Hx' Hy' hlt' ⟨bx', sox', bs, hDx, hbl, hbt⟩ ⟨rfl, rfl⟩
            refine ⟨rfl, ?_⟩
            tm_at "go"
            refine ⟨st, l, 3, rfl, sox', by decide, by decide, fun r2 H10 r20 r21 b10 so10 => ?_⟩
            obtain ⟨n, rfl⟩ : ∃ n : Nat, r2 = (n : Int) := ⟨r2.toNat, by omega⟩
            have hD10 := b10 _ _ nsD.symm hDx
            refine ⟨S " ", n, rfl, rfl, mul_ok (by omega), ?_⟩
            refine ⟨_, hD10, small1000 (by rw [List.length_map]; omega), (bx'.trans b10).new nD, so8.grow nD so10, bs ++ [Txt.mul (S " ") (n : Int)], ?_, ?_, fun t ht => ?_⟩
            · rw [upd_same, List.map_append]
              rfl
            · rw [List.length_append, hbl]
              rfl
            · rcases List.mem_append.mp ht with z | z
              · exact hbt t z
              · rw [List.mem_singleton.mp z]
                exact TLn.blanks (by omega)
          · rintro H10 ⟨b10, so10, bs, hD10, hbl, hbt⟩
            have bx10 : But st H7 H10 := (bx.trans b8).trans b10
            have htp10 := sox.but_lst (b8.trans b10) htp
            have hb10 := so7.but_strs bx10 hb7
            have hil : i < 47 := by omega
            refine ⟨tp, D, _, _, rfl, rfl, htp10, hD10, ?_, fun p3 np3 => ?_⟩
            · rw [List.length_map, List.length_map]
              exact sizeL (by omega)
            rw [strs_app]
            have nsp := so10.ne np3
            have s11 : Same H10 (upd H10 p3 (.lst ((ts ++ bs).map V.str))) := same_new np3
            have h11 : upd H10 p3 (.lst ((ts ++ bs).map V.str)) p3 = some (.lst ((ts ++ bs).map V.str)) := upd_same
            have so11 := so10.same s11
            have n73 : H7 p3 = none := bx10.free nsp.symm np3
            have b711 := bx10.trans (s11.but st)
            have hb11 := s11.seq hb10
            generalize upd H10 p3 (.lst ((ts ++ bs).map V.str)) = H11 at s11 h11 so11 b711 hb11 ⊢
            refine ⟨_, rfl, .inl ⟨rfl, _, SqL.of h11⟩, ?_⟩
            refine ⟨_, rfl, _, rfl, st, l, b, ws, rfl, so11, hb11, hwx, hwl, fun T H12 lT xT wT b12 so12 => ?_⟩
            have h12 := b12 _ _ nsp.symm h11
            refine ⟨p3, _, .str T, rfl, rfl, h12, ?_, ?_⟩
            · rw [List.length_map, List.length_append]
              exact Nat.lt_of_le_of_lt (show _ ≤ 1000 by omega) (by decide)
            · have e2 : (ts ++ bs).map V.str ++ [V.str T] = (ts ++ bs ++ [T]).map V.str := strs_app (ts ++ bs) [T]
              rw [e2]
              refine ⟨p3, ts ++ bs ++ [T], _, _, rfl, (b711.trans b12).new n73, so7.grow n73 so12, upd_same, ?_, fun t ht => ?_⟩
              · rw [List.length_append, List.length_append, List.length_singleton]
                omega
              · rcases List.mem_append.mp ht with z | z
                · rcases List.mem_append.mp z with y | y
                  · exact hts t y
                  · exact hbt t y
                · rw [List.mem_singleton.mp z]
                  exact TLn.of lT xT wT hwx hwl
        · rintro σ H8 ⟨tp, ts, w3, w6, rfl, b8, so8, htp, htl, hts⟩
          have htl : ts.length ≤ 94 := by omega
          clear hlp7 hxs7 s7 ht7 so7 b8 hlp hxs nlp so6
          tm_at "go"
          refine fun p9 np9 => ?_
          have s9 : Same H8 (upd H8 p9 (.lst [.str (S "")])) := same_new np9
          have h9 : upd H8 p9 (.lst [.str (S "")]) p9 = some (.lst [.str (S "")]) := upd_same
          have nsp9 := (so8.ne np9).symm
          have so9 := so8.same s9
          have htp9 := s9 _ _ htp
          generalize upd H8 p9 (.lst [.str (S "")]) = H9 at h9 so9 htp9 ⊢
          tm_at "go"
          refine ⟨st, l, 3, rfl, so9, by decide, by decide, fun r10 H10 r100 r101 b10 so10 => ?_⟩
          obtain ⟨n, rfl⟩ : ∃ n : Nat, r10 = (n : Int) := ⟨r10.toNat, by omega⟩
          have h10 := b10 _ _ nsp9 h9
          have htp10 := so9.but_lst b10 htp9
          refine ⟨p9, (n : Int), _, rfl, rfl, h10, by omega, by omega, ?_, fun p11 np11 => ?_⟩
          · rw [Int.toNat_natCast]
            exact sizeL (by show 1 * n ≤ _; omega)
          rw [Int.toNat_natCast]
          have efl : (List.replicate n [V.str (S "")]).flatten = (List.replicate n (S "")).map V.str := by
            rw [rep_flat, List.map_replicate]
          rw [efl]
          have s11 : Same H10 (upd H10 p11 (.lst ((List.replicate n (S "")).map V.str))) := same_new np11
          have h11 : upd H10 p11 (.lst ((List.replicate n (S "")).map V.str)) p11 = some (.lst ((List.replicate n (S "")).map V.str)) := upd_same
          have htp11 := s11 _ _ htp10
          generalize upd H10 p11 (.lst ((List.replicate n (S "")).map V.str)) = H11 at h11 htp11 ⊢
          clear s11 h10 htp10 h9 htp9 so9 htp so8
          refine ⟨tp, p11, _, _, rfl, rfl, htp11, h11, ?_, fun p12 np12 => ?_⟩
          · rw [List.length_map, List.length_map, List.length_replicate]
            exact sizeL (by omega)
          rw [strs_app]
          have hal : (ts ++ List.replicate n (S "")).length ≤ 96 := by
            rw [List.length_append, List.length_replicate]
            omega
          have hat : ∀ t ∈ ts ++ List.replicate n (S ""), TLn t := fun t ht => by
            rcases List.mem_append.mp ht with z | z
            · exact hts t z
            · rw [(List.mem_replicate.mp z).2]
              exact TLn.empty
          generalize ts ++ List.replicate n (S "") = all at hal hat ⊢
          have h12 : upd H11 p12 (.lst (all.map V.str)) p12 = some (.lst (all.map V.str)) := upd_same
          generalize upd H11 p12 (.lst (all.map V.str)) = H12 at h12 ⊢
          clear h11 htp11
          have hsumw : (all.map (·.length)).sum + all.length * (S "\n").length ≤ 16777216 := by
            have h2 := sum_le (b := 20000) fun x hx => (hat x hx).len
            have e : (S "\n").length = 1 := by decide +kernel
            rw [e]
            omega
          have hTl := nl_len hat hal
          obtain ⟨hLl, hLt⟩ := nl_split hat hal
          tm_at "go"
          refine ⟨S "\n", p12, all, rfl, rfl, .inl (SqL.of h12), hsumw, ?_⟩
          generalize Txt.join (S "\n") all = T at hTl hLl hLt ⊢
          have hT2 : T.length + 2 ≤ sizeLine := Nat.le_trans (show T.length + 2 ≤ 2000002 by omega) (by decide)
          tm_at "go"
          refine fun p13 np13 => ?_
          have h13 : upd H12 p13 (.lst ((Txt.split T (S "\n")).map V.str)) p13 = some (.lst ((Txt.split T (S "\n")).map V.str)) := upd_same
          generalize upd H12 p13 (.lst ((Txt.split T (S "\n")).map V.str)) = H13 at h13 ⊢
          have hLc : ∀ L ∈ Txt.split T (S "\n"), L.length ≤ 20000 ∧ LW (Txt.words L) ∧ (Txt.split L (S " ")).filter neS = Txt.words L ∧ (Txt.split L (S " ")).length ≤ 20001 := fun L hL => by
            have h := hLt L hL
            have h2 := split_count L
            have h3 := h.len
            exact ⟨h.len, h.lw, words_split h.tx.sp, by omega⟩
          have hLd : ∀ L ∈ Txt.split T (S "\n"), L.length ≤ 20000 ∧ LW (Txt.words L) := fun L hL => ⟨(hLt L hL).len, (hLt L hL).lw⟩
          generalize hLs : Txt.split T (S "\n") = Ls at h13 hLl hLc hLd ⊢
          refine ⟨p13, Ls, rfl, SqL.of h13, hLl, hLc, fun rows v H14 hR s14 im14 => ?_, fun kk v H14 hR hkk s14 im14 => ?_⟩
          · tm_at "go"
            refine fun p15 np15 => ?_
            have s15 : Same H14 (upd H14 p15 (.tup [])) := same_new np15
            have im15 := s15.tk.im im14
            generalize upd H14 p15 (.tup []) = H15 at im15 ⊢
            tm_at "go"
            refine ⟨T, Ls, rfl, hT2, hLs, hLl, hLd, fun rows2 v2 H16 hR2 s16 im16 => ?_, fun k2 d H16 hR2 _ _ _ _ => ?_⟩
            · rw [hR] at hR2
              cases hR2
              have im16v := s16.tk.im im15
              tm_at "go"
              refine fun p17 np17 => ?_
              have s17 : Same H16 (upd H16 p17 (.tup [.str (S "rows"), v2])) := same_new np17
              have nice := readR_nice hR (by rw [List.length_map]; omega)
              refine ⟨_, rfl, _, rfl, .ref p17, v, _, rfl, .tup (SqT.of upd_same) (.cons (.str _) (.cons (s17.tk.im im16) .nil)), s17.tk.im im16v, nice.sok, nice.few, nice.dep, fun H18 s18 => ?_⟩
              exact q _
            · rw [hR] at hR2
              cases hR2
          · tm_at "go"
            refine fun p15 np15 => ?_
            have s15 : Same H14 (upd H14 p15 (.tup [])) := same_new np15
            have im15 := s15.tk.im im14
            generalize upd H14 p15 (.tup []) = H15 at im15 ⊢
            tm_at "go"
            refine ⟨T, Ls, rfl, hT2, hLs, hLl, hLd, fun rows2 v2 H16 hR2 _ _ => ?_, fun k2 d H16 hR2 hk2 s16 nd16 hd16 => ?_⟩
            · rw [hR] at hR2
              cases hR2
            · rw [hR] at hR2
              cases hR2
              have im16v := s16.tk.im im15
              refine ⟨true, mBL, fun _ ea nea => ?_, fun z => nomatch z⟩
              refine ⟨_, rfl, cBL, d, _, .ref cDE, .ref cDE, true, EX, rfl, rfl, hd16, rfl, fun u r => r, kDE, ?_⟩
              refine ⟨_, rfl, ?_⟩
              refine iteF ?_
              refine ⟨_, rfl, cBL, d, _, .ref cBT, .ref cBT, false, EX, rfl, rfl, hd16, rfl, fun u r => r, kBT, ?_⟩
              refine ⟨_, rfl, ?_⟩
              refine iteF ?_
              refine ⟨_, rfl, cBL, d, _, .ref cBC, .ref cBC, false, EX, rfl, rfl, hd16, rfl, fun u r => r, kBC, ?_⟩
              refine ⟨_, rfl, ?_⟩
              refine iteF ?_
              refine ⟨_, rfl, rfl, rfl, d, _, .int (kk : Int), rfl, hd16, rfl, ?_⟩
              tm_at "go"
              refine fun p17 np17 => ?_
              have s17 : Same H16 (upd H16 p17 (.tup [.str (S "line"), .int (kk : Int)])) := same_new np17
              have nice := line_nice kk
              refine ⟨_, rfl, _, rfl, .ref p17, v, _, rfl, .tup (SqT.of upd_same) (.cons (.str _) (.cons (.int _) .nil)), s17.tk.im im16v, nice.sok, nice.few, nice.dep, fun H18 s18 => ?_⟩
              exact q _
end
end C
section
set_option Elab.async false
open PySem PySem.W PyProof.Rows
set_option maxRecDepth 100000
set_option maxHeartbeats 0
open_top hdT for PySem.Challenge.rw_differwithin_k59_bad_lines_of_claims
end
set_option Elab.async false
set_option linter.all false
set_option pp.maxSteps 1500
set_option maxRecDepth 100000
set_option maxHeartbeats 4000000
namespace C
open PySem PySem.Spec PyProof.Rows L2 Kx M TL
local macro_rules | `(tactic| tm_at "same") => `(tactic| first
  | assumption
  | exact L2.Same.refl _
  | exact L2.Same.upd (by tm_at "same") (by tm_at "free")
  | exact sameTransR (by assumption) (by tm_at "same"))
local macro_rules | `(tactic| tm_at "free") => `(tactic| first
  | assumption
  | exact sameFreeR (by assumption) (by tm_at "same"))
local macro_rules | `(tactic| tm_at "but") => `(tactic| first
  | assumption
  | exact But.refl _ _
  | exact But.transR (by assumption) (by tm_at "but")
  | exact But.upd
  | exact But.self (by tm_at "but")
  | exact But.new1 (by tm_at "but") (by assumption)
  | exact But.new (by tm_at "but") (by tm_at "free")
  | exact L2.Same.but (by assumption) _)
local macro_rules | `(tactic| tm_at "fact") => `(tactic| first
  | exact upd_same
  | assumption
  | exact SqL.of upd_same
  | exact SqT.of upd_same
  | exact SqL.of (by assumption)
  | exact SqT.of (by assumption)
  | exact But.lstR (by assumption) (by assumption) (by tm_at "but"))
local macro_rules | `(tactic| tm_at "cond") => `(tactic| first
  | rfl
  | assumption
  | decide
  | omega
  | exact ⟨by decide, by decide⟩
  | exact .inr ⟨by decide, by decide⟩
  | exact .inl ⟨by decide, by decide⟩
  | exact ⟨by decide, by decide, by decide⟩
  | exact cdivw (by assumption) (by assumption)
  | exact log2_ok (by assumption)
  | exact Or.inl ⟨rfl, _, SqL.of upd_same⟩
  | exact Or.inl ⟨rfl, _, SqL.of (by assumption)⟩
  | exact ⟨_, rfl⟩
  | exact Nat.le_of_ble_eq_true rfl
  | exact small1000 (by omega))
local macro_rules | `(tactic| tm_at "prop") => `(tactic| first
  | assumption
  | omega)
local macro_rules | `(tactic| tm_at "s") => `(tactic| first
  | refine ⟨_, rfl, ?_⟩
  | refine ⟨_, _, rfl, rfl, ?_⟩
  | refine ⟨_, _, _, rfl, rfl, (by tm_at "fact"), (by tm_at "cond"), ?_⟩
  | refine ⟨_, _, _, _, rfl, rfl, (by tm_at "fact"), rfl, ?_⟩
  | refine ⟨_, _, rfl, (by tm_at "fact"), ?_⟩
  | refine And.intro (by tm_at "cond") ?_
  | refine .inl ⟨_, rfl, ?_⟩
  | refine ⟨_, _, rfl, .inl (by tm_at "fact"), ?_⟩
  | refine dec_false (by tm_at "prop") ?_
  | refine dec_true (by tm_at "prop") ?_
  | refine decN_false (by tm_at "prop") ?_
  | refine decN_true (by tm_at "prop") ?_
  | refine iteT ?_
  | refine iteF ?_
  | refine ⟨_, _, rfl, ?_⟩)
local macro_rules | `(tactic| tm_at "go") => `(tactic| repeat tm_at "s")

section
variable {P : Program} {w : World} {K : PySem.W.Frag} {mg : Str → Option Value} {base : Heap} {aH aR : Addr}
theorem def_mk {h : Heap} {nm qual : Str} {st : Stmt} {ps : List Str} {f : Addr} {oc : Value} {od an : Option Addr} {sl : Array (Option Value)} {kV dc pm cd ct : Value} (X : K.In h) (G : h.Ns mainGlobals mg)
    (a : PySem.W.nsIn K mainGlobals nm = some (some (.ref f))) (l : K.lookup f = some ⟨oc, od, .func (PySem.W.fnOf nm qual (defArgs st) (defBody st) (defScope st) .none kV dc pm an cd ct), sl⟩) (c : PySem.W.codeIn K cd qual = true) (k : PySem.W.keepIn K (.ref f) = true)
    (b : ∀ (kV doc pm : Value) (an : Option Addr) (cdv ct : Value) (us : List Value), us.length = ps.length → bindArgs (PySem.W.fnOf nm qual (defArgs st) (defBody st) (defScope st) .none kV doc pm an cdv ct) ⟨us, []⟩ = pure (ps.zip us)) : Def K mg nm qual st ps :=
  ⟨f, _, fun_mk l c k, PySem.W.mg_of X G a, (fun_mk l c k).binds b⟩
theorem mdef_mk {Cl : Addr} {nm qual : Str} {st : Stmt} {ps : List Str} {f : Addr} {oc : Value} {od an : Option Addr} {sl : Array (Option Value)} {kV dc pm cd ct : Value}
    (a : PySem.W.findIn K (.ref Cl) nm = some (some (.ref f))) (i : PySem.W.isFn K (.ref f) = true) (l : K.lookup f = some ⟨oc, od, .func (PySem.W.fnOf nm qual (defArgs st) (defBody st) (defScope st) .none kV dc pm an cd ct), sl⟩) (c : PySem.W.codeIn K cd qual = true) (k : PySem.W.keepIn K (.ref f) = true)
    (b : ∀ (kV doc pm : Value) (an : Option Addr) (cdv ct : Value) (us : List Value), us.length = ps.length → bindArgs (PySem.W.fnOf nm qual (defArgs st) (defBody st) (defScope st) .none kV doc pm an cdv ct) ⟨us, []⟩ = pure (ps.zip us)) : MDef K Cl nm qual st ps :=
  ⟨f, _, fun_mk l c k, ⟨a, i, k⟩, (fun_mk l c k).binds b⟩
theorem kdef_mk {Cl : Addr} {qual : Str} {st : Stmt} {ps : List Str} {f : Addr} {oc : Value} {od an : Option Addr} {sl : Array (Option Value)} {kV dc pm cd ct : Value} (m : PySem.W.makesIn K Cl = true)
    (a : PySem.W.findIn K (.ref Cl) "__init__" = some (some (.ref f))) (i : PySem.W.isFn K (.ref f) = true) (kc : PySem.W.keepIn K (.ref Cl) = true) (l : K.lookup f = some ⟨oc, od, .func (PySem.W.fnOf "__init__" qual (defArgs st) (defBody st) (defScope st) .none kV dc pm an cd ct), sl⟩) (c : PySem.W.codeIn K cd qual = true) (k : PySem.W.keepIn K (.ref f) = true)
    (b : ∀ (kV doc pm : Value) (an : Option Addr) (cdv ct : Value) (us : List Value), us.length = ps.length → bindArgs (PySem.W.fnOf "__init__" qual (defArgs st) (defBody st) (defScope st) .none kV doc pm an cdv ct) ⟨us, []⟩ = pure (ps.zip us)) : KDef K Cl qual st ps :=
  ⟨f, _, fun_mk l c k, ⟨m, a, i, kc⟩, (fun_mk l c k).binds b⟩
theorem rk_mk {Cl : Addr} (a : PySem.W.plainGet K Cl Str.empty = true) (b : PySem.W.hasDictIn K Cl = true) (c : PySem.W.plainOver K Cl = true) (d : PySem.W.findIn K (.ref Cl) "__setattr__" = some (some (.builtin "object.__setattr__"))) (e : PySem.W.findIn K (.ref Cl) "found" = some none) (f : PySem.W.findIn K (.ref Cl) "names" = some none) (g : PySem.W.findIn K (.ref Cl) "parts" = some none) (h : PySem.W.findIn K (.ref Cl) "stage" = some none) : Rk K Cl := ⟨⟨a, b, c, d⟩, e, f, g, h⟩
theorem cI_mk {h : Heap} {x : Str} {v : Value} {i : Int} {t : Tok} (X : K.In h) (G : h.Ns mainGlobals mg) (a : PySem.W.nsIn K mainGlobals x = some (some v)) (e : v = .int i t) : ∃ t, mg x = some (.int i t) := ⟨t, by rw [← e]; exact PySem.W.mg_of X G a⟩
theorem cS_mk {h : Heap} {x : Str} {v : Value} {i : Str} {t : Tok} (X : K.In h) (G : h.Ns mainGlobals mg) (a : PySem.W.nsIn K mainGlobals x = some (some v)) (e : v = .str i t) : ∃ t, mg x = some (.str i t) := ⟨t, by rw [← e]; exact PySem.W.mg_of X G a⟩
theorem tT_mk {a : Addr} {o : Obj} {its : Array Value} {n : Nat} {xs : List V} (l : K.lookup a = some o) (c : o.cls = .type "tuple") (d : o.data = .seq its n) (s : its.size ≤ sizeLine) (v : Vals xs its.toList) (H : Hp) : SqT K H a xs := .inr ⟨o, its, n, l, c, d, s, v⟩
theorem yT_mk {a : Addr} {o : Obj} (l : K.lookup a = some o) (c : o.cls = .type "tuple") (d : o.dict = none) : ∃ o, K.lookup a = some o ∧ o.cls = .type "tuple" ∧ o.dict = none := ⟨o, l, c, d⟩
theorem exm_self {S : Addr} (h1 : PySem.W.subIn K (.ref S) (.type "BaseException") = some true) (h2 : PySem.W.isClsIn K S = true) (h3 : PySem.W.typeIn K (.ref S) = some (.type "type")) (h4 : PySem.W.subIn K (.ref S) (.ref S) = some true) : PySem.W.exmOne K (.ref S) (.ref S) = some true := by
  have e1 : (PySem.W.subIn K (.ref S) (.type "BaseException") == some true) = true := by rw [h1] <;> rfl
  have e2 : ((PySem.W.clsIn K S).isSome && PySem.W.typeIn K (.ref S) == some (.type "type")) = true := by
    have h2' : (PySem.W.clsIn K S).isSome = true := h2
    rw [h2', h3] <;> rfl
  show (if (PySem.W.subIn K (.ref S) (.type "BaseException") == some true) = true then (if ((PySem.W.clsIn K S).isSome && PySem.W.typeIn K (.ref S) == some (.type "type")) = true then PySem.W.subIn K (.ref S) (.ref S) else none) else none) = some true
  rw [if_pos e1, if_pos e2]
  exact h4
theorem xt_mk {h : Heap} {nm : Str} {Cl : Addr} (X : K.In h) (G : h.Ns mainGlobals mg) (a : PySem.W.nsIn K mainGlobals nm = some (some (.ref Cl))) (x : PySem.W.excIn K Cl [.type "ValueError", .type "Exception", .type "BaseException", .type "object"] "ValueError.__new__" = true) (k : PySem.W.keepIn K (.ref Cl) = true)
    (b : PySem.W.subIn K (.ref Cl) (.type "BaseException") = some true) (t : PySem.W.typeIn K (.ref Cl) = some (.type "type")) (c : PySem.W.isClsIn K Cl = true) (s : PySem.W.subIn K (.ref Cl) (.ref Cl) = some true) : XT K mg nm Cl := ⟨x, PySem.W.mg_of X G a, k, b, t, exm_self b c t s⟩
theorem facts_mk {prog : Program} {C fI cc cda N : Addr} {nm q : Str} {bs bm : List Value} {sn : List Str} {sub : List Value} {ab : Bool} {col : Option Bool} {dd : Option Addr} {k0 k1 k2 k3 k5 : Option Value} {oc doc pm ct ccl cl : Value} {od an cdd cld : Option Addr} {osl ccs csl : Array (Option Value)} {vs : Array Value} {file : Str} {tf : Tok}
    (xL : K.lookup C = some (excClassObj nm q C N bs bm true sn sub ab col dd k0 k1 k2 k3 k5 "ValueError.__new__")) (rv : PySem.HandSPX.refsVE bm = true)
    (sa : PySem.W.findIn K (.ref C) "__setattr__" = some (some (.builtin "object.__setattr__"))) (no : PySem.W.findIn K (.ref C) "line" = some none) (iC : PySem.W.findIn K (.ref C) "__init__" = some (some (.ref fI))) (tC : PySem.W.typeIn K (.ref fI) = some (.type "function"))
    (up : PySem.W.ks_superIn K C C "__init__" = some (some (.builtin "ValueError.__init__"))) (isV : PySem.W.subIn K (.ref C) (.type "ValueError") = some true) (isC : PySem.W.mroIn K C (.ref C) = some true)
    (fn : K.lookup fI = some ⟨oc, od, .func (PySem.W.fnX "__init__" "BadLine.__init__" Own.pB Own.bB Own.sB [("__class__", cc)] .none .none doc pm an (.ref cda) ct), osl⟩) (cd : PySem.W.codeIn K (.ref cda) "BadLine.__init__" = true)
    (lc : K.lookup cda = some ⟨ccl, cdd, .fields vs, ccs⟩) (vc : vs[2]? = some (.str file tf)) (fc : ((prog.main.file : Str) == file) = true) (cell : K.lookup cc = some ⟨cl, cld, .cell (some (.ref C)), csl⟩)
    (kC : PySem.W.keepIn K (.ref C) = true) (exC : PySem.W.subIn K (.ref C) (.type "BaseException") = some true) (tyC : PySem.W.typeIn K (.ref C) = some (.type "type")) (any : PySem.W.nsIn K cStatics "thirdparty.any" = some none) (top : (prog.main.scope.names.lookup ("super" : Str)).isSome = false) :
    Own.Facts prog K C fI cc cda "line" Own.pB Own.bB Own.sB "BadLine.__init__" :=
  ⟨⟨_, _, _, _, _, _, _, _, _, _, _, _, _, _, _, xL, rv⟩, sa, no, iC, tC, up, isV, isC, ⟨_, _, _, _, _, _, _, fn⟩, cd, ⟨_, _, _, _, _, _, lc, vc, fc⟩, ⟨_, _, _, cell⟩, kC, exC, tyC, any, top⟩
theorem m_mk {S : Addr} (h1 : PySem.W.subIn K (.ref S) (.type "BaseException") = some true) (h2 : PySem.W.isClsIn K S = true) (h3 : PySem.W.typeIn K (.ref S) = some (.type "type")) (h4 : PySem.W.subIn K (.ref S) (.ref S) = some true) : PySem.W.exmOne K (.ref S) (.ref S) = some true := exm_self h1 h2 h3 h4
theorem kit_mk {a b : Addr} {v : Bool} (h0 : (Value.ref a == Value.ref b) = false) (c : PySem.W.isClsIn K b = true) (t : PySem.W.typeIn K (.ref b) = some (.type "type")) (s : PySem.W.subIn K (.ref a) (.ref b) = some v) : PySem.W.kitOne K (.ref a) (.ref b) = some v := by
  have e2 : ((PySem.W.clsIn K b).isSome && PySem.W.typeIn K (.ref b) == some (.type "type")) = true := by
    have c' : (PySem.W.clsIn K b).isSome = true := c
    rw [c', t] <;> rfl
  unfold PySem.W.kitOne
  rw [h0, if_neg Bool.false_ne_true]
  show (if ((PySem.W.clsIn K b).isSome && PySem.W.typeIn K (.ref b) == some (.type "type")) = true then PySem.W.subIn K (.ref a) (.ref b) else none) = some v
  rw [if_pos e2]
  exact s
theorem tx_mk {C : Addr} (ga : PySem.W.findIn K (.ref C) "__getattribute__" = some (some (.builtin "BaseException.__getattribute__"))) (gg : PySem.W.findIn K (.ref C) "__getattr__" = some none) (exC : PySem.W.subIn K (.ref C) (.type "BaseException") = some true) (hd : PySem.W.hasDictIn K C = true) : XfC K C := ⟨ga, gg, exC, hd⟩
theorem ex_mk {D : Addr} (hg : PySem.W.findIn K (.ref D) "__getattribute__" = some (some (.builtin "BaseException.__getattribute__"))) (hk : PySem.W.findIn K (.ref D) "__getattr__" = some none) (hs : PySem.W.subIn K (.ref D) (.type "BaseException") = some true) (hd : PySem.W.hasDictIn K D = true) (ha : PySem.W.findIn K (.ref D) "__class__" = some (some (.builtin "object.__class__")))
    (hn : PySem.W.specialIn K (.builtin "object.__class__") "__get__" = some (some (.builtin "getset_descriptor.__get__"))) (ht : PySem.W.takesIn K (.builtin "object.__class__") = some true) (hm : PySem.W.mroIn K D (.type "object") = some true) : ExcC K D := ⟨hg, hk, hs, hd, ha, hn, ht, hm⟩
set_option maxHeartbeats 0 in
theorem top_ok {f : Addr} {fd : FuncData} {Cl cBT aH aR cBL fI cc cda cDE cBC : Addr} (gC_ClaimReader : mg "ClaimReader" = some (.ref Cl)) (R : Rk K Cl) (B : Bi mg) (gBT : mg "BadText" = some (.ref cBT)) (gHEADS : mg "HEADS" = some (.ref aH)) (gRULES : mg "RULES" = some (.ref aR)) (G : Gb K mg aH aR) (yH : ∃ o, K.lookup aH = some o ∧ o.cls = .type "tuple" ∧ o.dict = none) (gBL : mg "BadLine" = some (.ref cBL)) (g_DifferwithinError : mg "DifferwithinError" = some (.ref cDE)) (g_BadText : mg "BadText" = some (.ref cBT)) (g_BadClaim : mg "BadClaim" = some (.ref cBC)) (XB : XT K mg "BadText" cBT) (TL : Own.Facts P K cBL fI cc cda "line" Own.pB Own.bB Own.sB "BadLine.__init__") (zSuper : mg "super" = none) (TX : XfC K cBL) (EX : ExcC K cBL) (hnoL : PySem.W.findIn K (.ref cBL) "line" = some none) (mBL : PySem.W.exmOne K (.ref cBL) (.ref cBL) = some true) (kDE : PySem.W.kitOne K (.ref cBL) (.ref cDE) = some true) (kBT : PySem.W.kitOne K (.ref cBL) (.ref cBT) = some false) (kBC : PySem.W.kitOne K (.ref cBL) (.ref cBC) = some false)
    (d_take : MDef K Cl "take" "ClaimReader.take" s_ClaimReader_take ["self", "line"])
    (d_write_integer : Def K mg "write_integer" "write_integer" s_write_integer ["n"])
    (d_write_term : Def K mg "write_term" "write_term" s_write_term ["name", "size"])
    (d_is_name : Def K mg "is_name" "is_name" s_is_name ["text"])
    (d_read_integer : Def K mg "read_integer" "read_integer" s_read_integer ["text"])
    (d_form : Def K mg "form" "form" s_form ["constant", "pairs"])
    (d_write_form : Def K mg "write_form" "write_form" s_write_form ["f"])
    (d_read_term : Def K mg "read_term" "read_term" s_read_term ["text", "sign"])
    (d_read_form : Def K mg "read_form" "read_form" s_read_form ["text"])
    (d_init : KDef K Cl "ClaimReader.__init__" s_ClaimReader___init__ ["self"])
    (d_head : MDef K Cl "take_head" "ClaimReader.take_head" s_ClaimReader_take_head ["self", "words"])
    (d_part : MDef K Cl "take_part" "ClaimReader.take_part" s_ClaimReader_take_part ["self", "words"])
    (d_end : MDef K Cl "take_end" "ClaimReader.take_end" s_ClaimReader_take_end ["self"])
    (d_read_claims : Def K mg "read_claims" "read_claims" s_read_claims ["text"])
    (d__law_is_int : Def K mg "_law_is_int" "_law_is_int" s__law_is_int ["x"])
    (d__law_same : Def K mg "_law_same" "_law_same" s__law_same ["x", "y"])
    (d__law_form : Def K mg "_law_form" "_law_form" s__law_form ["constant", "pairs"])
    (d__law_draw : Def K mg "_law_draw" "_law_draw" s__law_draw ["state", "most"])
    (d__law_start : Def K mg "_law_start" "_law_start" s__law_start ["script"])
    (d__law_one_of : Def K mg "_law_one_of" "_law_one_of" s__law_one_of ["state", "items"])
    (d__law_text_of : Def K mg "_law_text_of" "_law_text_of" s__law_text_of ["state", "signs", "many"])
    (d__law_any_word : Def K mg "_law_any_word" "_law_any_word" s__law_any_word ["state"])
    (d__law_form_name : Def K mg "_law_form_name" "_law_form_name" s__law_form_name ["state"])
    (d__law_some_number : Def K mg "_law_some_number" "_law_some_number" s__law_some_number ["state"])
    (d__law_some_form : Def K mg "_law_some_form" "_law_some_form" s__law_some_form ["state"])
    (d__law_some_forms : Def K mg "_law_some_forms" "_law_some_forms" s__law_some_forms ["state"])
    (d__law_some_pairs : Def K mg "_law_some_pairs" "_law_some_pairs" s__law_some_pairs ["state"])
    (d__law_rules : Def K mg "_law_rules" "_law_rules" s__law_rules [])
    (d__law_some_row : Def K mg "_law_some_row" "_law_some_row" s__law_some_row ["state"])
    (d__law_written : Def K mg "_law_written" "_law_written" s__law_written ["f"])
    (d__law_row_lines : Def K mg "_law_row_lines" "_law_row_lines" s__law_row_lines ["row"])
    (d__law_spaced : Def K mg "_law_spaced" "_law_spaced" s__law_spaced ["state", "words"])
    (d__law_is_form_name : Def K mg "_law_is_form_name" "_law_is_form_name" s__law_is_form_name ["text"])
    (d__law_is_digits : Def K mg "_law_is_digits" "_law_is_digits" s__law_is_digits ["text"])
    (d__law_parsed : Def K mg "_law_parsed" "_law_parsed" s__law_parsed ["words"])
    (d__law_part : Def K mg "_law_part" "_law_part" s__law_part ["parts", "words"])
    (d__law_read : Def K mg "_law_read" "_law_read" s__law_read ["lines"])
    (d__law_odd_line : Def K mg "_law_odd_line" "_law_odd_line" s__law_odd_line ["state"])
    (d__law_spoilt : Def K mg "_law_spoilt" "_law_spoilt" s__law_spoilt ["state", "lines"])
    (d_law : Fun K "law" "law" s_law f fd) : FnOk P w K mg base CX0 12 f fd ["script"] (spLaw K) := by
  have c_write_integer := ok_write_integer (P := P) (w := w) (mg := mg) (base := base) (k := 0) d_write_integer B G
  have c_write_term := ok_write_term (P := P) (w := w) (mg := mg) (base := base) (k := 1) d_write_term c_write_integer
  have c_is_name := ok_is_name (P := P) (w := w) (mg := mg) (base := base) (k := 0) d_is_name B G
  have c_read_integer := ok_read_integer (P := P) (w := w) (mg := mg) (base := base) (k := 0) d_read_integer B G
  have c_form := ok_form (P := P) (w := w) (mg := mg) (base := base) (k := 0) d_form B
  have c_write_form := ok_write_form (P := P) (w := w) (mg := mg) (base := base) (k := 2) d_write_form B c_write_term
  have c_read_term := ok_read_term (P := P) (w := w) (mg := mg) (base := base) (k := 1) d_read_term B c_is_name c_read_integer
  have c_read_form := ok_read_form (P := P) (w := w) (mg := mg) (base := base) (k := 3) d_read_form B (c_read_term.mono (by decide)) (c_form.mono (by decide)) c_write_form
  have x_read_integer := okx_read_integer (P := P) (w := w) (mg := mg) (base := base) (k := 0) d_read_integer B G XB
  have x_read_term := okx_read_term (P := P) (w := w) (mg := mg) (base := base) (k := 1) d_read_term B XB c_is_name x_read_integer
  have x_read_form := okx_read_form (P := P) (w := w) (mg := mg) (base := base) (k := 3) d_read_form B XB (x_read_term.mono (by decide)) (c_form.mono (by decide)) c_write_form
  have i_ClaimReader := ok_init (P := P) (w := w) (mg := mg) (base := base) (k := 0) d_init R
  have m_ClaimReader_take_head := ok_head (P := P) (w := w) (mg := mg) (base := base) (k := 0) d_head R B G
  have m_ClaimReader_take_part := ok_part (P := P) (w := w) (mg := mg) (base := base) (k := 4) d_part R B G gBT yH c_read_form
  have m_ClaimReader_take_end := ok_end (P := P) (w := w) (mg := mg) (base := base) (k := 0) d_end R B G
  have b_head := okB_head (P := P) (w := w) (mg := mg) (base := base) (k := 0) d_head R B G
  have b_part := okB_part (P := P) (w := w) (mg := mg) (base := base) (k := 4) d_part R B G XB yH x_read_form
  have m_ClaimReader_take := okU_take (P := P) (w := w) (mg := mg) (base := base) (k := 6) d_take (fun f fd F => fn_take (k := 5) F R B G (m_ClaimReader_take_head.mono (by decide)) (m_ClaimReader_take_part.mono (by decide)) (m_ClaimReader_take_end.mono (by decide))) (fun f fd F => fnB_take (k := 5) F R B G (b_head.mono (by decide)) (b_part.mono (by decide)) (m_ClaimReader_take_end.mono (by decide)))
  have x_read_claims := okx_read_claims (P := P) (w := w) (mg := mg) (base := base) (k := 5) d_read_claims R B G gC_ClaimReader TL gBL zSuper (i_ClaimReader.mono (by decide)) m_ClaimReader_take
  have c__law_is_int := ok__law_is_int (P := P) (w := w) (mg := mg) (base := base) (k := 0) d__law_is_int B
  have c__law_same := ok__law_same (P := P) (w := w) (mg := mg) (base := base) (k := 1) d__law_same B c__law_is_int 9
  have c__law_form := ok__law_form (P := P) (w := w) (mg := mg) (base := base) (k := 0) d__law_form B
  have c__law_draw := ok__law_draw (P := P) (w := w) (mg := mg) (base := base) (k := 0) d__law_draw B
  have c__law_start := ok__law_start (P := P) (w := w) (mg := mg) (base := base) (k := 0) d__law_start B
  have c__law_one_of := ok__law_one_of (P := P) (w := w) (mg := mg) (base := base) (k := 1) d__law_one_of B c__law_draw
  have c__law_text_of := ok__law_text_of (P := P) (w := w) (mg := mg) (base := base) (k := 1) d__law_text_of B c__law_draw
  have c__law_any_word := ok__law_any_word (P := P) (w := w) (mg := mg) (base := base) (k := 2) d__law_any_word B (c__law_draw.mono (by decide)) c__law_one_of c__law_text_of
  have c__law_form_name := ok__law_form_name (P := P) (w := w) (mg := mg) (base := base) (k := 2) d__law_form_name B (c__law_draw.mono (by decide)) c__law_one_of c__law_text_of
  have c__law_some_number := ok__law_some_number (P := P) (w := w) (mg := mg) (base := base) (k := 1) d__law_some_number B c__law_draw
  have c__law_some_form := ok__law_some_form (P := P) (w := w) (mg := mg) (base := base) (k := 3) d__law_some_form B (c__law_draw.mono (by decide)) c__law_form_name (c__law_some_number.mono (by decide)) (c__law_form.mono (by decide))
  have c__law_some_forms := ok__law_some_forms (P := P) (w := w) (mg := mg) (base := base) (k := 4) d__law_some_forms B (c__law_draw.mono (by decide)) c__law_some_form
  have c__law_some_pairs := ok__law_some_pairs (P := P) (w := w) (mg := mg) (base := base) (k := 3) d__law_some_pairs B (c__law_draw.mono (by decide)) c__law_any_word
  have c__law_rules := ok__law_rules (P := P) (w := w) (mg := mg) (base := base) (k := 0) d__law_rules B
  have c__law_some_row := ok__law_some_row (P := P) (w := w) (mg := mg) (base := base) (k := 5) d__law_some_row B (c__law_one_of.mono (by decide)) (c__law_any_word.mono (by decide)) c__law_some_forms (c__law_some_pairs.mono (by decide)) (c__law_rules.mono (by decide))
  have c__law_written := ok__law_written (P := P) (w := w) (mg := mg) (base := base) (k := 0) d__law_written B
  have c__law_row_lines := ok__law_row_lines (P := P) (w := w) (mg := mg) (base := base) (k := 1) d__law_row_lines B c__law_written
  have v__law_one_of := okV__law_one_of (P := P) (w := w) (mg := mg) (base := base) (k := 1) d__law_one_of B c__law_draw
  have c__law_spaced := okX__law_spaced (P := P) (w := w) (mg := mg) (base := base) (k := 1) d__law_spaced B c__law_draw
  have c__law_is_form_name := ok__law_is_form_name (P := P) (w := w) (mg := mg) (base := base) (k := 0) d__law_is_form_name B
  have c__law_is_digits := ok__law_is_digits (P := P) (w := w) (mg := mg) (base := base) (k := 0) d__law_is_digits B
  have c__law_parsed := ok__law_parsed (P := P) (w := w) (mg := mg) (base := base) (k := 1) d__law_parsed B c__law_is_digits c__law_is_form_name c__law_form c__law_written
  have c__law_part := ok__law_part (P := P) (w := w) (mg := mg) (base := base) (k := 2) d__law_part B (c__law_rules.mono (by decide)) c__law_parsed
  have c__law_read := ok__law_read (P := P) (w := w) (mg := mg) (base := base) (k := 3) d__law_read B c__law_part
  have c__law_odd_line := ok__law_odd_line (P := P) (w := w) (mg := mg) (base := base) (k := 3) d__law_odd_line B c__law_any_word (c__law_one_of.mono (by decide))
  have c__law_spoilt := ok__law_spoilt (P := P) (w := w) (mg := mg) (base := base) (k := 4) d__law_spoilt B (c__law_draw.mono (by decide)) c__law_odd_line (c__law_any_word.mono (by decide)) (v__law_one_of.mono (by decide))
  exact ok_law (k := 11) d_law B gBL g_DifferwithinError g_BadText g_BadClaim TX EX hnoL mBL kDE kBT kBC (c__law_start.mono (by decide)) (c__law_draw.mono (by decide)) (c__law_some_row.mono (by decide)) (c__law_row_lines.mono (by decide)) (c__law_spoilt.mono (by decide)) (c__law_spaced.mono (by decide)) (c__law_read.mono (by decide)) (x_read_claims.mono (by decide)) c__law_same
end
theorem all_mk {l : PySem.W.OpenLaw} {w : World} {K : PySem.W.Frag} {h : Heap} {mg : Str → Option Value} {fa f0 : Addr} {Cl cBT aH aR cBL fI cc cda cDE cBC : Addr} (X : K.In h) (G0 : h.Ns mainGlobals mg) (hfa : mg "law" = some (.ref fa))
    {od an : Option Addr} {sl : Array (Option Value)} {oc kV dc pm cd ct : Value} (a0 : PySem.W.nsIn K mainGlobals "law" = some (some (.ref f0))) (l0 : K.lookup f0 = some ⟨oc, od, .func (PySem.W.fnOf "law" "law" (defArgs s_law) (defBody s_law) (defScope s_law) .none kV dc pm an cd ct), sl⟩) (c0 : PySem.W.codeIn K cd "law" = true) (k0 : PySem.W.keepIn K (.ref f0) = true)
    (gC_ClaimReader : mg "ClaimReader" = some (.ref Cl)) (R : Rk K Cl) (B : Bi mg) (gBT : mg "BadText" = some (.ref cBT)) (gHEADS : mg "HEADS" = some (.ref aH)) (gRULES : mg "RULES" = some (.ref aR)) (G : Gb K mg aH aR) (yH : ∃ o, K.lookup aH = some o ∧ o.cls = .type "tuple" ∧ o.dict = none) (gBL : mg "BadLine" = some (.ref cBL)) (g_DifferwithinError : mg "DifferwithinError" = some (.ref cDE)) (g_BadText : mg "BadText" = some (.ref cBT)) (g_BadClaim : mg "BadClaim" = some (.ref cBC)) (XB : XT K mg "BadText" cBT) (TL : Own.Facts l.prog K cBL fI cc cda "line" Own.pB Own.bB Own.sB "BadLine.__init__") (zSuper : mg "super" = none) (TX : XfC K cBL) (EX : ExcC K cBL) (hnoL : PySem.W.findIn K (.ref cBL) "line" = some none) (mBL : PySem.W.exmOne K (.ref cBL) (.ref cBL) = some true) (kDE : PySem.W.kitOne K (.ref cBL) (.ref cDE) = some true) (kBT : PySem.W.kitOne K (.ref cBL) (.ref cBT) = some false) (kBC : PySem.W.kitOne K (.ref cBL) (.ref cBC) = some false)
    (d_take : MDef K Cl "take" "ClaimReader.take" s_ClaimReader_take ["self", "line"])
    (d_write_integer : Def K mg "write_integer" "write_integer" s_write_integer ["n"])
    (d_write_term : Def K mg "write_term" "write_term" s_write_term ["name", "size"])
    (d_is_name : Def K mg "is_name" "is_name" s_is_name ["text"])
    (d_read_integer : Def K mg "read_integer" "read_integer" s_read_integer ["text"])
    (d_form : Def K mg "form" "form" s_form ["constant", "pairs"])
    (d_write_form : Def K mg "write_form" "write_form" s_write_form ["f"])
    (d_read_term : Def K mg "read_term" "read_term" s_read_term ["text", "sign"])
    (d_read_form : Def K mg "read_form" "read_form" s_read_form ["text"])
    (d_init : KDef K Cl "ClaimReader.__init__" s_ClaimReader___init__ ["self"])
    (d_head : MDef K Cl "take_head" "ClaimReader.take_head" s_ClaimReader_take_head ["self", "words"])
    (d_part : MDef K Cl "take_part" "ClaimReader.take_part" s_ClaimReader_take_part ["self", "words"])
    (d_end : MDef K Cl "take_end" "ClaimReader.take_end" s_ClaimReader_take_end ["self"])
    (d_read_claims : Def K mg "read_claims" "read_claims" s_read_claims ["text"])
    (d__law_is_int : Def K mg "_law_is_int" "_law_is_int" s__law_is_int ["x"])
    (d__law_same : Def K mg "_law_same" "_law_same" s__law_same ["x", "y"])
    (d__law_form : Def K mg "_law_form" "_law_form" s__law_form ["constant", "pairs"])
    (d__law_draw : Def K mg "_law_draw" "_law_draw" s__law_draw ["state", "most"])
    (d__law_start : Def K mg "_law_start" "_law_start" s__law_start ["script"])
    (d__law_one_of : Def K mg "_law_one_of" "_law_one_of" s__law_one_of ["state", "items"])
    (d__law_text_of : Def K mg "_law_text_of" "_law_text_of" s__law_text_of ["state", "signs", "many"])
    (d__law_any_word : Def K mg "_law_any_word" "_law_any_word" s__law_any_word ["state"])
    (d__law_form_name : Def K mg "_law_form_name" "_law_form_name" s__law_form_name ["state"])
    (d__law_some_number : Def K mg "_law_some_number" "_law_some_number" s__law_some_number ["state"])
    (d__law_some_form : Def K mg "_law_some_form" "_law_some_form" s__law_some_form ["state"])
    (d__law_some_forms : Def K mg "_law_some_forms" "_law_some_forms" s__law_some_forms ["state"])
    (d__law_some_pairs : Def K mg "_law_some_pairs" "_law_some_pairs" s__law_some_pairs ["state"])
    (d__law_rules : Def K mg "_law_rules" "_law_rules" s__law_rules [])
    (d__law_some_row : Def K mg "_law_some_row" "_law_some_row" s__law_some_row ["state"])
    (d__law_written : Def K mg "_law_written" "_law_written" s__law_written ["f"])
    (d__law_row_lines : Def K mg "_law_row_lines" "_law_row_lines" s__law_row_lines ["row"])
    (d__law_spaced : Def K mg "_law_spaced" "_law_spaced" s__law_spaced ["state", "words"])
    (d__law_is_form_name : Def K mg "_law_is_form_name" "_law_is_form_name" s__law_is_form_name ["text"])
    (d__law_is_digits : Def K mg "_law_is_digits" "_law_is_digits" s__law_is_digits ["text"])
    (d__law_parsed : Def K mg "_law_parsed" "_law_parsed" s__law_parsed ["words"])
    (d__law_part : Def K mg "_law_part" "_law_part" s__law_part ["parts", "words"])
    (d__law_read : Def K mg "_law_read" "_law_read" s__law_read ["lines"])
    (d__law_odd_line : Def K mg "_law_odd_line" "_law_odd_line" s__law_odd_line ["state"])
    (d__law_spoilt : Def K mg "_law_spoilt" "_law_spoilt" s__law_spoilt ["state", "lines"]) :
    ∃ fd : FuncData, (∀ (s : Shared) (v : Value), BindsTo s fd ⟨[v], []⟩ [("script", v)]) ∧ ∀ base : Heap, K.In base → base.Ns mainGlobals mg → FnOk l.prog w K mg base CX0 12 fa fd ["script"] (spLaw K) := by
  have e := hfa.symm.trans (PySem.W.mg_of X G0 a0)
  cases e
  exact ⟨PySem.W.fnOf "law" "law" (defArgs s_law) (defBody s_law) (defScope s_law) .none kV dc pm an cd ct, fun s v => .of_eq rfl, fun base _ _ => top_ok gC_ClaimReader R B gBT gHEADS gRULES G yH gBL g_DifferwithinError g_BadText g_BadClaim XB TL zSuper TX EX hnoL mBL kDE kBT kBC d_take d_write_integer d_write_term d_is_name d_read_integer d_form d_write_form d_read_term d_read_form d_init d_head d_part d_end d_read_claims d__law_is_int d__law_same d__law_form d__law_draw d__law_start d__law_one_of d__law_text_of d__law_any_word d__law_form_name d__law_some_number d__law_some_form d__law_some_forms d__law_some_pairs d__law_rules d__law_some_row d__law_written d__law_row_lines d__law_spaced d__law_is_form_name d__law_is_digits d__law_parsed d__law_part d__law_read d__law_odd_line d__law_spoilt (fun_mk (st := s_law) l0 c0 k0)⟩
end C
open PySem PySem.W PyProof.Rows
set_option maxRecDepth 100000 in
set_option maxHeartbeats 0 in
theorem PySem.Challenge.cw_differwithin_k59_bad_lines_of_claims_holds : PySem.Challenge.rw_differwithin_k59_bad_lines_of_claims.Holds := by
  refine hdT ?_
  k_fill
  refine L2.walk_of (l := PySem.Challenge.rw_differwithin_k59_bad_lines_of_claims) (n := 63) (k := 12) (x := "script") (CX := fun _ => L2.CX0) (sp := fun w => C.spLaw _) rfl (by decide) rfl ⟨rfl, by decide, by decide⟩ (fun w h Y => PySem.W.kIn_of Y) ?F (fun _ _ a ns hl _ hS => ⟨a, ns, rfl, hS, hl, fun _ => rfl⟩) (fun _ _ _ _ _ h => h)
  case F =>
    intro w mg fa h KX G hmg
    refine' C.all_mk KX G hmg ?a0 ?l0 ?c0 ?k0 ?gC_ClaimReader ?R ?B ?gBT ?gHEADS ?gRULES ?G ?yH ?gBL ?g_DifferwithinError ?g_BadText ?g_BadClaim ?XB ?TL ?zSuper ?TX ?EX ?hnoL ?mBL ?kDE ?kBT ?kBC ?d_take ?d_write_integer ?d_write_term ?d_is_name ?d_read_integer ?d_form ?d_write_form ?d_read_term ?d_read_form ?d_init ?d_head ?d_part ?d_end ?d_read_claims ?d__law_is_int ?d__law_same ?d__law_form ?d__law_draw ?d__law_start ?d__law_one_of ?d__law_text_of ?d__law_any_word ?d__law_form_name ?d__law_some_number ?d__law_some_form ?d__law_some_forms ?d__law_some_pairs ?d__law_rules ?d__law_some_row ?d__law_written ?d__law_row_lines ?d__law_spaced ?d__law_is_form_name ?d__law_is_digits ?d__law_parsed ?d__law_part ?d__law_read ?d__law_odd_line ?d__law_spoilt
    (case a0 => k_is); (case l0 => k_is); (case c0 => k_is); (case k0 => k_is)
    (case gC_ClaimReader => refine' PySem.W.mg_of KX G ?a; (case a => k_is))
    (case R => exact C.rk_mk (by k_is) (by k_is) (by k_is) (by k_is) (by k_is) (by k_is) (by k_is) (by k_is))
    (case B => exact ⟨PySem.W.mg_none_of KX G (by k_is), PySem.W.mg_none_of KX G (by k_is), PySem.W.mg_none_of KX G (by k_is), PySem.W.mg_none_of KX G (by k_is), PySem.W.mg_none_of KX G (by k_is), PySem.W.mg_none_of KX G (by k_is), PySem.W.mg_none_of KX G (by k_is), PySem.W.mg_none_of KX G (by k_is), PySem.W.mg_none_of KX G (by k_is), PySem.W.mg_none_of KX G (by k_is), PySem.W.mg_none_of KX G (by k_is), PySem.W.mg_none_of KX G (by k_is), PySem.W.mg_none_of KX G (by k_is), PySem.W.mg_none_of KX G (by k_is)⟩)
    (case gBT => refine' PySem.W.mg_of KX G ?a; (case a => k_is))
    (case gHEADS => refine' PySem.W.mg_of KX G ?a; (case a => k_is))
    (case gRULES => refine' PySem.W.mg_of KX G ?a; (case a => k_is))
    (case G => exact ⟨(by refine' C.cI_mk KX G ?a ?e; (case a => k_is); (case e => exact rfl)), (by refine' C.cS_mk KX G ?a ?e; (case a => k_is); (case e => exact rfl)), (by refine' C.cS_mk KX G ?a ?e; (case a => k_is); (case e => exact rfl)), (by refine' C.cS_mk KX G ?a ?e; (case a => k_is); (case e => exact rfl)), (by refine' C.cS_mk KX G ?a ?e; (case a => k_is); (case e => exact rfl)), (by refine' PySem.W.mg_of KX G ?a; (case a => k_is)), (by refine' PySem.W.mg_of KX G ?a; (case a => k_is)), (by intro H; refine' C.tT_mk ?l ?c ?d ?s ?v H; (case l => k_is); (case c => exact rfl); (case d => exact rfl); (case s => decide); (case v => repeat (first | exact .nil | refine .cons ⟨_, rfl⟩ ?_))), (by intro H; refine' C.tT_mk ?l ?c ?d ?s ?v H; (case l => k_is); (case c => exact rfl); (case d => exact rfl); (case s => decide); (case v => repeat (first | exact .nil | refine .cons ⟨_, rfl⟩ ?_)))⟩)
    (case yH => refine' C.yT_mk ?l ?c ?d; (case l => k_is); (case c => exact rfl); (case d => exact rfl))
    (case gBL => refine' PySem.W.mg_of KX G ?a; (case a => k_is))
    (case g_DifferwithinError => refine' PySem.W.mg_of KX G ?a; (case a => k_is))
    (case g_BadText => refine' PySem.W.mg_of KX G ?a; (case a => k_is))
    (case g_BadClaim => refine' PySem.W.mg_of KX G ?a; (case a => k_is))
    (case XB => refine' C.xt_mk KX G ?a ?x ?k ?b ?t ?c ?s; (case a => first | k_is | rfl); (case x => k_exc); (case k => first | k_is | rfl); (case b => first | k_is | rfl); (case t => first | k_is | rfl); (case c => first | k_is | rfl); (case s => first | rfl | k_is))
    (case TL => refine' C.facts_mk ?xL ?rv ?sa ?no ?iC ?tC ?up ?isV ?isC ?fn ?cd ?lc ?vc ?fc ?cell ?kC ?exC ?tyC ?any ?top; (case xL => first | k_is | rfl); (case rv => decide +kernel); (case sa => first | k_is | rfl); (case no => first | k_is | rfl); (case iC => first | k_is | rfl); (case tC => first | k_is | rfl); (case up => first | k_is | rfl); (case isV => first | k_is | rfl); (case isC => first | k_is | rfl); (case fn => first | k_is | rfl); (case cd => first | k_is | rfl); (case lc => first | k_is | rfl); (case vc => exact rfl); (case fc => first | rfl | decide +kernel); (case cell => first | k_is | rfl); (case kC => first | k_is | rfl); (case exC => first | k_is | rfl); (case tyC => first | k_is | rfl); (case any => first | k_is | rfl); (case top => first | rfl | decide +kernel))
    (case zSuper => exact PySem.W.mg_none_of KX G (by k_is))
    (case TX => refine' C.tx_mk ?ga ?gg ?exC ?hd; (case ga => first | k_is | rfl); (case gg => first | k_is | rfl); (case exC => first | k_is | rfl); (case hd => first | k_is | rfl))
    (case EX => refine' C.ex_mk ?hg ?hk ?hs ?hd ?ha ?hn ?ht ?hm; (case hg => first | k_is | rfl); (case hk => first | k_is | rfl); (case hs => first | k_is | rfl); (case hd => first | k_is | rfl); (case ha => first | k_is | rfl); (case hn => first | k_is | rfl); (case ht => first | k_is | rfl); (case hm => first | k_is | rfl))
    (case hnoL => k_is)
    (case mBL => refine' C.m_mk ?h1 ?h2 ?h3 ?h4; (case h1 => first | k_is | rfl); (case h2 => first | k_is | rfl); (case h3 => first | k_is | rfl); (case h4 => first | rfl | k_is))
    (case kDE => refine' C.kit_mk ?h0 ?c ?t ?s; (case h0 => first | rfl | decide +kernel); (case c => first | k_is | rfl); (case t => first | k_is | rfl); (case s => first | k_is | rfl))
    (case kBT => refine' C.kit_mk ?h0 ?c ?t ?s; (case h0 => first | rfl | decide +kernel); (case c => first | k_is | rfl); (case t => first | k_is | rfl); (case s => first | k_is | rfl))
    (case kBC => refine' C.kit_mk ?h0 ?c ?t ?s; (case h0 => first | rfl | decide +kernel); (case c => first | k_is | rfl); (case t => first | k_is | rfl); (case s => first | k_is | rfl))
    (case d_take => refine' C.mdef_mk ?a ?i ?l ?c ?k ?b; (case a => k_is); (case i => k_is); (case l => k_is); (case c => k_is); (case k => k_is); (case b => exact fun _ _ _ _ _ _ us hl => match us, hl with | [_, _], _ => rfl))
    (case d_write_integer => refine' C.def_mk KX G ?a ?l ?c ?k ?b; (case a => k_is); (case l => k_is); (case c => k_is); (case k => k_is); (case b => exact fun _ _ _ _ _ _ us hl => match us, hl with | [_], _ => rfl))
    (case d_write_term => refine' C.def_mk KX G ?a ?l ?c ?k ?b; (case a => k_is); (case l => k_is); (case c => k_is); (case k => k_is); (case b => exact fun _ _ _ _ _ _ us hl => match us, hl with | [_, _], _ => rfl))
    (case d_is_name => refine' C.def_mk KX G ?a ?l ?c ?k ?b; (case a => k_is); (case l => k_is); (case c => k_is); (case k => k_is); (case b => exact fun _ _ _ _ _ _ us hl => match us, hl with | [_], _ => rfl))
    (case d_read_integer => refine' C.def_mk KX G ?a ?l ?c ?k ?b; (case a => k_is); (case l => k_is); (case c => k_is); (case k => k_is); (case b => exact fun _ _ _ _ _ _ us hl => match us, hl with | [_], _ => rfl))
    (case d_form => refine' C.def_mk KX G ?a ?l ?c ?k ?b; (case a => k_is); (case l => k_is); (case c => k_is); (case k => k_is); (case b => exact fun _ _ _ _ _ _ us hl => match us, hl with | [_, _], _ => rfl))
    (case d_write_form => refine' C.def_mk KX G ?a ?l ?c ?k ?b; (case a => k_is); (case l => k_is); (case c => k_is); (case k => k_is); (case b => exact fun _ _ _ _ _ _ us hl => match us, hl with | [_], _ => rfl))
    (case d_read_term => refine' C.def_mk KX G ?a ?l ?c ?k ?b; (case a => k_is); (case l => k_is); (case c => k_is); (case k => k_is); (case b => exact fun _ _ _ _ _ _ us hl => match us, hl with | [_, _], _ => rfl))
    (case d_read_form => refine' C.def_mk KX G ?a ?l ?c ?k ?b; (case a => k_is); (case l => k_is); (case c => k_is); (case k => k_is); (case b => exact fun _ _ _ _ _ _ us hl => match us, hl with | [_], _ => rfl))
    (case d_init => refine' C.kdef_mk ?m ?a ?i ?kc ?l ?c ?k ?b; (case m => k_is); (case a => k_is); (case i => k_is); (case kc => k_is); (case l => k_is); (case c => k_is); (case k => k_is); (case b => exact fun _ _ _ _ _ _ us hl => match us, hl with | [_], _ => rfl))
    (case d_head => refine' C.mdef_mk ?a ?i ?l ?c ?k ?b; (case a => k_is); (case i => k_is); (case l => k_is); (case c => k_is); (case k => k_is); (case b => exact fun _ _ _ _ _ _ us hl => match us, hl with | [_, _], _ => rfl))
    (case d_part => refine' C.mdef_mk ?a ?i ?l ?c ?k ?b; (case a => k_is); (case i => k_is); (case l => k_is); (case c => k_is); (case k => k_is); (case b => exact fun _ _ _ _ _ _ us hl => match us, hl with | [_, _], _ => rfl))
    (case d_end => refine' C.mdef_mk ?a ?i ?l ?c ?k ?b; (case a => k_is); (case i => k_is); (case l => k_is); (case c => k_is); (case k => k_is); (case b => exact fun _ _ _ _ _ _ us hl => match us, hl with | [_], _ => rfl))
    (case d_read_claims => refine' C.def_mk KX G ?a ?l ?c ?k ?b; (case a => k_is); (case l => k_is); (case c => k_is); (case k => k_is); (case b => exact fun _ _ _ _ _ _ us hl => match us, hl with | [_], _ => rfl))
    (case d__law_is_int => refine' C.def_mk KX G ?a ?l ?c ?k ?b; (case a => k_is); (case l => k_is); (case c => k_is); (case k => k_is); (case b => exact fun _ _ _ _ _ _ us hl => match us, hl with | [_], _ => rfl))
    (case d__law_same => refine' C.def_mk KX G ?a ?l ?c ?k ?b; (case a => k_is); (case l => k_is); (case c => k_is); (case k => k_is); (case b => exact fun _ _ _ _ _ _ us hl => match us, hl with | [_, _], _ => rfl))
    (case d__law_form => refine' C.def_mk KX G ?a ?l ?c ?k ?b; (case a => k_is); (case l => k_is); (case c => k_is); (case k => k_is); (case b => exact fun _ _ _ _ _ _ us hl => match us, hl with | [_, _], _ => rfl))
    (case d__law_draw => refine' C.def_mk KX G ?a ?l ?c ?k ?b; (case a => k_is); (case l => k_is); (case c => k_is); (case k => k_is); (case b => exact fun _ _ _ _ _ _ us hl => match us, hl with | [_, _], _ => rfl))
    (case d__law_start => refine' C.def_mk KX G ?a ?l ?c ?k ?b; (case a => k_is); (case l => k_is); (case c => k_is); (case k => k_is); (case b => exact fun _ _ _ _ _ _ us hl => match us, hl with | [_], _ => rfl))
    (case d__law_one_of => refine' C.def_mk KX G ?a ?l ?c ?k ?b; (case a => k_is); (case l => k_is); (case c => k_is); (case k => k_is); (case b => exact fun _ _ _ _ _ _ us hl => match us, hl with | [_, _], _ => rfl))
    (case d__law_text_of => refine' C.def_mk KX G ?a ?l ?c ?k ?b; (case a => k_is); (case l => k_is); (case c => k_is); (case k => k_is); (case b => exact fun _ _ _ _ _ _ us hl => match us, hl with | [_, _, _], _ => rfl))
    (case d__law_any_word => refine' C.def_mk KX G ?a ?l ?c ?k ?b; (case a => k_is); (case l => k_is); (case c => k_is); (case k => k_is); (case b => exact fun _ _ _ _ _ _ us hl => match us, hl with | [_], _ => rfl))
    (case d__law_form_name => refine' C.def_mk KX G ?a ?l ?c ?k ?b; (case a => k_is); (case l => k_is); (case c => k_is); (case k => k_is); (case b => exact fun _ _ _ _ _ _ us hl => match us, hl with | [_], _ => rfl))
    (case d__law_some_number => refine' C.def_mk KX G ?a ?l ?c ?k ?b; (case a => k_is); (case l => k_is); (case c => k_is); (case k => k_is); (case b => exact fun _ _ _ _ _ _ us hl => match us, hl with | [_], _ => rfl))
    (case d__law_some_form => refine' C.def_mk KX G ?a ?l ?c ?k ?b; (case a => k_is); (case l => k_is); (case c => k_is); (case k => k_is); (case b => exact fun _ _ _ _ _ _ us hl => match us, hl with | [_], _ => rfl))
    (case d__law_some_forms => refine' C.def_mk KX G ?a ?l ?c ?k ?b; (case a => k_is); (case l => k_is); (case c => k_is); (case k => k_is); (case b => exact fun _ _ _ _ _ _ us hl => match us, hl with | [_], _ => rfl))
    (case d__law_some_pairs => refine' C.def_mk KX G ?a ?l ?c ?k ?b; (case a => k_is); (case l => k_is); (case c => k_is); (case k => k_is); (case b => exact fun _ _ _ _ _ _ us hl => match us, hl with | [_], _ => rfl))
    (case d__law_rules => refine' C.def_mk KX G ?a ?l ?c ?k ?b; (case a => k_is); (case l => k_is); (case c => k_is); (case k => k_is); (case b => exact fun _ _ _ _ _ _ us hl => match us, hl with | [], _ => rfl))
    (case d__law_some_row => refine' C.def_mk KX G ?a ?l ?c ?k ?b; (case a => k_is); (case l => k_is); (case c => k_is); (case k => k_is); (case b => exact fun _ _ _ _ _ _ us hl => match us, hl with | [_], _ => rfl))
    (case d__law_written => refine' C.def_mk KX G ?a ?l ?c ?k ?b; (case a => k_is); (case l => k_is); (case c => k_is); (case k => k_is); (case b => exact fun _ _ _ _ _ _ us hl => match us, hl with | [_], _ => rfl))
    (case d__law_row_lines => refine' C.def_mk KX G ?a ?l ?c ?k ?b; (case a => k_is); (case l => k_is); (case c => k_is); (case k => k_is); (case b => exact fun _ _ _ _ _ _ us hl => match us, hl with | [_], _ => rfl))
    (case d__law_spaced => refine' C.def_mk KX G ?a ?l ?c ?k ?b; (case a => k_is); (case l => k_is); (case c => k_is); (case k => k_is); (case b => exact fun _ _ _ _ _ _ us hl => match us, hl with | [_, _], _ => rfl))
    (case d__law_is_form_name => refine' C.def_mk KX G ?a ?l ?c ?k ?b; (case a => k_is); (case l => k_is); (case c => k_is); (case k => k_is); (case b => exact fun _ _ _ _ _ _ us hl => match us, hl with | [_], _ => rfl))
    (case d__law_is_digits => refine' C.def_mk KX G ?a ?l ?c ?k ?b; (case a => k_is); (case l => k_is); (case c => k_is); (case k => k_is); (case b => exact fun _ _ _ _ _ _ us hl => match us, hl with | [_], _ => rfl))
    (case d__law_parsed => refine' C.def_mk KX G ?a ?l ?c ?k ?b; (case a => k_is); (case l => k_is); (case c => k_is); (case k => k_is); (case b => exact fun _ _ _ _ _ _ us hl => match us, hl with | [_], _ => rfl))
    (case d__law_part => refine' C.def_mk KX G ?a ?l ?c ?k ?b; (case a => k_is); (case l => k_is); (case c => k_is); (case k => k_is); (case b => exact fun _ _ _ _ _ _ us hl => match us, hl with | [_, _], _ => rfl))
    (case d__law_read => refine' C.def_mk KX G ?a ?l ?c ?k ?b; (case a => k_is); (case l => k_is); (case c => k_is); (case k => k_is); (case b => exact fun _ _ _ _ _ _ us hl => match us, hl with | [_], _ => rfl))
    (case d__law_odd_line => refine' C.def_mk KX G ?a ?l ?c ?k ?b; (case a => k_is); (case l => k_is); (case c => k_is); (case k => k_is); (case b => exact fun _ _ _ _ _ _ us hl => match us, hl with | [_], _ => rfl))
    (case d__law_spoilt => refine' C.def_mk KX G ?a ?l ?c ?k ?b; (case a => k_is); (case l => k_is); (case c => k_is); (case k => k_is); (case b => exact fun _ _ _ _ _ _ us hl => match us, hl with | [_, _], _ => rfl))
