import PyProof.Rows.All
import Wide.All
import OpenK.AllK
import Wide.FinOn
import HandS.ForMost
import HandS.Wide
import HandS.Style
import HandS.Strs
import HandS.Deep
import HandS.Conv
import HandS.More
import HandS.TupAny
import HandS.IsInst
import HandS.DictComp
import HandS.TryOnly
import HandS.ExcOwn
import HandS.WordsExc
import HandS.Small
import HandS.Walk
import HandS.Codes
import PySem.Challenge.RW_differwithin_k60_write_claims
set_option Elab.async false
set_option linter.all false
set_option maxRecDepth 100000
set_option maxHeartbeats 4000000
/-! Kx: what my texts share: callees by name, heaps that keep tuples, immutable data. -/
namespace Kx
open PySem PySem.Spec PyProof.Rows L2

/-! ### a def of the text, a callee -/
structure Def (K : PySem.W.Frag) (mg : Str → Option Value) (nm qual : Str) (st : Stmt) (ps : List Str) : Prop where
  ex : ∃ f fd, Fun K nm qual st f fd ∧ mg nm = some (.ref f) ∧ Binds K fd ps []
structure Cal (P : Program) (w : World) (K : PySem.W.Frag) (mg : Str → Option Value) (base : Heap) (CX : CXT) (k : Nat) (nm : Str) (ps : List Str) (sp : Sp) : Prop where
  ex : ∃ (f : Addr) (fd : FuncData), FnOk P w K mg base CX k f fd ps sp ∧ mg nm = some (.ref f) ∧ PySem.W.keepIn K (.ref f) = true ∧ Binds K fd ps []
theorem Cal.mono {P : Program} {w : World} {K : PySem.W.Frag} {mg : Str → Option Value} {base : Heap} {CX : CXT} {j k : Nat} {nm : Str} {ps : List Str} {sp : Sp} (c : Cal P w K mg base CX j nm ps sp) (h : j ≤ k) : Cal P w K mg base CX k nm ps sp := by
  obtain ⟨f, fd, a, b, d, e⟩ := c.ex
  exact ⟨f, fd, a.mono h, b, d, e⟩
theorem Def.cal {P : Program} {w : World} {K : PySem.W.Frag} {mg : Str → Option Value} {base : Heap} {CX : CXT} {k : Nat} {nm qual : Str} {st : Stmt} {ps : List Str} {sp : Sp} (D : Def K mg nm qual st ps)
    (h : ∀ f fd, Fun K nm qual st f fd → FnOk P w K mg base CX k f fd ps sp) : Cal P w K mg base CX k nm ps sp := by
  obtain ⟨f, fd, a, b, c⟩ := D.ex
  exact ⟨f, fd, h f fd a, b, a.kp, c⟩
section
variable {X : Cx} {CX : CXT} {k : Nat} {ps : List Str} {sp : Sp} {E : XK} {x : Str} {p pos : Pos} {e : Expr} {es : List Expr} {t : TA}
theorem pe_cal (c : Cal X.prog X.w X.K X.mg X.base CX0 k x ps sp) (hr : Room k X.A) (hg : Gl X x) (ha : PA X (e :: es) t) (hdb : (x == ("__debug__" : Str)) = false := by decide)
    (he : starEach (e :: es) X.env = (false, eval e X.env) :: starEach es X.env := by rfl) (hpl : (backTo pos (starEach es X.env)).any (·.1) = false := by rfl) :
    PE X (.Call (.Name x p) (e :: es) [] pos) (tCall sp [] E0 t) := by
  obtain ⟨f, fd, a, b, d, q⟩ := c.ex
  exact pe_call a hr hg b d q .nil pass0 ha hdb he hpl
theorem pe_cal0 (c : Cal X.prog X.w X.K X.mg X.base CX0 k x ps sp) (hr : Room k X.A) (hg : Gl X x) (hdb : (x == ("__debug__" : Str)) = false := by decide) :
    PE X (.Call (.Name x p) [] [] pos) (tCall sp [] E0 tNil) := by
  obtain ⟨f, fd, a, b, d, q⟩ := c.ex
  exact pe_call0 a hr hg b d q .nil pass0 hdb
end
/-- a method as a callee -/
structure MCal (P : Program) (w : World) (K : PySem.W.Frag) (mg : Str → Option Value) (base : Heap) (CX : CXT) (k : Nat) (C : Addr) (nm : Str) (ps : List Str) (sp : Sp) : Prop where
  ex : ∃ (f : Addr) (fd : FuncData), FnOk P w K mg base CX k f fd ps sp ∧ Meth K C nm f ∧ Binds K fd ps []
structure MDef (K : PySem.W.Frag) (C : Addr) (nm qual : Str) (st : Stmt) (ps : List Str) : Prop where
  ex : ∃ f fd, Fun K nm qual st f fd ∧ Meth K C nm f ∧ Binds K fd ps []
theorem MCal.mono {P : Program} {w : World} {K : PySem.W.Frag} {mg : Str → Option Value} {base : Heap} {CX : CXT} {j k : Nat} {C : Addr} {nm : Str} {ps : List Str} {sp : Sp} (c : MCal P w K mg base CX j C nm ps sp) (h : j ≤ k) : MCal P w K mg base CX k C nm ps sp := by
  obtain ⟨f, fd, a, b, d⟩ := c.ex
  exact ⟨f, fd, a.mono h, b, d⟩
theorem MDef.cal {P : Program} {w : World} {K : PySem.W.Frag} {mg : Str → Option Value} {base : Heap} {CX : CXT} {k : Nat} {C : Addr} {nm qual : Str} {st : Stmt} {ps : List Str} {sp : Sp} (D : MDef K C nm qual st ps)
    (h : ∀ f fd, Fun K nm qual st f fd → FnOk P w K mg base CX k f fd ps sp) : MCal P w K mg base CX k C nm ps sp := by
  obtain ⟨f, fd, a, b, c⟩ := D.ex
  exact ⟨f, fd, h f fd a, b, c⟩
section
variable {X : Cx} {CX : CXT} {k : Nat} {C : Addr} {ps : List Str} {sp : Sp} {E : XK} {m : Str} {apos pos : Pos} {o e : Expr} {es : List Expr} {ta : TE} {t : TA}
theorem pe_mcal {pl : Sem Bool} (cl : Cls X.K C) (c : MCal X.prog X.w X.K X.mg X.base CX0 k C m ps sp) (hr : Room k X.A) (ho : PE X o ta) (ha : PA X (e :: es) t)
    (hst : starEach (e :: es) X.env = (false, eval e X.env) :: starEach es X.env := by rfl) (hpl : (backTo pos (starEach es X.env)).any (·.1) = false := by rfl)
    (ht : eval (.Call (.Attribute o m apos) (e :: es) [] pos) X.env = (do
      let ov ← eval o X.env
      standAt apos.atName
      let (f, first) ← holding [ov] (getMethod ov m pl)
      callWith pos f first (backTo pos (starEach (e :: es) X.env)) (backToKw pos (keywordEach [] X.env))) := by rfl) :
    PE X (.Call (.Attribute o m apos) (e :: es) [] pos) (tMeth C m sp [] E0 ta t) := by
  obtain ⟨f, fd, a, b, d⟩ := c.ex
  exact pe_meth ho cl b a hr d .nil pass0 ha hst hpl ht
theorem pe_mcal0 {pl : Sem Bool} (cl : Cls X.K C) (c : MCal X.prog X.w X.K X.mg X.base CX0 k C m ps sp) (hr : Room k X.A) (ho : PE X o ta)
    (ht : eval (.Call (.Attribute o m apos) [] [] pos) X.env = (do
      let ov ← eval o X.env
      standAt apos.atName
      let (f, first) ← holding [ov] (getMethod ov m pl)
      callWith pos f first (backTo pos (starEach [] X.env)) (backToKw pos (keywordEach [] X.env))) := by rfl) :
    PE X (.Call (.Attribute o m apos) [] [] pos) (tMeth C m sp [] E0 ta tNil) := by
  obtain ⟨f, fd, a, b, d⟩ := c.ex
  exact pe_meth0 ho cl b a hr d .nil pass0 ht
end

/-! ### further operators -/
section
variable {X : Cx}
theorem ip_addS : PIp X .Add (fun x y H Q => ∃ i j, x = .str i ∧ y = .str j ∧ i.length + j.length ≤ sizeLine ∧ Q (.str (i ++ j)) H) :=
  fun pins s σ H x y v u Q I r1 r2 h => iop_add_str pins s σ H x y v u Q I r1 r2 h
/-- text * int -/
theorem op_repS : OpR X (binaryOp .Mult) (fun x y H Q => ∃ z n, x = .str z ∧ y = .int n ∧ MulOk z n ∧ Q (.str (Txt.mul z n)) H) := by
  intro pins s σ H x y v u Q I r1 r2 h
  obtain ⟨z, n, rfl, rfl, ok, q⟩ := h
  obtain ⟨t, rfl⟩ := r1
  obtain ⟨t', rfl⟩ := r2
  exact SB.mul ok fun t2 k => ⟨.str _, H, I.tok _, ⟨_, rfl⟩, q⟩
end

/-! ### heaps that keep their tuples -/
def TK (H H' : Hp) : Prop := (∀ b xs, H b = some (.tup xs) → H' b = some (.tup xs)) ∧ ∀ b o u, H b = some (.frz o u) → H' b = some (.frz o u)
theorem TK.refl (H : Hp) : TK H H := ⟨fun _ _ h => h, fun _ _ _ h => h⟩
theorem TK.trans {H H1 H2 : Hp} (a : TK H H1) (b : TK H1 H2) : TK H H2 := ⟨fun c xs h => b.1 c xs (a.1 c xs h), fun c o u h => b.2 c o u (a.2 c o u h)⟩
theorem _root_.L2.Same.tk {H H' : Hp} (s : Same H H') : TK H H' := ⟨fun b _ h => s b _ h, fun b _ _ h => s b _ h⟩
theorem TK.upd {H : Hp} {p : Addr} {o : HO} (h : ∀ xs, H p ≠ some (.tup xs)) (h' : ∀ o u, H p ≠ some (.frz o u)) : TK H (upd H p o) :=
  ⟨fun b xs e => by rw [upd_ne (fun z => h xs (by rw [← z]; exact e))]; exact e, fun b o u e => by rw [upd_ne (fun z => h' o u (by rw [← z]; exact e))]; exact e⟩
theorem TK.new {H : Hp} {p : Addr} {o : HO} (h : H p = none) : TK H (L2.upd H p o) := TK.upd (fun _ e => by rw [h] at e; cases e) (fun _ _ e => by rw [h] at e; cases e)
theorem TK.lst {H : Hp} {p : Addr} {o : HO} {xs : List V} (h : H p = some (.lst xs)) : TK H (L2.upd H p o) := TK.upd (fun _ e => by rw [h] at e; cases e) (fun _ _ e => by rw [h] at e; cases e)
theorem TK.dic {H : Hp} {p : Addr} {o : HO} {xs : List (Key × V)} (h : H p = some (.dK xs)) : TK H (L2.upd H p o) := TK.upd (fun _ e => by rw [h] at e; cases e) (fun _ _ e => by rw [h] at e; cases e)
theorem TK.ins {H : Hp} {p C dx : Addr} {o : HO} {fs : List (Str × V)} (h : H p = some (.ins C dx fs)) : TK H (L2.upd H p o) := TK.upd (fun _ e => by rw [h] at e; cases e) (fun _ _ e => by rw [h] at e; cases e)
theorem TK.tup {K : PySem.W.Frag} {H H' : Hp} {a : Addr} {xs : List V} (t : TK H H') (h : SqT K H a xs) : SqT K H' a xs := by
  rcases h with (h | ⟨o, h⟩) | h
  · exact .inl (.inl (t.1 _ _ h))
  · exact .inl (.inr ⟨o, t.2 _ _ _ h⟩)
  · exact .inr h
theorem same_new {H : Hp} {p : Addr} {o : HO} (h : H p = none) : Same H (upd H p o) := fun b x e => by
  rw [upd_ne (ne_of_none e h)]
  exact e
theorem _root_.L2.Same.upd {H H1 : Hp} {p : Addr} {o : HO} (s : Same H H1) (h : H p = none) : Same H (L2.upd H1 p o) := fun b x e => by
  rw [upd_ne (ne_of_none e h)]
  exact s b x e
/-- all but the object at a is as it was -/
def But (a : Addr) (H H' : Hp) : Prop := ∀ b o, b ≠ a → H b = some o → H' b = some o
theorem But.refl (a : Addr) (H : Hp) : But a H H := fun _ _ _ h => h
theorem But.trans {a : Addr} {H H1 H2 : Hp} (x : But a H H1) (y : But a H1 H2) : But a H H2 := fun b o n h => y b o n (x b o n h)
theorem _root_.L2.Same.but {H H' : Hp} (s : Same H H') (a : Addr) : But a H H' := fun b o _ h => s b o h
theorem But.tk {a : Addr} {H H' : Hp} {xs : List V} (b : But a H H') (h : H a = some (.lst xs)) : TK H H' :=
  ⟨fun c ys e => b c _ (fun z => by rw [z, h] at e; cases e) e, fun c o u e => b c _ (fun z => by rw [z, h] at e; cases e) e⟩
theorem But.upd {a : Addr} {H : Hp} {o : HO} : But a H (L2.upd H a o) := fun b x n e => by rw [upd_ne n]; exact e
theorem But.new {a p : Addr} {H H1 : Hp} {o : HO} (s : But a H H1) (h : H p = none) : But a H (L2.upd H1 p o) := fun b x n e => by
  rw [upd_ne (ne_of_none e h)]
  exact s b x n e
theorem But.new1 {a p : Addr} {H H1 : Hp} {o : HO} (s : But a H H1) (h : H1 p = none) : But a H (L2.upd H1 p o) := fun b x n e => by
  rw [upd_ne (ne_of_none (s b x n e) h)]
  exact s b x n e
theorem But.self {a : Addr} {H H1 : Hp} {o : HO} (s : But a H H1) : But a H (L2.upd H1 a o) := fun b x n e => by
  rw [upd_ne n]
  exact s b x n e
theorem But.free {a p : Addr} {H H1 : Hp} (s : But a H H1) (n : p ≠ a) (h : H1 p = none) : H p = none := by
  cases q : H p with
  | none => rfl
  | some o =>
    rw [s p o n q] at h
    cases h
theorem But.lst {K : PySem.W.Frag} {a b : Addr} {H H' : Hp} {xs : List V} (x : But a H H') (n : b ≠ a) (h : SqL K H b xs) : SqL K H' b xs := by
  rcases h with (h | ⟨o, h⟩) | h
  · exact .inl (.inl (x _ _ n h))
  · exact .inl (.inr ⟨o, x _ _ n h⟩)
  · exact .inr h

theorem But.lstR {K : PySem.W.Frag} {a b : Addr} {H H' : Hp} {xs : List V} (h : SqL K H b xs) (n : b ≠ a) (x : But a H H') : SqL K H' b xs := x.lst n h
theorem But.transR {a : Addr} {H H1 H2 : Hp} (y : But a H1 H2) (x : But a H H1) : But a H H2 := x.trans y
theorem sameTransR {H H1 H2 : Hp} (y : Same H1 H2) (x : Same H H1) : Same H H2 := x.trans y
theorem sameFreeR {H H' : Hp} {l : Addr} (h : H' l = none) (e : Same H H') : H l = none := e.free h

/-! ### immutable data: tuples of tuples of ints, texts, bools, None -/
mutual
inductive Im (K : PySem.W.Frag) (H : Hp) : V → PyData → Prop
  | non : Im K H .non .none
  | bl (b : Bool) : Im K H (.bl b) (.bool b)
  | int (i : Int) : Im K H (.int i) (.int i)
  | str (x : Str) : Im K H (.str x) (.str x)
  | tup {a : Addr} {xs : List V} {ds : List PyData} : SqT K H a xs → Ims K H xs ds → Im K H (.ref a) (.tuple ds)
inductive Ims (K : PySem.W.Frag) (H : Hp) : List V → List PyData → Prop
  | nil : Ims K H [] []
  | cons {v : V} {vs : List V} {d : PyData} {ds : List PyData} : Im K H v d → Ims K H vs ds → Ims K H (v :: vs) (d :: ds)
end
section
variable {K : PySem.W.Frag} {H H' : Hp}
mutual
theorem Im.dp : ∀ (d : PyData) {v : V}, Im K H v d → Dp K H v d
  | .none, _, h => by cases h; exact .non
  | .bool _, _, h => by cases h; exact .bl _
  | .int _, _, h => by cases h; exact .int _
  | .str _, _, h => by cases h; exact .str _
  | .list _, _, h => by cases h
  | .tuple ds, _, h => by
    cases h with
    | tup a b => exact .tup a (Ims.dp ds b)
  | .dict _, _, h => by cases h
theorem Ims.dp : ∀ (ds : List PyData) {vs : List V}, Ims K H vs ds → DpAll K H vs ds
  | [], _, h => by cases h; exact .nil
  | d :: ds, _, h => by
    cases h with
    | cons a b => exact .cons (Im.dp d a) (Ims.dp ds b)
end
mutual
theorem Im.mono (t : TK H H') : ∀ (d : PyData) {v : V}, Im K H v d → Im K H' v d
  | .none, _, h => by cases h; exact .non
  | .bool _, _, h => by cases h; exact .bl _
  | .int _, _, h => by cases h; exact .int _
  | .str _, _, h => by cases h; exact .str _
  | .list _, _, h => by cases h
  | .tuple ds, _, h => by
    cases h with
    | tup a b => exact .tup (t.tup a) (Ims.mono t ds b)
  | .dict _, _, h => by cases h
theorem Ims.mono (t : TK H H') : ∀ (ds : List PyData) {vs : List V}, Ims K H vs ds → Ims K H' vs ds
  | [], _, h => by cases h; exact .nil
  | d :: ds, _, h => by
    cases h with
    | cons a b => exact .cons (Im.mono t d a) (Ims.mono t ds b)
end
theorem TK.im {v : V} {d : PyData} (t : TK H H') (h : Im K H v d) : Im K H' v d := Im.mono t d h
theorem TK.ims {v : List V} {d : List PyData} (t : TK H H') (h : Ims K H v d) : Ims K H' v d := Ims.mono t d h
theorem Ims.length : ∀ {vs : List V} {ds : List PyData}, Ims K H vs ds → vs.length = ds.length
  | _, _, .nil => rfl
  | _, _, .cons _ h => by rw [List.length_cons, List.length_cons, Ims.length h]
theorem Ims.get : ∀ {vs : List V} {ds : List PyData}, Ims K H vs ds → ∀ {i : Nat} {v : V}, vs[i]? = some v → ∃ d, ds[i]? = some d ∧ Im K H v d
  | _, _, .nil, _, _, e => by simp at e
  | _, _, .cons h _, 0, _, e => by
    cases e
    exact ⟨_, rfl, h⟩
  | _, _, .cons _ h, i + 1, _, e => Ims.get h (i := i) e
theorem Ims.get' : ∀ {vs : List V} {ds : List PyData}, Ims K H vs ds → ∀ {i : Nat} {d : PyData}, ds[i]? = some d → ∃ v, vs[i]? = some v ∧ Im K H v d
  | _, _, .nil, _, _, e => by simp at e
  | _, _, .cons h _, 0, _, e => by
    cases e
    exact ⟨_, rfl, h⟩
  | _, _, .cons _ h, i + 1, _, e => Ims.get' h (i := i) e
theorem Ims.append : ∀ {vs ws : List V} {ds es : List PyData}, Ims K H vs ds → Ims K H ws es → Ims K H (vs ++ ws) (ds ++ es)
  | _, _, _, _, .nil, h => h
  | _, _, _, _, .cons a b, h => .cons a (Ims.append b h)
theorem Ims.snoc {vs : List V} {v : V} {ds : List PyData} {d : PyData} (a : Ims K H vs ds) (b : Im K H v d) : Ims K H (vs ++ [v]) (ds ++ [d]) := Ims.append a (.cons b .nil)
theorem Im.tup_inv {v : V} {ds : List PyData} (h : Im K H v (.tuple ds)) : ∃ a xs, v = .ref a ∧ SqT K H a xs ∧ Ims K H xs ds := by
  cases h with
  | tup a b => exact ⟨_, _, rfl, a, b⟩
theorem Im.str_inv {v : V} {x : Str} (h : Im K H v (.str x)) : v = .str x := by
  cases h
  rfl
theorem Im.int_inv {v : V} {x : Int} (h : Im K H v (.int x)) : v = .int x := by
  cases h
  rfl
theorem Im.bl_inv {v : V} {x : Bool} (h : Im K H v (.bool x)) : v = .bl x := by
  cases h
  rfl
theorem Ims.nil_inv {vs : List V} (h : Ims K H vs []) : vs = [] := by
  cases h
  rfl
theorem Ims.cons_inv {vs : List V} {d : PyData} {ds : List PyData} (h : Ims K H vs (d :: ds)) : ∃ v r, vs = v :: r ∧ Im K H v d ∧ Ims K H r ds := by
  cases h with
  | cons a b => exact ⟨_, _, rfl, a, b⟩
theorem ims_strs : ∀ (xs : List Str), Ims K H (xs.map V.str) (xs.map PyData.str)
  | [] => .nil
  | x :: xs => .cons (.str x) (ims_strs xs)
theorem ims_strs_inv : ∀ {xs : List Str} {vs : List V}, Ims K H vs (xs.map PyData.str) → vs = xs.map V.str
  | [], _, h => by cases h; rfl
  | x :: xs, _, h => by
    obtain ⟨v, r, rfl, a, b⟩ := Ims.cons_inv h
    rw [Im.str_inv a, ims_strs_inv b]
    rfl
theorem ims_ints : ∀ (xs : List Int), Ims K H (xs.map V.int) (xs.map PyData.int)
  | [] => .nil
  | x :: xs => .cons (.int x) (ims_ints xs)
end
theorem start_eq {N : List Str} {vs : List V} {σ : L2.St} (h : vs.map some ++ List.replicate (N.length - vs.length) none = σ) : start N vs = σ := h
theorem dec_false {p : Prop} [Decidable p] (h : ¬ p) {A B : Prop} (b : B) : if decide p = true then A else B := by
  rw [decide_eq_false h]
  exact iteF b
theorem dec_true {p : Prop} [Decidable p] (h : p) {A B : Prop} (b : A) : if decide p = true then A else B := by
  rw [decide_eq_true h]
  exact iteT b
theorem decN_false {p : Prop} [Decidable p] (h : p) {A B : Prop} (b : B) : if (!decide p) = true then A else B := by
  rw [decide_eq_true h]
  exact iteF b
theorem decN_true {p : Prop} [Decidable p] (h : ¬ p) {A B : Prop} (b : A) : if (!decide p) = true then A else B := by
  rw [decide_eq_false h]
  exact iteT b
/-- the first way ends where the second one does -/
theorem ite_to {c A B : Prop} [Decidable c] (b : B) (h : c → B → A) : if c then A else B := by
  by_cases z : c
  · rw [if_pos z]
    exact h z b
  · rw [if_neg z]
    exact b
/-- the second way ends where the first one does -/
theorem ite_too {c A B : Prop} [Decidable c] (a : A) (h : ¬ c → A → B) : if c then A else B := by
  by_cases z : c
  · rw [if_pos z]
    exact a
  · rw [if_neg z]
    exact h z a
theorem of_iteF {A B : Prop} (h : if false = true then A else B) : B := by
  rw [if_neg Bool.false_ne_true] at h
  exact h
theorem of_iteT {A B : Prop} (h : if true = true then A else B) : A := by
  rw [if_pos rfl] at h
  exact h
theorem in_room {A : Around} {k : Nat} (hr : Room k A) : A.units + 65 < cLine := by
  have := hr.un
  omega
section
variable {X : Cx} {x : Str} {pos : Pos}
theorem pe_globI {i : Int} (hg : Gl X x) (hm : ∃ t, X.mg x = some (.int i t)) (hd : (x == ("__debug__" : Str)) = false := by decide) : PE X (.Name x pos) (tC (.int i)) := by
  obtain ⟨t, e⟩ := hm
  exact pe_glob hg e ⟨t, rfl⟩ hd
theorem pe_globS {z : Str} (hg : Gl X x) (hm : ∃ t, X.mg x = some (.str z t)) (hd : (x == ("__debug__" : Str)) = false := by decide) : PE X (.Name x pos) (tC (.str z)) := by
  obtain ⟨t, e⟩ := hm
  exact pe_glob hg e ⟨t, rfl⟩ hd
theorem pe_globR {a : Addr} (hg : Gl X x) (hm : X.mg x = some (.ref a)) (hd : (x == ("__debug__" : Str)) = false := by decide) : PE X (.Name x pos) (tC (.ref a)) := pe_glob hg hm rfl hd
end
/-- the built-ins' names stand free -/
structure Bi (mg : Str → Option Value) : Prop where
  len : mg "len" = none
  range : mg "range" = none
  tuple : mg "tuple" = none
  list : mg "list" = none
  abs : mg "abs" = none
  int : mg "int" = none
  str : mg "str" = none
  bool : mg "bool" = none
  sorted : mg "sorted" = none
  sum : mg "sum" = none
  all : mg "all" = none
  any : mg "any" = none
  isinstance : mg "isinstance" = none
  enumerate : mg "enumerate" = none
/-! ### the drawing state -/
def StOk (K : PySem.W.Frag) (H : Hp) (st l : Addr) : Prop := ∃ (i j k : Int) (ns : List Int), H st = some (.lst [.ref l, .int i, .int j, .int k]) ∧ SqL K H l (ns.map V.int) ∧ l ≠ st
theorem cdivw {j m : Int} (h : 0 < m) (hb : m ≤ 10 ^ 30) : CDivW j m := by
  have e : (10 : Int) ^ 30 = 1000000000000000000000000000000 := by decide
  rw [e] at hb
  refine wide_div h (b := 100) ?_ (by decide) (by decide)
  have e2 : (2 : Nat) ^ 100 = 1267650600228229401496703205376 := by decide
  rw [e2]
  omega
theorem log2_ok {n : Nat} (h : n < 10 ^ 40) : ((n : Int)).natAbs.log2 < 1920 := by
  show n.log2 < 1920
  have e : (10 : Nat) ^ 40 < 2 ^ 200 := by decide
  exact Nat.lt_of_lt_of_le (PySem.Flt.log2_lt_of (by decide : 0 < 200) (Nat.lt_trans h e)) (by decide)
theorem mod_lt {a m : Int} (h : 0 < m) : 0 ≤ a % m ∧ a % m < m := ⟨Int.emod_nonneg _ (by omega), Int.emod_lt_of_pos _ h⟩
theorem at_mod {ns : List Int} (i : Int) (h : 0 < ((ns.map V.int).length : Int)) : ∃ c : Int, atI (ns.map V.int) (i % ((ns.map V.int).length : Int)) = some (.int c) := by
  have h1 := mod_lt (a := i) h
  obtain ⟨j, e⟩ : ∃ j : Nat, i % ((ns.map V.int).length : Int) = (j : Int) := ⟨(i % ((ns.map V.int).length : Int)).toNat, by omega⟩
  rw [e] at h1 ⊢
  have h2 : j < ns.length := by
    have := h1.2
    rw [List.length_map] at this
    omega
  exact ⟨ns[j], at_of rfl (by rw [List.getElem?_map, List.getElem?_eq_getElem h2]; rfl)⟩
/-- a draw: some number below the bound -/
def spDraw (K : PySem.W.Frag) : Sp := fun vs H Q _ => ∃ (st l : Addr) (m : Int), vs = [.ref st, .int m] ∧ StOk K H st l ∧ 0 < m ∧ m ≤ 10 ^ 30 ∧ ∀ r H', 0 ≤ r → r < m → But st H H' → StOk K H' st l → Q (.int r) H'
/-! ### the same rules with the written part named: for a comprehension's block -/
section
variable {X : Cx} {K : PySem.W.Frag}
theorem ix_tupK (h : X.K = K) : IxR X (rIxT K) := by
  subst h
  exact ix_tup
theorem ix_listK (h : X.K = K) : IxR X (rIxL K) := by
  subst h
  exact ix_list
theorem sl_listK (h : X.K = K) : SlR X (rSlL K) := by
  subst h
  exact sl_list
theorem op_in_seqK (h : X.K = K) : OpR X (compareOp .In) (rIn K false) := by
  subst h
  exact op_in_seq
theorem op_notIn_seqK (h : X.K = K) : OpR X (compareOp .NotIn) (rIn K true) := by
  subst h
  exact op_notIn_seq
theorem op_eqDK (h : X.K = K) (hu : X.A.units + 64 < cLine) : OpR X (compareOp .Eq) (rEqD K) := by
  subst h
  exact op_eqD hu
theorem op_neDK (h : X.K = K) (hu : X.A.units + 64 < cLine) : OpR X (compareOp .NotEq) (rNeD K) := by
  subst h
  exact op_neD hu
theorem pg_tupK {es : List Expr} {k : Nat} {t : TGs} {n : Nat} {pos : Pos} (hK : X.K = K) (hc : X.calm = true) (h : PGs X es t)
    (hn : (assignEach es X.env).length = n := by rfl) (hst : (assignEach es X.env).findIdx? (·.1) = none := by rfl) : PG X (.Tuple es k pos) (gTup K n t) := by
  subst hK
  exact pg_tup hc h hn hst
theorem pe_joinK {o e : Expr} {to te : TE} {apos pos : Pos} (h : X.K = K) (ho : PE X o to) (he : PE X e te) (hs : starEach [e] X.env = [(false, eval e X.env)] := by rfl) (hbase : attributeBase o "join" X.env (eval o X.env) = eval o X.env := by rfl) (hline : (apos.endLine == pos.line) = true := by rfl) :
    PE X (.Call (.Attribute o "join" apos) [e] [] pos) (tM1 (fun x xs H Q => ∃ a p, ∃ ys : List Str, x = .str a ∧ xs = [.ref p] ∧ (SqL K H p (ys.map V.str) ∨ SqT K H p (ys.map V.str)) ∧ (ys.map (·.length)).sum + ys.length * a.length ≤ 16777216 ∧ Q (.str (Txt.join a ys)) H) to te) := by
  subst h
  exact pe_join ho he hs hbase hline
end
end Kx
set_option Elab.async false
set_option linter.all false
set_option maxRecDepth 100000
set_option maxHeartbeats 4000000
/-! M: the mathematics of the texts of claims, in plain Lean over signs. -/
namespace M
open PySem PySem.Builtin PySem.Builtin.Str TL
abbrev S (s : String) : Str := Str.ofString s
/-! ### names and numbers -/
def nh : List Nat := tl (S "abcdefghijklmnopqrstuvwxyz@#.?_")
def dg : List Nat := tl (S "0123456789")
theorem dg_eq : dg = [48, 49, 50, 51, 52, 53, 54, 55, 56, 57] := by decide +kernel
theorem nh_eq : nh = [97, 98, 99, 100, 101, 102, 103, 104, 105, 106, 107, 108, 109, 110, 111, 112, 113, 114, 115, 116, 117, 118, 119, 120, 121, 122, 64, 35, 46, 63, 95] := by decide +kernel
def isNL : List Nat → Bool
  | [] => false
  | c :: r => decide (c ∈ nh) && r.all fun d => decide (d ∈ nh) || decide (d ∈ dg)
def isN (x : Str) : Bool := isNL (tl x)
structure NameOk (x : Str) : Prop where
  is : isN x = true
  len : x.length ≤ 100
theorem NameOk.ne {x : Str} (h : NameOk x) : x ≠ Str.empty := by
  intro e
  have := h.is
  rw [e] at this
  exact absurd this (by decide)
theorem isNL_mem : ∀ {l : List Nat}, isNL l = true → ∀ c ∈ l, c ∈ nh ∨ c ∈ dg
  | [], h, _, _ => by cases h
  | a :: r, h, c, hc => by
    unfold isNL at h
    rw [Bool.and_eq_true] at h
    rcases List.mem_cons.mp hc with e | e
    · subst e
      exact .inl (of_decide_eq_true h.1)
    · have := List.all_eq_true.mp h.2 c e
      rw [Bool.or_eq_true] at this
      rcases this with q | q
      · exact .inl (of_decide_eq_true q)
      · exact .inr (of_decide_eq_true q)
def num (n : Nat) : Str := Str.ofString (toString ((n : Nat) : Int))
theorem tl_numS (n : Nat) : tl (num n) = numL n := tl_num n
theorem num_mem {n c : Nat} (h : c ∈ tl (num n)) : c ∈ dg := by
  rw [tl_numS] at h
  have q := numL_digits n c h
  rw [dg_eq]
  have : 48 ≤ c ∧ c ≤ 57 := by first | exact q | (exact ⟨q.1, q.2⟩)
  have h1 : c = 48 ∨ c = 49 ∨ c = 50 ∨ c = 51 ∨ c = 52 ∨ c = 53 ∨ c = 54 ∨ c = 55 ∨ c = 56 ∨ c = 57 := by omega
  rcases h1 with e | e | e | e | e | e | e | e | e | e <;> subst e <;> decide
theorem num_ne (n : Nat) : tl (num n) ≠ [] := by
  rw [tl_numS]
  exact numL_ne n
theorem num_len {n : Nat} (h : n < 10 ^ 40) : (num n).length ≤ 40 := by
  rw [len_tl, tl_numS]
  exact numL_len (by decide) h
/-! ### forms -/
abbrev Form := Int × List (Str × Int)
def sLt (x y : Str) : Prop := tl x < tl y
structure FOk (f : Form) : Prop where
  nm : ∀ p ∈ f.2, NameOk p.1
  nz : ∀ p ∈ f.2, p.2 ≠ 0
  big : ∀ p ∈ f.2, p.2.natAbs < 10 ^ 40
  srt : (f.2.map (·.1)).Pairwise sLt
  cst : f.1.natAbs < 10 ^ 40
  len : f.2.length ≤ 50
/-- a term's text: no name for a constant -/
def tm (nm : Str) (a : Nat) : Str := if nm = Str.empty then num a else if a = 1 then nm else num a ++ S "*" ++ nm
/-- the terms, the constant last -/
def terms (f : Form) : List (Str × Int) := if f.1 ≠ 0 ∨ f.2 = [] then f.2 ++ [(Str.empty, f.1)] else f.2
def sg (n : Int) : Str := if n < 0 then S "-" else Str.empty
def pm (n : Int) : Str := if n < 0 then S "-" else S "+"
def sp (n : Int) : Str := if n < 0 then S " - " else S " + "
def wtl : List (Str × Int) → Str
  | [] => Str.empty
  | p :: r => sp p.2 ++ tm p.1 p.2.natAbs ++ wtl r
def wterms : List (Str × Int) → Str
  | [] => Str.empty
  | p :: r => sg p.2 ++ tm p.1 p.2.natAbs ++ wtl r
/-- the written form -/
def wr (f : Form) : Str := wterms (terms f)
def wdl : List (Str × Int) → List Str
  | [] => []
  | p :: r => pm p.2 :: tm p.1 p.2.natAbs :: wdl r
def wdt : List (Str × Int) → List Str
  | [] => []
  | p :: r => (sg p.2 ++ tm p.1 p.2.natAbs) :: wdl r
/-- its words -/
def wd (f : Form) : List Str := wdt (terms f)
theorem terms_ne (f : Form) : terms f ≠ [] := by
  unfold terms
  split
  · simp
  · rename_i h
    intro e
    exact h (.inr e)
def POk (p : Str × Int) : Prop := (p.1 = Str.empty ∨ (NameOk p.1 ∧ p.2 ≠ 0)) ∧ p.2.natAbs < 10 ^ 40
theorem terms_ok {f : Form} (h : FOk f) : ∀ p ∈ terms f, POk p := by
  intro p hp
  unfold terms at hp
  have base : ∀ p ∈ f.2, POk p := fun p hp => ⟨.inr ⟨h.nm p hp, h.nz p hp⟩, h.big p hp⟩
  split at hp
  · rcases List.mem_append.mp hp with q | q
    · exact base p q
    · rw [List.mem_singleton] at q
      subst q
      exact ⟨.inl rfl, h.cst⟩
  · exact base p hp
theorem terms_len {f : Form} (h : FOk f) : (terms f).length ≤ 51 := by
  have := h.len
  unfold terms
  split
  · rw [List.length_append]
    show f.2.length + 1 ≤ 51
    omega
  · omega
theorem app_empty (x : Str) : x ++ Str.empty = x := ext_tl (by rw [tl_append]; exact List.append_nil _)
theorem empty_app (x : Str) : Str.empty ++ x = x := ext_tl (by rw [tl_append]; rfl)
theorem app_assoc (x y z : Str) : x ++ y ++ z = x ++ (y ++ z) := ext_tl (by rw [tl_append, tl_append, tl_append, tl_append, List.append_assoc])
theorem len_app (x y : Str) : (x ++ y).length = x.length + y.length := by
  rw [len_tl, tl_append, List.length_append, ← len_tl, ← len_tl]
theorem sp_eq (n : Int) : sp n = S " " ++ pm n ++ S " " := by
  unfold sp pm
  split
  · exact (by decide +kernel : S " - " = S " " ++ S "-" ++ S " ")
  · exact (by decide +kernel : S " + " = S " " ++ S "+" ++ S " ")
/-! ### a term's signs -/
theorem tm_mem {p : Str × Int} (h : POk p) : ∀ c ∈ tl (tm p.1 p.2.natAbs), c ∈ nh ∨ c ∈ dg ∨ c = 42 := by
  intro c hc
  unfold tm at hc
  split at hc
  · exact .inr (.inl (num_mem hc))
  · rename_i hne
    have hn : NameOk p.1 := by
      rcases h.1 with q | q
      · exact absurd q hne
      · exact q.1
    split at hc
    · rcases isNL_mem hn.is c hc with q | q
      · exact .inl q
      · exact .inr (.inl q)
    · rw [tl_append, tl_append] at hc
      rcases List.mem_append.mp hc with q | q
      · rcases List.mem_append.mp q with q | q
        · exact .inr (.inl (num_mem q))
        · have e : tl (S "*") = [42] := by decide +kernel
          rw [e, List.mem_singleton] at q
          exact .inr (.inr q)
      · rcases isNL_mem hn.is c q with q | q
        · exact .inl q
        · exact .inr (.inl q)
theorem tm_ne {p : Str × Int} (h : POk p) : tl (tm p.1 p.2.natAbs) ≠ [] := by
  unfold tm
  split
  · exact num_ne _
  · rename_i hne
    split
    · intro e
      exact hne (ext_tl e)
    · rw [tl_append, tl_append]
      intro e
      exact num_ne _ (List.append_eq_nil_iff.mp (List.append_eq_nil_iff.mp e).1).1
theorem tm_len {p : Str × Int} (h : POk p) : (tm p.1 p.2.natAbs).length ≤ 141 := by
  have h1 := num_len h.2
  unfold tm
  split
  · omega
  · rename_i hne
    have hn : p.1.length ≤ 100 := by
      rcases h.1 with q | q
      · exact absurd q hne
      · exact q.1.len
    split
    · omega
    · rw [len_app, len_app]
      have e : (S "*").length = 1 := by decide +kernel
      omega
/-- no blank, no newline among the signs -/
def Clean (x : Str) : Prop := tl x ≠ [] ∧ ∀ c ∈ tl x, Unicode.isSpace c = false
theorem Clean.no {x : Str} (h : Clean x) {s : Nat} (hs : Unicode.isSpace s = true) : s ∉ tl x := fun m => by
  rw [h.2 s m] at hs
  cases hs
theorem plain_all : ∀ c ∈ 42 :: 43 :: 45 :: (nh ++ dg), Unicode.isSpace c = false := by decide +kernel
theorem Clean.of {x : Str} (hn : tl x ≠ []) (h : ∀ c ∈ tl x, c ∈ nh ∨ c ∈ dg ∨ c = 42 ∨ c = 43 ∨ c = 45) : Clean x := by
  refine ⟨hn, fun c hc => plain_all c ?_⟩
  rcases h c hc with q | q | q | q | q
  · simp [q]
  · simp [q]
  · simp [q]
  · simp [q]
  · simp [q]
theorem tl_minus : tl (S "-") = [45] := by decide +kernel
theorem tl_plus : tl (S "+") = [43] := by decide +kernel
theorem pm_clean (n : Int) : Clean (pm n) := by
  unfold pm
  split
  · exact Clean.of (by rw [tl_minus]; simp) (by rw [tl_minus]; simp)
  · exact Clean.of (by rw [tl_plus]; simp) (by rw [tl_plus]; simp)
theorem tm_clean {p : Str × Int} (h : POk p) : Clean (tm p.1 p.2.natAbs) := Clean.of (tm_ne h) fun c hc => by
  rcases tm_mem h c hc with q | q | q
  · exact .inl q
  · exact .inr (.inl q)
  · exact .inr (.inr (.inl q))
theorem sgtm_clean {p : Str × Int} (h : POk p) : Clean (sg p.2 ++ tm p.1 p.2.natAbs) := by
  unfold sg
  split
  · refine Clean.of ?_ ?_
    · rw [tl_append, tl_minus]
      simp
    · intro c hc
      rw [tl_append, tl_minus] at hc
      rcases List.mem_append.mp hc with q | q
      · rw [List.mem_singleton] at q
        exact .inr (.inr (.inr (.inr q)))
      · rcases tm_mem h c q with q | q | q
        · exact .inl q
        · exact .inr (.inl q)
        · exact .inr (.inr (.inl q))
  · rw [empty_app]
    exact tm_clean h
theorem wdl_clean : ∀ {l : List (Str × Int)}, (∀ p ∈ l, POk p) → ∀ w ∈ wdl l, Clean w
  | [], _, _, hw => by cases hw
  | p :: r, h, w, hw => by
    have hp := h p (List.mem_cons_self ..)
    rcases List.mem_cons.mp hw with e | e
    · subst e
      exact pm_clean _
    · rcases List.mem_cons.mp e with e | e
      · subst e
        exact tm_clean hp
      · exact wdl_clean (fun q hq => h q (List.mem_cons_of_mem _ hq)) w e
theorem wdt_clean : ∀ {l : List (Str × Int)}, (∀ p ∈ l, POk p) → ∀ w ∈ wdt l, Clean w
  | [], _, _, hw => by cases hw
  | p :: r, h, w, hw => by
    have hp := h p (List.mem_cons_self ..)
    rcases List.mem_cons.mp hw with e | e
    · subst e
      exact sgtm_clean hp
    · exact wdl_clean (fun q hq => h q (List.mem_cons_of_mem _ hq)) w e
theorem wd_clean {f : Form} (h : FOk f) : ∀ w ∈ wd f, Clean w := wdt_clean (terms_ok h)
theorem wdl_lens : ∀ {l : List (Str × Int)}, (∀ p ∈ l, POk p) → ∀ w ∈ wdl l, w.length ≤ 142
  | [], _, _, hw => by cases hw
  | p :: r, h, w, hw => by
    have hp := h p (List.mem_cons_self ..)
    rcases List.mem_cons.mp hw with e | e
    · subst e
      have e1 : (S "-").length = 1 := by decide +kernel
      have e2 : (S "+").length = 1 := by decide +kernel
      unfold pm
      split <;> omega
    · rcases List.mem_cons.mp e with e | e
      · subst e
        have := tm_len hp
        omega
      · exact wdl_lens (fun q hq => h q (List.mem_cons_of_mem _ hq)) w e
theorem wdt_lens : ∀ {l : List (Str × Int)}, (∀ p ∈ l, POk p) → ∀ w ∈ wdt l, w.length ≤ 142
  | [], _, _, hw => by cases hw
  | p :: r, h, w, hw => by
    have hp := h p (List.mem_cons_self ..)
    rcases List.mem_cons.mp hw with e | e
    · subst e
      have := tm_len hp
      rw [len_app]
      have e1 : (S "-").length = 1 := by decide +kernel
      have e2 : (Str.empty).length = 0 := by decide +kernel
      unfold sg
      split <;> omega
    · exact wdl_lens (fun q hq => h q (List.mem_cons_of_mem _ hq)) w e
theorem wd_lens {f : Form} (h : FOk f) : ∀ w ∈ wd f, w.length ≤ 142 := wdt_lens (terms_ok h)
theorem wdl_count : ∀ l : List (Str × Int), (wdl l).length = 2 * l.length
  | [] => rfl
  | p :: r => by
    show (wdl r).length + 1 + 1 = 2 * (r.length + 1)
    rw [wdl_count r]
    omega
theorem wdt_count : ∀ l : List (Str × Int), l ≠ [] → (wdt l).length = 2 * l.length - 1
  | [], h => absurd rfl h
  | p :: r, _ => by
    show (wdl r).length + 1 = 2 * (r.length + 1) - 1
    rw [wdl_count r]
    omega
theorem wd_count {f : Form} (h : FOk f) : (wd f).length ≤ 101 := by
  have h1 := terms_len h
  have h2 := wdt_count _ (terms_ne f)
  unfold wd
  omega
theorem wd_ne (f : Form) : wd f ≠ [] := by
  intro e
  have h2 := wdt_count _ (terms_ne f)
  have h3 : 0 < (terms f).length := List.length_pos_iff.mpr (terms_ne f)
  unfold wd at e
  rw [e] at h2
  have : ([] : List Str).length = 0 := rfl
  omega
/-- the text is its words, a blank between -/
theorem wtl_join : ∀ (l : List (Str × Int)) (x : Str), Str.join (S " ") (x :: wdl l) = x ++ wtl l
  | [], x => by
    show x = x ++ Str.empty
    rw [app_empty]
  | p :: r, x => by
    show x ++ S " " ++ (pm p.2 ++ S " " ++ Str.join (S " ") (tm p.1 p.2.natAbs :: wdl r)) = x ++ (sp p.2 ++ tm p.1 p.2.natAbs ++ wtl r)
    rw [wtl_join r, sp_eq]
    simp only [app_assoc]
theorem wr_join (f : Form) : wr f = Txt.join (S " ") (wd f) := by
  rw [join_eq]
  unfold wr wd
  generalize e : terms f = l
  cases l with
  | nil => exact absurd e (terms_ne f)
  | cons p r =>
    show sg p.2 ++ tm p.1 p.2.natAbs ++ wtl r = Str.join (S " ") ((sg p.2 ++ tm p.1 p.2.natAbs) :: wdl r)
    rw [wtl_join]
theorem tl_blank : tl (S " ") = [32] := by decide +kernel
theorem sp32 : Unicode.isSpace 32 = true := by decide +kernel
theorem sp10 : Unicode.isSpace 10 = true := by decide +kernel
theorem wr_split {f : Form} (h : FOk f) : Txt.split (wr f) (S " ") = wd f := by
  rw [wr_join]
  exact split_join (s := 32) (S := []) tl_blank (by decide +kernel) (wd_ne f) fun p hp => (wd_clean h p hp).no sp32
/-! ### lengths of joined texts -/
theorem join_len (y : Str) : ∀ l : List Str, (Str.join y l).length ≤ (l.map (·.length)).sum + l.length * y.length
  | [] => by
    show (0 : Nat) ≤ _
    omega
  | [x] => by
    show x.length ≤ (x.length + 0) + 1 * y.length
    omega
  | x :: z :: r => by
    have ih := join_len y (z :: r)
    show (x ++ y ++ Str.join y (z :: r)).length ≤ _
    rw [len_app, len_app, List.map_cons, List.sum_cons, List.length_cons (as := z :: r), Nat.add_mul]
    omega
theorem sum_le {b : Nat} : ∀ {l : List Str}, (∀ x ∈ l, x.length ≤ b) → (l.map (·.length)).sum ≤ l.length * b
  | [], _ => by simp
  | x :: r, h => by
    have h1 := h x (List.mem_cons_self ..)
    have h2 := sum_le (l := r) fun z hz => h z (List.mem_cons_of_mem _ hz)
    rw [List.map_cons, List.sum_cons, List.length_cons, Nat.add_mul]
    omega
theorem wr_len {f : Form} (h : FOk f) : (wr f).length ≤ 15000 := by
  rw [wr_join, join_eq]
  have h1 := join_len (S " ") (wd f)
  have h2 := sum_le (wd_lens h)
  have h3 := wd_count h
  have e : (S " ").length = 1 := by decide +kernel
  rw [e] at h1
  have h4 : (wd f).length * 142 ≤ 101 * 142 := Nat.mul_le_mul_right _ h3
  omega
/-- data -/
def fD (f : Form) : PyData := .tuple [.int f.1, .tuple (f.2.map fun p => .tuple [.str p.1, .int p.2])]
def pD (p : Str × Int) : PyData := .tuple [.str p.1, .int p.2]
def qD (p : Str × Str) : PyData := .tuple [.str p.1, .str p.2]
/-! ### slices -/
open L2 in
theorem cut_to (x : Str) (k : Nat) : tl (cutS x none (some (k : Int))) = (tl x).take k := by
  show (((x.cps.toList.drop (HT.sIx x.length 0 none)).take (HT.sIx x.length x.length (some (k : Int)) - HT.sIx x.length 0 none)).toArray).toList = _
  rw [HT.sIx_none, HT.sIx_nat, List.drop_zero, Nat.sub_zero]
  show (tl x).take (min k x.length) = (tl x).take k
  rw [len_tl]
  by_cases h : k ≤ (tl x).length
  · rw [Nat.min_eq_left h]
  · rw [Nat.min_eq_right (by omega), List.take_of_length_le (Nat.le_refl _), List.take_of_length_le (by omega)]
open L2 in
theorem cut_from (x : Str) (k : Nat) : tl (cutS x (some (k : Int)) none) = (tl x).drop k := by
  show (((x.cps.toList.drop (HT.sIx x.length 0 (some (k : Int)))).take (HT.sIx x.length x.length none - HT.sIx x.length 0 (some (k : Int)))).toArray).toList = _
  rw [HT.sIx_none, HT.sIx_nat]
  show ((tl x).drop (min k x.length)).take (x.length - min k x.length) = (tl x).drop k
  rw [len_tl]
  by_cases h : k ≤ (tl x).length
  · rw [Nat.min_eq_left h, List.take_of_length_le (by rw [List.length_drop]; exact Nat.le_refl _)]
  · rw [Nat.min_eq_right (by omega), Nat.sub_self, List.take_zero, List.drop_of_length_le (by omega)]
open L2 in
theorem cutV_from (xs : List V) (k : Nat) : cutV xs (some (k : Int)) none = xs.drop k := by
  unfold cutV
  rw [HT.sIx_none, HT.sIx_nat]
  by_cases h : k ≤ xs.length
  · rw [Nat.min_eq_left h, List.take_of_length_le (by rw [List.length_drop]; exact Nat.le_refl _)]
  · rw [Nat.min_eq_right (by omega), Nat.sub_self, List.take_zero, List.drop_of_length_le (by omega)]
/-! ### the first digit -/
theorem numL_head : ∀ n : Nat, 0 < n → ∃ c r, numL n = c :: r ∧ 49 ≤ c ∧ c ≤ 57 := by
  intro n
  induction n using Nat.strongRecOn with
  | _ n ih =>
    intro h
    by_cases h10 : n < 10
    · exact ⟨48 + n, [], numL_lt h10, by omega, by omega⟩
    · obtain ⟨c, r, e, h1, h2⟩ := ih (n / 10) (by omega) (by omega)
      exact ⟨c, r ++ [48 + n % 10], by rw [numL_step (by omega), e]; rfl, h1, h2⟩
theorem num_head (n : Nat) : ∃ c r, tl (num n) = c :: r ∧ 48 ≤ c ∧ c ≤ 57 ∧ (c = 48 → n = 0) := by
  rw [tl_numS]
  by_cases h : n = 0
  · subst h
    exact ⟨48, [], numL_lt (by omega), by omega, by omega, fun _ => rfl⟩
  · obtain ⟨c, r, e, h1, h2⟩ := numL_head n (by omega)
    exact ⟨c, r, e, by omega, h2, fun z => by omega⟩
theorem num_zero : num 0 = S "0" := by decide +kernel
theorem num_noname (n : Nat) : isN (num n) = false := by
  obtain ⟨c, r, e, h1, h2, _⟩ := num_head n
  unfold isN
  rw [e]
  show (decide (c ∈ nh) && _) = false
  have dis : ∀ c ∈ dg, c ∉ nh := by decide +kernel
  have : c ∈ dg := num_mem (n := n) (by rw [e]; exact List.mem_cons_self ..)
  rw [decide_eq_false (dis c this), Bool.false_and]
/-! ### ranges by a step -/
open L2 in
theorem rg_none {i c : Int} (hc : 0 < c) (hc2 : c < 1073741824) (h0 : 0 ≤ i) (h1 : i < 2 ^ 62) : RgC i i c 0 := by
  have e : Builtin.Range.rangeSize i i c = 0 := by
    unfold Builtin.Range.rangeSize
    rw [if_pos hc, if_neg (by omega)]
  refine ⟨by omega, by omega, ?_, e⟩
  unfold Builtin.Range.small
  rw [e]
  simp only [Builtin.Range.rangeFitsLong, Bool.and_eq_true, Bool.or_eq_true, decide_eq_true_eq, beq_iff_eq, hc, gt_iff_lt, if_true]
  omega
open L2 in
/-- range(1, 2 n + 1, 2): n turns -/
theorem rg_odd {n : Nat} {j : Int} (hj : j = 2 * (n : Int) + 1) (h : n < 1000000) : RgC 1 j 2 n := by
  have e : Builtin.Range.rangeSize 1 j 2 = n := by
    unfold Builtin.Range.rangeSize
    rw [if_pos (by decide)]
    split <;> omega
  refine ⟨by omega, by omega, ?_, e⟩
  have hn : (n : Int) < 1000000 := by omega
  have h0 : 0 ≤ (n : Int) := by omega
  unfold Builtin.Range.small
  rw [e]
  generalize (n : Int) = m at hj hn h0
  unfold Builtin.Range.rangeFitsLong
  have p : (2 : Int) ^ 63 = 9223372036854775808 := by decide
  rw [p]
  simp only [Bool.and_eq_true, Bool.or_eq_true, decide_eq_true_eq, beq_iff_eq, show (2 : Int) > 0 by decide, if_true]
  omega
/-! ### sorted names -/
theorem sLt_irrefl (x : Str) : ¬ sLt x x := fun h => absurd h (List.lt_irrefl _)
theorem sLt_trans {x y z : Str} (a : sLt x y) (b : sLt y z) : sLt x z := List.lt_trans a b
theorem sLt_tri (x y : Str) : sLt x y ∨ x = y ∨ sLt y x := by
  unfold sLt
  by_cases h : tl x < tl y
  · exact .inl h
  · by_cases h2 : tl y < tl x
    · exact .inr (.inr h2)
    · exact .inr (.inl (ext_tl (List.le_antisymm (List.not_lt.mp h2) (List.not_lt.mp h))))
def sLe (x y : Str) : Prop := ¬ sLt y x
theorem sLe_anti {x y : Str} (a : sLe x y) (b : sLe y x) : x = y := by
  rcases sLt_tri x y with h | h | h
  · exact absurd h b
  · exact h
  · exact absurd h a
theorem sLe_trans {x y z : Str} (a : sLe x y) (b : sLe y z) : sLe x z := fun h => by
  rcases sLt_tri x y with q | q | q
  · exact b (sLt_trans h q)
  · subst q
    exact b h
  · exact a q
theorem ltCps_iff : ∀ (l m : List Nat), PySem.Spec.ltCps l m = true ↔ l < m
  | [], [] => by simp [PySem.Spec.ltCps]
  | [], _ :: _ => by simp [PySem.Spec.ltCps]
  | _ :: _, [] => by simp [PySem.Spec.ltCps]
  | a :: r, b :: t => by
    have ih := ltCps_iff r t
    show (decide (a < b) || (a == b && PySem.Spec.ltCps r t)) = true ↔ _
    rw [Bool.or_eq_true, Bool.and_eq_true, decide_eq_true_iff, beq_iff_eq, ih, List.cons_lt_cons_iff]
theorem rising_pair : ∀ (l : List Str) (p : Str), PyProof.Rows.risingS p l = true → (∀ x ∈ l, sLe p x) ∧ l.Pairwise sLe
  | [], _, _ => ⟨fun _ h => (by cases h), List.Pairwise.nil⟩
  | x :: r, p, h => by
    have h : (!PySem.Spec.ltCps x.cps.toList p.cps.toList && PyProof.Rows.risingS x r) = true := h
    rw [Bool.and_eq_true] at h
    obtain ⟨h1, h2⟩ := rising_pair r x h.2
    have hpx : sLe p x := fun z => by
      have q := (ltCps_iff _ _).mpr (show x.cps.toList < p.cps.toList from z)
      rw [q] at h
      exact absurd h.1 (by decide)
    refine ⟨fun y hy => ?_, List.pairwise_cons.mpr ⟨h1, h2⟩⟩
    rcases List.mem_cons.mp hy with e | e
    · subst e
      exact hpx
    · exact sLe_trans hpx (h1 y e)
theorem sorted_pair {l : List Str} (h : PyProof.Rows.sortedS l = true) : l.Pairwise sLe := by
  cases l with
  | nil => exact List.Pairwise.nil
  | cons x r =>
    obtain ⟨h1, h2⟩ := rising_pair r x h
    exact List.pairwise_cons.mpr ⟨h1, h2⟩
theorem lt_le {l : List Str} (h : l.Pairwise sLt) : l.Pairwise sLe := h.imp fun a b => sLt_irrefl _ (sLt_trans a b)
/-- two sorted arrangements are one -/
theorem sorted_one {l m : List Str} (hl : l.Pairwise sLe) (hm : m.Pairwise sLe) (p : l.Perm m) : l = m :=
  List.Perm.eq_of_pairwise (le := sLe) (fun a b _ _ x y => sLe_anti x y) hl hm p
theorem le_lt {l : List Str} (h : l.Pairwise sLe) (hn : l.Nodup) : l.Pairwise sLt := by
  induction l with
  | nil => exact List.Pairwise.nil
  | cons x r ih =>
    obtain ⟨h1, h2⟩ := List.pairwise_cons.mp h
    obtain ⟨n1, n2⟩ := List.nodup_cons.mp hn
    refine List.pairwise_cons.mpr ⟨fun y hy => ?_, ih h2 n2⟩
    rcases sLt_tri x y with q | q | q
    · exact q
    · subst q
      exact absurd hy n1
    · exact absurd q (h1 y hy)
/-! ### sums of pairs by name -/
def look : List (Str × Int) → Str → Int
  | [], _ => 0
  | p :: r, n => if p.1 = n then p.2 else look r n
def addP : List (Str × Int) → Str × Int → List (Str × Int)
  | [], q => [q]
  | p :: r, q => if p.1 = q.1 then (p.1, p.2 + q.2) :: r else p :: addP r q
def totals (ps : List (Str × Int)) : List (Str × Int) := ps.foldl addP []
open L2 in
def kvP (acc : List (Str × Int)) : List (Key × V) := acc.map fun p => (Sum.inr p.1, V.int p.2)
open L2 in
theorem kv_val : ∀ (acc : List (Str × Int)) (n : Str), (valV (kvP acc) (Sum.inr n : Key)).getD (V.int 0) = V.int (look acc n)
  | [], _ => rfl
  | p :: r, n => by
    show (valV ((Sum.inr p.1, V.int p.2) :: kvP r) (Sum.inr n : Key)).getD (V.int 0) = V.int (if p.1 = n then p.2 else look r n)
    by_cases h : p.1 = n
    · rw [if_pos h, valV_pos (by rw [h])]
      rfl
    · rw [if_neg h, valV_neg (fun z => h (Sum.inr.inj z))]
      exact kv_val r n
open L2 in
theorem kv_has : ∀ (acc : List (Str × Int)) (n : Str), n ∈ acc.map (·.1) → valV (kvP acc) (Sum.inr n : Key) = some (V.int (look acc n))
  | [], _, h => by cases h
  | p :: r, n, h => by
    show valV ((Sum.inr p.1, V.int p.2) :: kvP r) (Sum.inr n : Key) = some (V.int (if p.1 = n then p.2 else look r n))
    by_cases e : p.1 = n
    · rw [if_pos e, valV_pos (by rw [e])]
    · rw [if_neg e, valV_neg (fun z => e (Sum.inr.inj z))]
      refine kv_has r n ?_
      rw [List.map_cons] at h
      rcases List.mem_cons.mp h with z | z
      · exact absurd z.symm e
      · exact z
open L2 in
theorem kv_put_cons {p : Key × V} {r : List (Key × V)} {k : Key} {v : V} (h : ¬ p.1 = k) : putK (p :: r) k v = p :: putK r k v := by
  unfold putK
  rw [List.any_cons, decide_eq_false h, Bool.false_or]
  by_cases e : (r.any fun kv => decide (kv.1 = k)) = true
  · rw [if_pos e, if_pos e, List.map_cons, if_neg h]
  · rw [if_neg e, if_neg e]
    rfl
theorem addP_keys : ∀ (acc : List (Str × Int)) (q : Str × Int), (addP acc q).map (·.1) = if q.1 ∈ acc.map (·.1) then acc.map (·.1) else acc.map (·.1) ++ [q.1]
  | [], q => rfl
  | p :: r, q => by
    show (if p.1 = q.1 then (p.1, p.2 + q.2) :: r else p :: addP r q).map (·.1) = _
    by_cases h : p.1 = q.1
    · rw [if_pos h, if_pos (by rw [List.map_cons, h]; exact List.mem_cons_self ..)]
      rfl
    · rw [if_neg h, List.map_cons, addP_keys r q, List.map_cons]
      by_cases e : q.1 ∈ r.map (·.1)
      · rw [if_pos e, if_pos (List.mem_cons_of_mem _ e)]
      · rw [if_neg e, if_neg (fun z => (List.mem_cons.mp z).elim (fun w => h w.symm) e)]
        rfl
theorem addP_nodup {acc : List (Str × Int)} (q : Str × Int) (h : (acc.map (·.1)).Nodup) : ((addP acc q).map (·.1)).Nodup := by
  rw [addP_keys]
  split
  · exact h
  · rename_i e
    rw [List.nodup_append]
    exact ⟨h, List.pairwise_singleton _ _, fun a ha b hb => fun z => e (by
      rw [List.mem_singleton] at hb
      rw [← hb, ← z]
      exact ha)⟩
theorem addP_len (acc : List (Str × Int)) (q : Str × Int) : (addP acc q).length ≤ acc.length + 1 := by
  have h : ((addP acc q).map (·.1)).length ≤ (acc.map (·.1)).length + 1 := by
    rw [addP_keys]
    split
    · omega
    · rw [List.length_append]
      exact Nat.le_refl _
  rw [List.length_map, List.length_map] at h
  exact h
open L2 in
theorem kv_put : ∀ (acc : List (Str × Int)) (n : Str) (z : Int), (acc.map (·.1)).Nodup → putK (kvP acc) (Sum.inr n : Key) (V.int (look acc n + z)) = kvP (addP acc (n, z))
  | [], n, z, _ => by
    show [((Sum.inr n : Key), V.int (0 + z))] = [((Sum.inr n : Key), V.int z)]
    rw [Int.zero_add]
  | p :: r, n, z, hn => by
    obtain ⟨h1, h2⟩ := List.nodup_cons.mp (show (p.1 :: r.map (·.1)).Nodup from hn)
    show putK ((Sum.inr p.1, V.int p.2) :: kvP r) (Sum.inr n : Key) (V.int ((if p.1 = n then p.2 else look r n) + z)) = kvP (if p.1 = n then (p.1, p.2 + z) :: r else p :: addP r (n, z))
    by_cases h : p.1 = n
    · rw [if_pos h, if_pos h]
      subst h
      unfold putK
      rw [List.any_cons, decide_eq_true rfl, Bool.true_or, if_pos rfl, List.map_cons, if_pos rfl]
      show _ :: (kvP r).map _ = _ :: kvP r
      refine congrArg _ ?_
      have : ∀ kv ∈ kvP r, (if kv.1 = (Sum.inr p.1 : Key) then (kv.1, V.int (p.2 + z)) else kv) = kv := fun kv hkv => by
        rw [if_neg]
        intro e
        obtain ⟨w, hw, rfl⟩ := List.mem_map.mp hkv
        exact h1 (List.mem_map.mpr ⟨w, hw, Sum.inr.inj e⟩)
      rw [List.map_congr_left this, List.map_id']
    · rw [if_neg h, if_neg h, kv_put_cons (fun e => h (Sum.inr.inj e)), kv_put r n z h2]
      rfl
theorem kvP_keys (acc : List (Str × Int)) : (kvP acc).map (·.1) = (acc.map (·.1)).map Sum.inr := by
  unfold kvP
  rw [List.map_map, List.map_map]
  rfl
theorem totals_snoc (ps : List (Str × Int)) (q : Str × Int) : totals (ps ++ [q]) = addP (totals ps) q := by
  unfold totals
  rw [List.foldl_append]
  rfl
theorem totals_nodup_aux : ∀ (ps acc : List (Str × Int)), (acc.map (·.1)).Nodup → ((ps.foldl addP acc).map (·.1)).Nodup
  | [], _, h => h
  | q :: r, acc, h => totals_nodup_aux r (addP acc q) (addP_nodup q h)
theorem totals_nodup (ps : List (Str × Int)) : ((totals ps).map (·.1)).Nodup := totals_nodup_aux ps [] List.nodup_nil
theorem totals_len_aux : ∀ (ps acc : List (Str × Int)), (ps.foldl addP acc).length ≤ acc.length + ps.length
  | [], _ => Nat.le_refl _
  | q :: r, acc => by
    have h1 := totals_len_aux r (addP acc q)
    have h2 := addP_len acc q
    show (r.foldl addP (addP acc q)).length ≤ acc.length + (r.length + 1)
    omega
theorem totals_len (ps : List (Str × Int)) : (totals ps).length ≤ ps.length := by
  have h : (ps.foldl addP []).length ≤ ([] : List (Str × Int)).length + ps.length := totals_len_aux ps []
  have e : ([] : List (Str × Int)).length = 0 := rfl
  show (ps.foldl addP []).length ≤ ps.length
  omega
/-- the terms of the form that pairs make, in the order ys of their names -/
def nzp (p : Str × Int) : Bool := !decide (p.2 = 0)
def tms (ps : List (Str × Int)) (ys : List Str) : List (Str × Int) := (ys.map fun n => (n, look (totals ps) n)).filter nzp
/-- pairs with distinct names are their own totals -/
theorem addP_new : ∀ {acc : List (Str × Int)} {q : Str × Int}, q.1 ∉ acc.map (·.1) → addP acc q = acc ++ [q]
  | [], _, _ => rfl
  | p :: r, q, h => by
    show (if p.1 = q.1 then (p.1, p.2 + q.2) :: r else p :: addP r q) = _
    rw [if_neg (fun e => h (by rw [List.map_cons, e]; exact List.mem_cons_self ..)), addP_new fun z => h (by rw [List.map_cons]; exact List.mem_cons_of_mem _ z)]
    rfl
theorem totals_self_aux : ∀ (ps acc : List (Str × Int)), ((acc ++ ps).map (·.1)).Nodup → ps.foldl addP acc = acc ++ ps
  | [], acc, _ => by rw [List.append_nil]; rfl
  | q :: r, acc, h => by
    have hq : q.1 ∉ acc.map (·.1) := by
      intro z
      rw [List.map_append, List.nodup_append] at h
      exact h.2.2 _ z _ (List.mem_cons_self ..) rfl
    show r.foldl addP (addP acc q) = _
    rw [addP_new hq, totals_self_aux r (acc ++ [q]) (by rw [List.append_assoc]; exact h), List.append_assoc]
    rfl
theorem totals_self {ps : List (Str × Int)} (h : (ps.map (·.1)).Nodup) : totals ps = ps := totals_self_aux ps [] h
theorem look_mem : ∀ {acc : List (Str × Int)}, (acc.map (·.1)).Nodup → (acc.map (·.1)).map (fun n => (n, look acc n)) = acc
  | [], _ => rfl
  | p :: r, h => by
    obtain ⟨h1, h2⟩ := List.nodup_cons.mp (show (p.1 :: r.map (·.1)).Nodup from h)
    have ih := look_mem h2
    show (p.1, if p.1 = p.1 then p.2 else look r p.1) :: (r.map (·.1)).map (fun n => (n, if p.1 = n then p.2 else look r n)) = p :: r
    rw [if_pos rfl]
    refine congrArg _ ?_
    refine Eq.trans (List.map_congr_left fun n hn => ?_) ih
    rw [if_neg (fun e => h1 (by rw [e]; exact hn))]
theorem srt_nodup {l : List Str} (h : l.Pairwise sLt) : l.Nodup := List.Pairwise.imp (S := fun a b => a ≠ b) (fun {a b} r e => by
  subst e
  exact sLt_irrefl _ r) h
/-- a form's own terms, read as pairs -/
theorem tms_self {f : Form} (h : FOk f) {ys : List Str} (hp : ys.Perm ((totals f.2).map (·.1))) (hs : ys.Pairwise sLe) : tms f.2 ys = f.2 := by
  have nd := srt_nodup h.srt
  have et := totals_self nd
  rw [et] at hp
  have ey := sorted_one hs (lt_le h.srt) hp
  unfold tms
  rw [et, ey, look_mem nd]
  exact List.filter_eq_self.mpr fun p hp => by
    unfold nzp
    rw [decide_eq_false (h.nz p hp)]
    rfl
/-! ### data in the heap -/
section
open L2 Kx
variable {K : PySem.W.Frag} {H : Hp}
theorem pD_inv {v : V} {p : Str × Int} (h : Im K H v (pD p)) : ∃ t, v = .ref t ∧ SqT K H t [.str p.1, .int p.2] := by
  obtain ⟨t, ts, rfl, ht, hts⟩ := Im.tup_inv h
  obtain ⟨v3, r3, rfl, h3, hr3⟩ := Ims.cons_inv hts
  obtain ⟨v4, r4, rfl, h4, hr4⟩ := Ims.cons_inv hr3
  obtain rfl := Ims.nil_inv hr4
  obtain rfl := Im.str_inv h3
  obtain rfl := Im.int_inv h4
  exact ⟨t, rfl, ht⟩
theorem pD_of {t : Addr} {p : Str × Int} (h : SqT K H t [.str p.1, .int p.2]) : Im K H (.ref t) (pD p) := .tup h (.cons (.str _) (.cons (.int _) .nil))
theorem qD_inv {v : V} {p : Str × Str} (h : Im K H v (qD p)) : ∃ t, v = .ref t ∧ SqT K H t [.str p.1, .str p.2] := by
  obtain ⟨t, ts, rfl, ht, hts⟩ := Im.tup_inv h
  obtain ⟨v3, r3, rfl, h3, hr3⟩ := Ims.cons_inv hts
  obtain ⟨v4, r4, rfl, h4, hr4⟩ := Ims.cons_inv hr3
  obtain rfl := Ims.nil_inv hr4
  obtain rfl := Im.str_inv h3
  obtain rfl := Im.str_inv h4
  exact ⟨t, rfl, ht⟩
theorem qD_of {t : Addr} {p : Str × Str} (h : SqT K H t [.str p.1, .str p.2]) : Im K H (.ref t) (qD p) := .tup h (.cons (.str _) (.cons (.str _) .nil))
theorem fD_inv {v : V} {f : Form} (h : Im K H v (fD f)) : ∃ t u xs, v = .ref t ∧ SqT K H t [.int f.1, .ref u] ∧ SqT K H u xs ∧ Ims K H xs (f.2.map pD) := by
  obtain ⟨t, ts, rfl, ht, hts⟩ := Im.tup_inv h
  obtain ⟨v3, r3, rfl, h3, hr3⟩ := Ims.cons_inv hts
  obtain ⟨v4, r4, rfl, h4, hr4⟩ := Ims.cons_inv hr3
  obtain rfl := Ims.nil_inv hr4
  obtain rfl := Im.int_inv h3
  obtain ⟨u, us, rfl, hu, hus⟩ := Im.tup_inv h4
  exact ⟨t, u, us, rfl, ht, hu, hus⟩
theorem fD_of {t u : Addr} {xs : List V} {f : Form} (ht : SqT K H t [.int f.1, .ref u]) (hu : SqT K H u xs) (hx : Ims K H xs (f.2.map pD)) : Im K H (.ref t) (fD f) :=
  .tup ht (.cons (.int _) (.cons (.tup hu hx) .nil))
theorem ims_at {α : Type} {g : α → PyData} {ps : List α} {xs : List V} (h : Ims K H xs (ps.map g)) {i : Nat} {v : V} (hv : xs[i]? = some v) : ∃ p, ps[i]? = some p ∧ Im K H v (g p) := by
  obtain ⟨d, hd, hi⟩ := h.get hv
  rw [List.getElem?_map] at hd
  cases e : ps[i]? with
  | none => rw [e] at hd; cases hd
  | some z =>
    rw [e] at hd
    have : g z = d := Option.some.inj hd
    exact ⟨z, rfl, by rw [this]; exact hi⟩
theorem take_snoc {α : Type} {l : List α} {i : Nat} {x : α} (h : l[i]? = some x) : l.take (i + 1) = l.take i ++ [x] := by
  rw [List.take_add_one, h]
  rfl
end
/-! ### the written form, term by term -/
theorem wtl_snoc : ∀ (l : List (Str × Int)) (p : Str × Int), wtl (l ++ [p]) = wtl l ++ (sp p.2 ++ tm p.1 p.2.natAbs)
  | [], p => by
    show sp p.2 ++ tm p.1 p.2.natAbs ++ Str.empty = Str.empty ++ (sp p.2 ++ tm p.1 p.2.natAbs)
    rw [app_empty, empty_app]
  | q :: r, p => by
    show sp q.2 ++ tm q.1 q.2.natAbs ++ wtl (r ++ [p]) = sp q.2 ++ tm q.1 q.2.natAbs ++ wtl r ++ _
    rw [wtl_snoc r p]
    simp only [app_assoc]
theorem wterms_snoc : ∀ (l : List (Str × Int)) (p : Str × Int), l ≠ [] → wterms (l ++ [p]) = wterms l ++ sp p.2 ++ tm p.1 p.2.natAbs
  | [], _, h => absurd rfl h
  | q :: r, p, _ => by
    show sg q.2 ++ tm q.1 q.2.natAbs ++ wtl (r ++ [p]) = sg q.2 ++ tm q.1 q.2.natAbs ++ wtl r ++ _ ++ _
    rw [wtl_snoc r p]
    simp only [app_assoc]
theorem wterms_one (p : Str × Int) : wterms [p] = sg p.2 ++ tm p.1 p.2.natAbs := by
  show sg p.2 ++ tm p.1 p.2.natAbs ++ Str.empty = _
  rw [app_empty]
theorem wterms_ne : ∀ {l : List (Str × Int)}, l ≠ [] → (∀ p ∈ l, POk p) → wterms l ≠ Str.empty
  | [], h, _ => absurd rfl h
  | p :: r, _, h => fun e => by
    have e : tl (sg p.2 ++ tm p.1 p.2.natAbs ++ wtl r) = [] := congrArg tl e
    rw [tl_append, tl_append] at e
    exact tm_ne (h p (List.mem_cons_self ..)) (List.append_eq_nil_iff.mp (List.append_eq_nil_iff.mp e).1).2
theorem sp_len (n : Int) : (sp n).length = 3 := by
  unfold sp
  split
  · exact (by decide +kernel : (S " - ").length = 3)
  · exact (by decide +kernel : (S " + ").length = 3)
theorem sg_len (n : Int) : (sg n).length ≤ 1 := by
  unfold sg
  split
  · exact (by decide +kernel : (S "-").length ≤ 1)
  · exact (by decide +kernel : (Str.empty).length ≤ 1)
theorem wtl_len : ∀ {l : List (Str × Int)}, (∀ p ∈ l, POk p) → (wtl l).length ≤ l.length * 144
  | [], _ => Nat.le_refl _
  | p :: r, h => by
    have h1 := tm_len (h p (List.mem_cons_self ..))
    have h2 := wtl_len (l := r) fun q hq => h q (List.mem_cons_of_mem _ hq)
    show (sp p.2 ++ tm p.1 p.2.natAbs ++ wtl r).length ≤ (r.length + 1) * 144
    rw [len_app, len_app, sp_len]
    omega
theorem wterms_len : ∀ {l : List (Str × Int)}, (∀ p ∈ l, POk p) → (wterms l).length ≤ l.length * 144
  | [], _ => Nat.le_refl _
  | p :: r, h => by
    have h1 := tm_len (h p (List.mem_cons_self ..))
    have h2 := wtl_len (l := r) fun q hq => h q (List.mem_cons_of_mem _ hq)
    have h3 := sg_len p.2
    show (sg p.2 ++ tm p.1 p.2.natAbs ++ wtl r).length ≤ (r.length + 1) * 144
    rw [len_app, len_app]
    omega
theorem abs_nat (z : Int) : (if z < 0 then -z else z) = ((z.natAbs : Nat) : Int) := by
  split <;> omega
theorem POk.name_len {p : Str × Int} (h : POk p) : p.1.length ≤ 100 := by
  rcases h.1 with q | q
  · rw [q]
    exact (by decide : (Str.empty).length ≤ 100)
  · exact q.1.len
/-! ### reading the words back -/
theorem wdl_at : ∀ (l : List (Str × Int)) (i : Nat) (p : Str × Int), l[i]? = some p → (wdl l)[2 * i]? = some (pm p.2) ∧ (wdl l)[2 * i + 1]? = some (tm p.1 p.2.natAbs)
  | [], i, p, h => by simp at h
  | q :: r, 0, p, h => by
    cases h
    exact ⟨rfl, rfl⟩
  | q :: r, i + 1, p, h => by
    have ih := wdl_at r i p h
    show (pm q.2 :: tm q.1 q.2.natAbs :: wdl r)[2 * (i + 1)]? = _ ∧ (pm q.2 :: tm q.1 q.2.natAbs :: wdl r)[2 * (i + 1) + 1]? = _
    rw [show 2 * (i + 1) = 2 * i + 1 + 1 by omega]
    exact ih
theorem pm_in (z : Int) : L2.inV (L2.V.str (pm z)) [L2.V.str (S "+"), L2.V.str (S "-")] = true := by
  unfold pm
  split
  · exact (by decide +kernel)
  · exact (by decide +kernel)
theorem pm_plus (z : Int) : decide (L2.V.str (pm z) = L2.V.str (S "+")) = !decide (z < 0) := by
  unfold pm
  by_cases h : z < 0
  · rw [if_pos h, decide_eq_true h]
    exact (by decide +kernel)
  · rw [if_neg h, decide_eq_false h]
    exact (by decide +kernel)
theorem sign_mul (z : Int) : (if z < 0 then -1 else 1) * ((z.natAbs : Nat) : Int) = z := by
  split <;> omega
/-- the first sign of a term is no minus -/
theorem tm_head {p : Str × Int} (h : POk p) : (tl (tm p.1 p.2.natAbs)).take 1 ≠ [45] := by
  intro e
  have hc : 45 ∈ tl (tm p.1 p.2.natAbs) := List.mem_of_mem_take (i := 1) (by rw [e]; exact List.mem_singleton.mpr rfl)
  rcases tm_mem h 45 hc with q | q | q
  · exact absurd q (by decide +kernel)
  · exact absurd q (by decide +kernel)
  · exact absurd q (by decide)
theorem consts_sum {f : Form} (h : FOk f) : (((terms f).filter fun p => decide (p.1 = Str.empty)).map (·.2)).sum = f.1 := by
  have hz : (f.2.filter fun p => decide (p.1 = Str.empty)) = [] := List.filter_eq_nil_iff.mpr fun p hp => by
    have := (h.nm p hp).ne
    simp [this]
  unfold terms
  split
  · rw [List.filter_append, hz]
    show f.1 + 0 = f.1
    omega
  · rename_i c
    rw [hz]
    by_cases e : f.1 = 0
    · rw [e]
      rfl
    · exact absurd (.inl e) c
theorem names_kept {f : Form} (h : FOk f) : ((terms f).filter fun p => !decide (p.1 = Str.empty)) = f.2 := by
  have hz : (f.2.filter fun p => !decide (p.1 = Str.empty)) = f.2 := List.filter_eq_self.mpr fun p hp => by
    have := (h.nm p hp).ne
    simp [this]
  unfold terms
  split
  · rw [List.filter_append, hz]
    show f.2 ++ [] = f.2
    rw [List.append_nil]
  · exact hz
end M
set_option Elab.async false
set_option linter.all false
set_option maxRecDepth 100000
set_option maxHeartbeats 4000000
namespace C
open PySem PySem.Spec PyProof.Rows L2 Kx M
def topS (i : Nat) : Stmt := PySem.Challenge.pw_differwithin_k60_write_claims.main.body.getD i (.Pass ⟨0, 0, 0, 0⟩)
abbrev s_BadLine___init__ : Stmt := inClass (topS 3) 0
abbrev s_write_integer : Stmt := topS 7
abbrev s_read_integer : Stmt := topS 8
abbrev s_form : Stmt := topS 10
abbrev s_write_term : Stmt := topS 14
abbrev s_write_form : Stmt := topS 15
abbrev s_is_name : Stmt := topS 16
abbrev s_read_term : Stmt := topS 17
abbrev s_read_form : Stmt := topS 18
abbrev s_ClaimReader___init__ : Stmt := inClass (topS 23) 0
abbrev s_ClaimReader_take : Stmt := inClass (topS 23) 1
abbrev s_ClaimReader_take_head : Stmt := inClass (topS 23) 2
abbrev s_ClaimReader_take_part : Stmt := inClass (topS 23) 3
abbrev s_ClaimReader_take_end : Stmt := inClass (topS 23) 4
abbrev s_read_claims : Stmt := topS 24
abbrev s_claim_lines : Stmt := topS 25
abbrev s_write_claims : Stmt := topS 26
abbrev s__law_start : Stmt := topS 28
abbrev s__law_draw : Stmt := topS 29
abbrev s__law_one_of : Stmt := topS 30
abbrev s__law_is_int : Stmt := topS 31
abbrev s__law_same : Stmt := topS 32
abbrev s__law_form : Stmt := topS 33
abbrev s__law_text_of : Stmt := topS 34
abbrev s__law_any_word : Stmt := topS 35
abbrev s__law_form_name : Stmt := topS 36
abbrev s__law_some_number : Stmt := topS 37
abbrev s__law_some_form : Stmt := topS 38
abbrev s__law_written : Stmt := topS 39
abbrev s__law_some_pairs : Stmt := topS 40
abbrev s__law_some_forms : Stmt := topS 41
abbrev s__law_rules : Stmt := topS 42
abbrev s__law_some_row : Stmt := topS 43
abbrev s__law_row_lines : Stmt := topS 44
abbrev s_law : Stmt := topS 45
/-- the module's constants -/
structure Gb (K : PySem.W.Frag) (mg : Str → Option Value) (aH aR : Addr) : Prop where
  BASE : ∃ t, mg "BASE" = some (.int (10 ^ 64) t)
  DIGITS_digits : ∃ t, mg "DIGITS_digits" = some (.str "0123456789" t)
  FIRST : ∃ t, mg "FIRST" = some (.str "abcdefghijklmnopqrstuvwxyz@#.?_" t)
  DIGITS_formtext : ∃ t, mg "DIGITS_formtext" = some (.str "0123456789" t)
  ANY_RULE : ∃ t, mg "ANY_RULE" = some (.str "any" t)
  HEADS : mg "HEADS" = some (.ref aH)
  RULES : mg "RULES" = some (.ref aR)
  tH : ∀ H, SqT K H aH [.str "given", .str "same", .str "ask", .str "keep", .str "hint", .str "walk"]
  tR : ∀ H, SqT K H aR [.str "lockstep", .str "pauses alone", .str "left begins", .str "right begins", .str "meet at whiles", .str "calls alone", .str "left first"]
end C
set_option Elab.async false
set_option linter.all false
set_option pp.maxSteps 1500
set_option maxRecDepth 100000
set_option maxHeartbeats 4000000
namespace C
open PySem PySem.Spec PyProof.Rows L2 Kx M TL
local macro_rules | `(tactic| tm_at "same") => `(tactic| first
  | assumption
  | exact L2.Same.refl _
  | exact L2.Same.upd (by tm_at "same") (by tm_at "free")
  | exact sameTransR (by assumption) (by tm_at "same"))
local macro_rules | `(tactic| tm_at "free") => `(tactic| first
  | assumption
  | exact sameFreeR (by assumption) (by tm_at "same"))
local macro_rules | `(tactic| tm_at "but") => `(tactic| first
  | assumption
  | exact But.refl _ _
  | exact But.transR (by assumption) (by tm_at "but")
  | exact But.upd
  | exact But.self (by tm_at "but")
  | exact But.new1 (by tm_at "but") (by assumption)
  | exact But.new (by tm_at "but") (by tm_at "free")
  | exact L2.Same.but (by assumption) _)
local macro_rules | `(tactic| tm_at "fact") => `(tactic| first
  | exact upd_same
  | assumption
  | exact SqL.of upd_same
  | exact SqT.of upd_same
  | exact SqL.of (by assumption)
  | exact SqT.of (by assumption)
  | exact But.lstR (by assumption) (by assumption) (by tm_at "but"))
local macro_rules | `(tactic| tm_at "cond") => `(tactic| first
  | rfl
  | assumption
  | decide
  | omega
  | exact ⟨by decide, by decide⟩
  | exact .inr ⟨by decide, by decide⟩
  | exact .inl ⟨by decide, by decide⟩
  | exact ⟨by decide, by decide, by decide⟩
  | exact cdivw (by assumption) (by assumption)
  | exact log2_ok (by assumption)
  | exact Or.inl ⟨rfl, _, SqL.of upd_same⟩
  | exact Or.inl ⟨rfl, _, SqL.of (by assumption)⟩
  | exact ⟨_, rfl⟩
  | exact Nat.le_of_ble_eq_true rfl
  | exact small1000 (by omega))
local macro_rules | `(tactic| tm_at "prop") => `(tactic| first
  | assumption
  | omega)
local macro_rules | `(tactic| tm_at "s") => `(tactic| first
  | refine ⟨_, rfl, ?_⟩
  | refine ⟨_, _, rfl, rfl, ?_⟩
  | refine ⟨_, _, _, rfl, rfl, (by tm_at "fact"), (by tm_at "cond"), ?_⟩
  | refine ⟨_, _, _, _, rfl, rfl, (by tm_at "fact"), rfl, ?_⟩
  | refine ⟨_, _, rfl, (by tm_at "fact"), ?_⟩
  | refine And.intro (by tm_at "cond") ?_
  | refine .inl ⟨_, rfl, ?_⟩
  | refine ⟨_, _, rfl, .inl (by tm_at "fact"), ?_⟩
  | refine dec_false (by tm_at "prop") ?_
  | refine dec_true (by tm_at "prop") ?_
  | refine decN_false (by tm_at "prop") ?_
  | refine decN_true (by tm_at "prop") ?_
  | refine iteT ?_
  | refine iteF ?_
  | refine ⟨_, _, rfl, ?_⟩)
local macro_rules | `(tactic| tm_at "go") => `(tactic| repeat tm_at "s")

section
variable {P : Program} {w : World} {K : PySem.W.Frag} {mg : Str → Option Value} {base : Heap} {aH aR : Addr}
/-! ### write_integer -/
def spWriteInt : Sp := fun vs H Q _ => ∃ (n : Nat), vs = [.int (n : Int)] ∧ n < 10 ^ 40 ∧ ∀ H', Same H H' → Q (.str (num n)) H'
theorem sc_write_integer : FnScope ["n", "chunks", "low"] ["n"] (defScope s_write_integer) := ⟨rfl, rfl, rfl, by decide +kernel, rfl, by decide +kernel, by decide +kernel⟩
theorem ok_write_integer {k : Nat} (D : Def K mg "write_integer" "write_integer" s_write_integer ["n"]) (B : Bi mg) (G : Gb K mg aH aR) : Cal P w K mg base CX0 (k + 1) "write_integer" ["n"] spWriteInt := by
  refine D.cal fun f fd F => F.ok sc_write_integer (fun vs H Q E h => ?_) (fun cdv A outer s H vs Q E hr h => ?_)
  · obtain ⟨n, rfl, _⟩ := h
    rfl
  · obtain ⟨n, rfl, hn, q⟩ := h
    have nd := sc_write_integer.nd
    have c_write_integer : Cal P w K mg base CX0 k "write_integer" ["n"] (fun _ _ _ _ => False) := by
      obtain ⟨f, fd, F, m, b⟩ := D.ex
      exact ⟨f, fd, ⟨fun _ _ _ _ h => h.elim, fun _ _ _ _ _ _ _ _ _ _ _ _ _ h => h.elim⟩, m, F.kp, b⟩
    refine ⟨_, (pss_cons (ps_if (pt_cmpR op_lt (pv 0) pe_int (nomark _))
        (pss_one (ps_ret (pe_op op_add_str pe_str (pe_cal c_write_integer (Room.mono hr (by omega)) (by rfl) (pa_cons (pe_un un_neg (pv 0)) pa_nil)))))
        pss_nil)
      (pss_cons (ps_set (i := 1) nd rfl (Or.inl rfl) (pe_lst pa_nil))
      (pss_cons (ps_while PassesOwn.never (pt_cmpR op_ge (pv 0) (pe_globI (by rfl) G.BASE) (nomark _))
        pss_never)
      (pss_cons (ps_expr (pe_bm PySem.F.plainAttrs_list PySem.F.slot_list_append PySem.F.type_list_append mt_append (pv 1) (pa_cons (pe_callTy call_str_int (by rfl) B.str (by decide +kernel) (pa_cons (pv 0) pa_nil)) pa_nil)))
      (pss_one (ps_ret (pe_join pe_str (pe_revL (pv 1))))))))), ?_⟩
    have h40 : (10 : Nat) ^ 40 < 10 ^ 64 := by decide
    have hb : ¬ ((10 : Int) ^ 64 ≤ (n : Int)) := by
      intro z
      have : ((10 ^ 64 : Nat) : Int) ≤ (n : Int) := by
        have e : ((10 ^ 64 : Nat) : Int) = (10 : Int) ^ 64 := by decide
        rw [e]
        exact z
      omega
    tm_at "go"
    refine fun a na => ?_
    refine ⟨fun _ σ H1 => σ = [some (.int (n : Int)), some (.ref a)] ++ List.replicate 1 none ∧ H1 = upd H a (.lst []), ⟨0, rfl, rfl⟩, ?_⟩
    rintro m σ H1 ⟨rfl, rfl⟩
    tm_at "go"
    refine fun a2 na2 => ?_
    refine ⟨_, a2, [num n], rfl, rfl, .inl (SqL.of upd_same), ?_, ?_⟩
    · have := num_len hn
      show (num n).length + 0 + 1 * 0 ≤ 16777216
      omega
    · have e : Txt.join (Str.ofString "") [num n] = num n := by rw [join_eq] <;> rfl
      show Q (.str (Txt.join (Str.ofString "") [num n])) _
      rw [e]
      exact q _ (by tm_at "same")
end
end C
set_option Elab.async false
set_option linter.all false
set_option pp.maxSteps 1500
set_option maxRecDepth 100000
set_option maxHeartbeats 4000000
namespace C
open PySem PySem.Spec PyProof.Rows L2 Kx M TL
local macro_rules | `(tactic| tm_at "same") => `(tactic| first
  | assumption
  | exact L2.Same.refl _
  | exact L2.Same.upd (by tm_at "same") (by tm_at "free")
  | exact sameTransR (by assumption) (by tm_at "same"))
local macro_rules | `(tactic| tm_at "free") => `(tactic| first
  | assumption
  | exact sameFreeR (by assumption) (by tm_at "same"))
local macro_rules | `(tactic| tm_at "but") => `(tactic| first
  | assumption
  | exact But.refl _ _
  | exact But.transR (by assumption) (by tm_at "but")
  | exact But.upd
  | exact But.self (by tm_at "but")
  | exact But.new1 (by tm_at "but") (by assumption)
  | exact But.new (by tm_at "but") (by tm_at "free")
  | exact L2.Same.but (by assumption) _)
local macro_rules | `(tactic| tm_at "fact") => `(tactic| first
  | exact upd_same
  | assumption
  | exact SqL.of upd_same
  | exact SqT.of upd_same
  | exact SqL.of (by assumption)
  | exact SqT.of (by assumption)
  | exact But.lstR (by assumption) (by assumption) (by tm_at "but"))
local macro_rules | `(tactic| tm_at "cond") => `(tactic| first
  | rfl
  | assumption
  | decide
  | omega
  | exact ⟨by decide, by decide⟩
  | exact .inr ⟨by decide, by decide⟩
  | exact .inl ⟨by decide, by decide⟩
  | exact ⟨by decide, by decide, by decide⟩
  | exact cdivw (by assumption) (by assumption)
  | exact log2_ok (by assumption)
  | exact Or.inl ⟨rfl, _, SqL.of upd_same⟩
  | exact Or.inl ⟨rfl, _, SqL.of (by assumption)⟩
  | exact ⟨_, rfl⟩
  | exact Nat.le_of_ble_eq_true rfl
  | exact small1000 (by omega))
local macro_rules | `(tactic| tm_at "prop") => `(tactic| first
  | assumption
  | omega)
local macro_rules | `(tactic| tm_at "s") => `(tactic| first
  | refine ⟨_, rfl, ?_⟩
  | refine ⟨_, _, rfl, rfl, ?_⟩
  | refine ⟨_, _, _, rfl, rfl, (by tm_at "fact"), (by tm_at "cond"), ?_⟩
  | refine ⟨_, _, _, _, rfl, rfl, (by tm_at "fact"), rfl, ?_⟩
  | refine ⟨_, _, rfl, (by tm_at "fact"), ?_⟩
  | refine And.intro (by tm_at "cond") ?_
  | refine .inl ⟨_, rfl, ?_⟩
  | refine ⟨_, _, rfl, .inl (by tm_at "fact"), ?_⟩
  | refine dec_false (by tm_at "prop") ?_
  | refine dec_true (by tm_at "prop") ?_
  | refine decN_false (by tm_at "prop") ?_
  | refine decN_true (by tm_at "prop") ?_
  | refine iteT ?_
  | refine iteF ?_
  | refine ⟨_, _, rfl, ?_⟩)
local macro_rules | `(tactic| tm_at "go") => `(tactic| repeat tm_at "s")

section
variable {P : Program} {w : World} {K : PySem.W.Frag} {mg : Str → Option Value} {base : Heap} {aH aR : Addr}
/-! ### write_term -/
def spWriteTerm : Sp := fun vs H Q _ => ∃ (nm : Str) (a : Nat), vs = [.str nm, .int (a : Int)] ∧ a < 10 ^ 40 ∧ nm.length ≤ 100 ∧ ∀ H', Same H H' → Q (.str (tm nm a)) H'
theorem sc_write_term : FnScope ["name", "size"] ["name", "size"] (defScope s_write_term) := ⟨rfl, rfl, rfl, by decide +kernel, rfl, by decide +kernel, by decide +kernel⟩
theorem ok_write_term {k : Nat} (D : Def K mg "write_term" "write_term" s_write_term ["name", "size"]) (c_write_integer : Cal P w K mg base CX0 k "write_integer" ["n"] spWriteInt) : Cal P w K mg base CX0 (k + 1) "write_term" ["name", "size"] spWriteTerm := by
  refine D.cal fun f fd F => F.ok sc_write_term (fun vs H Q E h => ?_) (fun cdv A outer s H vs Q E hr h => ?_)
  · obtain ⟨nm, a, rfl, _⟩ := h
    rfl
  · obtain ⟨nm, a, rfl, ha, hl, q⟩ := h
    have nd := sc_write_term.nd
    refine ⟨_, (pss_cons (ps_if (pt_cmpR op_eq (pv 0) pe_str (nomark _))
        (pss_one (ps_ret (pe_cal c_write_integer (Room.mono hr (by omega)) (by rfl) (pa_cons (pv 1) pa_nil))))
        pss_nil)
      (pss_cons (ps_if (pt_cmpR op_eq (pv 1) pe_int (nomark _))
        (pss_one (ps_ret (pv 0)))
        pss_nil)
      (pss_one (ps_ret (pe_op op_add_str (pe_op op_add_str (pe_cal c_write_integer (Room.mono hr (by omega)) (by rfl) (pa_cons (pv 1) pa_nil)) pe_str) (pv 0)))))), ?_⟩
    have e0 : tm nm a = if nm = Str.empty then num a else if a = 1 then nm else num a ++ Str.ofString "*" ++ nm := rfl
    tm_at "go"
    refine ite2 (fun c => ?_) (fun c => ?_)
    · have c1 : nm = Str.empty := V.str.inj (of_decide_eq_true (show decide (V.str nm = V.str Str.empty) = true from c))
      rw [if_pos c1] at e0
      tm_at "go"
      intro H1 s1
      have z := q H1 s1
      rw [e0] at z
      exact z
    · have c1 : ¬ nm = Str.empty := fun z => c (decide_eq_true (congrArg V.str z))
      rw [if_neg c1] at e0
      tm_at "go"
      refine ite2 (fun c => ?_) (fun c => ?_)
      · have c2 : a = 1 := by
          have := V.int.inj (of_decide_eq_true c)
          omega
        rw [if_pos c2] at e0
        have z := q H (Same.refl H)
        rw [e0] at z
        tm_at "go"
        exact z
      · have c2 : ¬ a = 1 := fun z => c (decide_eq_true (congrArg V.int (by omega)))
        rw [if_neg c2] at e0
        tm_at "go"
        intro H1 s1
        have h1 := num_len ha
        have h2 : (S "*").length = 1 := by decide +kernel
        have hs : (142 : Nat) ≤ sizeLine := by decide
        have z := q H1 s1
        rw [e0] at z
        refine ⟨_, _, rfl, rfl, ?_, ?_⟩
        · show (num a).length + (S "*").length ≤ sizeLine
          omega
        · tm_at "go"
          refine ⟨?_, z⟩
          show (num a ++ S "*").length + nm.length ≤ sizeLine
          rw [len_app]
          omega
/-! ### is_name -/
def spIsName : Sp := fun vs H Q _ => ∃ x : Str, vs = [.str x] ∧ x.length ≤ 1000 ∧ ∀ H', Same H H' → Q (.bl (isN x)) H'
theorem isN_of {x : Str} {c : Nat} {r : List Nat} (e : tl x = c :: r) (h : ∀ d ∈ tl x, d ∈ nh ∨ d ∈ dg) : isN x = !decide (c ∈ dg) := by
  unfold isN
  rw [e]
  show (decide (c ∈ nh) && r.all fun d => decide (d ∈ nh) || decide (d ∈ dg)) = _
  have h2 : (r.all fun d => decide (d ∈ nh) || decide (d ∈ dg)) = true := List.all_eq_true.mpr fun d hd => by
    rw [Bool.or_eq_true, decide_eq_true_iff, decide_eq_true_iff]
    exact h d (by rw [e]; exact List.mem_cons_of_mem _ hd)
  rw [h2, Bool.and_true]
  have dis : ∀ c ∈ nh, c ∉ dg := by decide +kernel
  by_cases hc : c ∈ nh
  · rw [decide_eq_true hc, decide_eq_false (dis c hc)]
    rfl
  · have : c ∈ dg := (h c (by rw [e]; exact List.mem_cons_self ..)).resolve_left hc
    rw [decide_eq_false hc, decide_eq_true this]
    rfl
theorem isN_bad {x : Str} {c : Nat} (hc : c ∈ tl x) (h1 : c ∉ nh) (h2 : c ∉ dg) : isN x = false := by
  cases e : isN x with
  | false => rfl
  | true => rcases isNL_mem e c hc with q | q <;> contradiction
theorem sc_is_name : FnScope ["text", "char"] ["text"] (defScope s_is_name) := ⟨rfl, rfl, rfl, by decide +kernel, rfl, by decide +kernel, by decide +kernel⟩
theorem ok_is_name {k : Nat} (D : Def K mg "is_name" "is_name" s_is_name ["text"]) (B : Bi mg) (G : Gb K mg aH aR) : Cal P w K mg base CX0 (k + 1) "is_name" ["text"] spIsName := by
  refine D.cal fun f fd F => F.ok sc_is_name (fun vs H Q E h => ?_) (fun cdv A outer s H vs Q E hr h => ?_)
  · obtain ⟨x, rfl, _⟩ := h
    rfl
  · obtain ⟨x, rfl, hl, q⟩ := h
    have nd := sc_is_name.nd
    refine ⟨_, (pss_cons (ps_for PassesOwn.never rfl (pi_str (pv 0)) (pg_name (i := 1) nd rfl (Or.inl rfl))
        (pss_one (ps_if (PW.pt (pw_and (pt_cmpR op_notIn_sign (pv 1) (pe_globS (by rfl) G.FIRST) (by rfl)) (pw_and1 (pt_cmpR op_notIn_sign (pv 1) (pe_globS (by rfl) G.DIGITS_formtext) (by rfl)))))
          (pss_one (ps_ret pe_bl))
          pss_nil)))
      (pss_one (ps_ret (pe_and (pe_cmpR op_ne (pv 0) pe_str (nomark _)) (pe_one (pe_cmpR op_notIn_sign (pe_ix ix_str (pv 0) pe_int (fun _ _ => rfl)) (pe_globS (by rfl) G.DIGITS_formtext) (by rfl))))))), ?_⟩
    tm_at "go"
    refine for_it walk_str (fun i σ H' => ∃ v, σ = [some (.str x), v] ∧ H' = H ∧ ∀ c ∈ (tl x).take i, c ∈ nh ∨ c ∈ dg) ⟨_, rfl, rfl, by simp⟩ (fun _ _ _ _ _ => trivial) ?_ ?_
    · rintro i v σ H1 H2 hi ⟨v0, rfl, rfl, hb⟩ ⟨rfl, c, hc, rfl⟩
      have hc2 : (tl x)[i]? = some c := by
        rw [← hc]
        simp [tl]
      tm_at "go"
      have step : (c ∈ nh ∨ c ∈ dg) → ∀ d ∈ (tl x).take (i + 1), d ∈ nh ∨ d ∈ dg := fun hc d hd => by
        rw [List.take_add_one, hc2] at hd
        rcases List.mem_append.mp hd with z | z
        · exact hb d z
        · have e : d = c := by simpa using z
          rw [e]
          exact hc
      refine ite2 (fun c1 => ?_) (fun c1 => ?_)
      · have c1 : c ∉ nh := by simpa using (show (!decide (c ∈ nh)) = true from c1)
        tm_at "go"
        refine ite2 (fun c2 => ?_) (fun c2 => ?_)
        · have c2 : c ∉ dg := by simpa using (show (!decide (c ∈ dg)) = true from c2)
          tm_at "go"
          have z := q H2 (Same.refl _)
          rw [isN_bad (List.mem_of_getElem? hc2) c1 c2] at z
          exact z
        · have c2 : c ∈ dg := by simpa using (show ¬ (!decide (c ∈ dg)) = true from c2)
          exact ⟨_, rfl, rfl, step (.inr c2)⟩
      · have c1 : c ∈ nh := by simpa using (show ¬ (!decide (c ∈ nh)) = true from c1)
        exact ⟨_, rfl, rfl, step (.inl c1)⟩
    · rintro σ H1 ⟨v0, rfl, rfl, hb⟩
      have hb : ∀ c ∈ tl x, c ∈ nh ∨ c ∈ dg := fun c hc => hb c (by
        rw [List.take_of_length_le (by simp [tl])]
        exact hc)
      tm_at "go"
      refine ite2 (fun c1 => ?_) (fun c1 => ?_)
      · have c1 : ¬ x = Str.empty := by
          have := show (!decide (V.str x = V.str Str.empty)) = true from c1
          intro e
          rw [e] at this
          exact absurd this (by decide)
        cases e : tl x with
        | nil => exact absurd (ext_tl e) c1
        | cons c r =>
          have z := q H1 (Same.refl _)
          rw [isN_of e hb] at z
          tm_at "go"
          refine ⟨_, _, c, rfl, rfl, ?_, ?_, ?_⟩
          · have hs : (1000 : Nat) ≤ sizeLine := by decide
            omega
          · show atI (tl x) 0 = some c
            rw [e]
            exact atI_nat (j := 0) rfl
          · tm_at "go"
            exact z
      · have c1 : x = Str.empty := by
          have := show ¬ (!decide (V.str x = V.str Str.empty)) = true from c1
          by_cases e : V.str x = V.str Str.empty
          · exact V.str.inj e
          · rw [decide_eq_false e] at this
            exact absurd rfl this
        have z := q H1 (Same.refl _)
        rw [c1] at z
        exact z
end
end C
set_option Elab.async false
set_option linter.all false
set_option pp.maxSteps 1500
set_option maxRecDepth 100000
set_option maxHeartbeats 4000000
namespace C
open PySem PySem.Spec PyProof.Rows L2 Kx M TL
local macro_rules | `(tactic| tm_at "same") => `(tactic| first
  | assumption
  | exact L2.Same.refl _
  | exact L2.Same.upd (by tm_at "same") (by tm_at "free")
  | exact sameTransR (by assumption) (by tm_at "same"))
local macro_rules | `(tactic| tm_at "free") => `(tactic| first
  | assumption
  | exact sameFreeR (by assumption) (by tm_at "same"))
local macro_rules | `(tactic| tm_at "but") => `(tactic| first
  | assumption
  | exact But.refl _ _
  | exact But.transR (by assumption) (by tm_at "but")
  | exact But.upd
  | exact But.self (by tm_at "but")
  | exact But.new1 (by tm_at "but") (by assumption)
  | exact But.new (by tm_at "but") (by tm_at "free")
  | exact L2.Same.but (by assumption) _)
local macro_rules | `(tactic| tm_at "fact") => `(tactic| first
  | exact upd_same
  | assumption
  | exact SqL.of upd_same
  | exact SqT.of upd_same
  | exact SqL.of (by assumption)
  | exact SqT.of (by assumption)
  | exact But.lstR (by assumption) (by assumption) (by tm_at "but"))
local macro_rules | `(tactic| tm_at "cond") => `(tactic| first
  | rfl
  | assumption
  | decide
  | omega
  | exact ⟨by decide, by decide⟩
  | exact .inr ⟨by decide, by decide⟩
  | exact .inl ⟨by decide, by decide⟩
  | exact ⟨by decide, by decide, by decide⟩
  | exact cdivw (by assumption) (by assumption)
  | exact log2_ok (by assumption)
  | exact Or.inl ⟨rfl, _, SqL.of upd_same⟩
  | exact Or.inl ⟨rfl, _, SqL.of (by assumption)⟩
  | exact ⟨_, rfl⟩
  | exact Nat.le_of_ble_eq_true rfl
  | exact small1000 (by omega))
local macro_rules | `(tactic| tm_at "prop") => `(tactic| first
  | assumption
  | omega)
local macro_rules | `(tactic| tm_at "s") => `(tactic| first
  | refine ⟨_, rfl, ?_⟩
  | refine ⟨_, _, rfl, rfl, ?_⟩
  | refine ⟨_, _, _, rfl, rfl, (by tm_at "fact"), (by tm_at "cond"), ?_⟩
  | refine ⟨_, _, _, _, rfl, rfl, (by tm_at "fact"), rfl, ?_⟩
  | refine ⟨_, _, rfl, (by tm_at "fact"), ?_⟩
  | refine And.intro (by tm_at "cond") ?_
  | refine .inl ⟨_, rfl, ?_⟩
  | refine ⟨_, _, rfl, .inl (by tm_at "fact"), ?_⟩
  | refine dec_false (by tm_at "prop") ?_
  | refine dec_true (by tm_at "prop") ?_
  | refine decN_false (by tm_at "prop") ?_
  | refine decN_true (by tm_at "prop") ?_
  | refine iteT ?_
  | refine iteF ?_
  | refine ⟨_, _, rfl, ?_⟩)
local macro_rules | `(tactic| tm_at "go") => `(tactic| repeat tm_at "s")

section
variable {P : Program} {w : World} {K : PySem.W.Frag} {mg : Str → Option Value} {base : Heap} {aH aR : Addr}
/-! ### read_integer -/
def spReadInt : Sp := fun vs H Q _ => ∃ (n : Nat), vs = [.str (num n)] ∧ n < 10 ^ 40 ∧ ∀ H', Same H H' → Q (.int (n : Int)) H'
theorem sc_read_integer : FnScope ["text", "digits", "char", "head", "n", "start"] ["text"] (defScope s_read_integer) := ⟨rfl, rfl, rfl, by decide +kernel, rfl, by decide +kernel, by decide +kernel⟩
theorem ok_read_integer {k : Nat} (D : Def K mg "read_integer" "read_integer" s_read_integer ["text"]) (B : Bi mg) (G : Gb K mg aH aR) : Cal P w K mg base CX0 (k + 1) "read_integer" ["text"] spReadInt := by
  refine D.cal fun f fd F => F.ok sc_read_integer (fun vs H Q E h => ?_) (fun cdv A outer s H vs Q E hr h => ?_)
  · obtain ⟨x, rfl, _⟩ := h
    rfl
  · obtain ⟨n, rfl, hn, q⟩ := h
    have nd := sc_read_integer.nd
    refine ⟨_, (pss_cons (ps_set (i := 1) nd rfl (Or.inl rfl) (pv 0))
      (pss_cons (ps_if (pt_cmpR op_eq (pe_slice sl_str (pv 0) po_none (po_some pe_int)) pe_str (nomark _))
        (pss_one (ps_set (i := 1) nd rfl (Or.inl rfl) (pe_slice sl_str (pv 0) (po_some pe_int) po_none)))
        pss_nil)
      (pss_cons (ps_if (PW.pt (pw_or (pt_cmpR op_eq (pv 1) pe_str (nomark _)) (pw_or1 (PW.pt (pw_and (pt_cmpR op_eq (pe_ix ix_str (pv 1) pe_int (fun _ _ => rfl)) pe_str (nomark _)) (pw_and1 (pt_cmpR op_ne (pv 0) pe_str (nomark _))))))))
        (pss_one ps_never)
        pss_nil)
      (pss_cons (ps_for PassesOwn.never rfl (pi_str (pv 1)) (pg_name (i := 2) nd rfl (Or.inl rfl))
        (pss_one (ps_if (pt_cmpR op_notIn_sign (pv 2) (pe_globS (by rfl) G.DIGITS_digits) (by rfl))
          (pss_one ps_never)
          pss_nil)))
      (pss_cons (ps_set (i := 3) nd rfl (Or.inl rfl) (pe_op op_mod (pe_callB call_len_str (by rfl) B.len (by decide +kernel) (pa_cons (pv 1) pa_nil)) pe_int))
      (pss_cons (ps_set (i := 4) nd rfl (Or.inl rfl) pe_int)
      (pss_cons (ps_if (pt_cmpR op_gt (pv 3) pe_int (nomark _))
        (pss_one (ps_set (i := 4) nd rfl (Or.inl rfl) (pe_callTy call_int_str (by rfl) B.int (by decide +kernel) (pa_cons (pe_slice sl_str (pv 1) po_none (po_some (pv 3))) pa_nil))))
        pss_nil)
      (pss_cons (ps_for PassesOwn.never rfl (pi_range3 (by rfl) B.range (pa_cons (pv 3) (pa_cons (pe_callB call_len_str (by rfl) B.len (by decide +kernel) (pa_cons (pv 1) pa_nil)) (pa_cons pe_int pa_nil)))) (pg_name (i := 5) nd rfl (Or.inl rfl))
        (pss_one (ps_set (i := 4) nd rfl (Or.inl rfl) (pe_op op_add (pe_op op_mul (pv 4) (pe_globI (by rfl) G.BASE)) (pe_callTy call_int_str (by rfl) B.int (by decide +kernel) (pa_cons (pe_slice sl_str (pv 1) (po_some (pv 5)) (po_some (pe_op op_add (pv 5) pe_int))) pa_nil))))))
      (pss_cons (ps_if (pt_cmpR op_eq (pe_ix ix_str (pv 0) pe_int (fun _ _ => rfl)) pe_str (nomark _))
        (pss_one (ps_ret (pe_un un_neg (pv 4))))
        pss_nil)
      (pss_one (ps_ret (pv 4)))))))))))), ?_⟩
    have hs : (40 : Nat) ≤ sizeLine := by decide
    obtain ⟨c, r, e, h1, h2, h0⟩ := num_head n
    have hint : PySem.intText? (num n) = some (n : Int) := int_num (by
      have := num_len hn
      rw [← tl_numS, ← len_tl]
      omega)
    have hl := num_len hn
    have hz0 : n = 0 → num n = S "0" := fun z => by rw [z, num_zero]
    have hmem : ∀ d ∈ tl (num n), d ∈ dg := fun d hd => num_mem hd
    generalize num n = X at e hint hl hz0 hmem ⊢
    have hlen : X.length = r.length + 1 := by
      rw [len_tl, e]
      rfl
    have h45 : ¬ V.str (⟨#[c]⟩ : Str) = V.str (S "-") := fun q => by
      have := congrArg tl (V.str.inj q)
      rw [tl_minus] at this
      have : c = 45 := by simpa [tl] using this
      omega
    have hsl : ¬ V.str (cutS X none (some 1)) = V.str (S "-") := fun z => by
      have z1 : tl (cutS X none (some ((1 : Nat) : Int))) = tl (S "-") := congrArg tl (V.str.inj z)
      rw [cut_to, e, tl_minus] at z1
      have : c = 45 := by simpa using z1
      omega
    have hne : ¬ V.str X = V.str (S "") := fun z => by
      have := congrArg tl (V.str.inj z)
      rw [e] at this
      have e2 : tl (S "") = [] := by decide +kernel
      rw [e2] at this
      cases this
    have hat : atI X.cps.toList 0 = some c := by
      show atI (tl X) 0 = some c
      rw [e]
      exact atI_nat (j := 0) rfl
    have hfull : cutS X none (some (X.length : Int)) = X := by
      refine ext_tl ?_
      rw [cut_to, len_tl, List.take_of_length_le (Nat.le_refl _)]
    have hmod : (X.length : Int) % 64 = (X.length : Int) := by omega
    have hiX : PySem.intText? (cutS X none (some ((X.length : Int) % 64))) = some (n : Int) := by
      rw [hmod, hfull]
      exact hint
    have hcl : (cutS X none (some ((X.length : Int) % 64))).length ≤ 640 := by
      rw [hmod, hfull]
      omega
    tm_at "go"
    refine ⟨_, _, c, rfl, rfl, by omega, hat, ?_⟩
    tm_at "go"
    refine ite_to ?_ (fun c1 rest => ?_)
    · tm_at "go"
      refine for_it walk_str (fun i σ H' => ∃ v, σ = [some (.str X), some (.str X), v, none, none, none] ∧ H' = H) ⟨_, rfl, rfl⟩ (fun _ _ _ _ _ => trivial) ?_ ?_
      · rintro i v σ H1 H2 hi ⟨v0, rfl, rfl⟩ ⟨rfl, d, hd2, rfl⟩
        have hc2 : (tl X)[i]? = some d := by
          rw [← hd2]
          simp [tl]
        have hdg : d ∈ dg := hmem d (List.mem_of_getElem? hc2)
        tm_at "go"
        rfl
      · rintro σ H1 ⟨v0, rfl, rfl⟩
        tm_at "go"
        refine ⟨_, _, _, 0, rfl, ?_, ?_⟩
        · rw [hmod]
          exact rg_none (by decide) (by decide) (by omega) (by omega)
        · refine for_it walk_rangeC (fun i σ H' => σ = [some (.str X), some (.str X), v0, some (.int ((X.length : Int) % 64)), some (.int (n : Int)), none] ∧ H' = H1) ⟨rfl, rfl⟩ (fun _ _ _ _ _ => trivial) ?_ ?_
          · rintro i v σ H1 H2 hi
            exact absurd hi (by omega)
          · rintro σ H2 ⟨rfl, rfl⟩
            tm_at "go"
            refine ⟨_, _, c, rfl, rfl, by omega, hat, ?_⟩
            tm_at "go"
            exact q _ (Same.refl _)
    · have c1 : c = 48 := by
        have e2 : tl (S "0") = [48] := by decide +kernel
        have := congrArg tl (V.str.inj (of_decide_eq_true (show decide (V.str (⟨#[c]⟩ : Str) = V.str (S "0")) = true from c1)))
        rw [e2] at this
        simpa [tl] using this
      exact ⟨_, rfl, rfl, _, rfl, decN_false (congrArg V.str (hz0 (h0 c1))) (of_iteF rest)⟩
end
end C
set_option Elab.async false
set_option linter.all false
set_option pp.maxSteps 1500
set_option maxRecDepth 100000
set_option maxHeartbeats 4000000
namespace C
open PySem PySem.Spec PyProof.Rows L2 Kx M TL
local macro_rules | `(tactic| tm_at "same") => `(tactic| first
  | assumption
  | exact L2.Same.refl _
  | exact L2.Same.upd (by tm_at "same") (by tm_at "free")
  | exact sameTransR (by assumption) (by tm_at "same"))
local macro_rules | `(tactic| tm_at "free") => `(tactic| first
  | assumption
  | exact sameFreeR (by assumption) (by tm_at "same"))
local macro_rules | `(tactic| tm_at "but") => `(tactic| first
  | assumption
  | exact But.refl _ _
  | exact But.transR (by assumption) (by tm_at "but")
  | exact But.upd
  | exact But.self (by tm_at "but")
  | exact But.new1 (by tm_at "but") (by assumption)
  | exact But.new (by tm_at "but") (by tm_at "free")
  | exact L2.Same.but (by assumption) _)
local macro_rules | `(tactic| tm_at "fact") => `(tactic| first
  | exact upd_same
  | assumption
  | exact SqL.of upd_same
  | exact SqT.of upd_same
  | exact SqL.of (by assumption)
  | exact SqT.of (by assumption)
  | exact But.lstR (by assumption) (by assumption) (by tm_at "but"))
local macro_rules | `(tactic| tm_at "cond") => `(tactic| first
  | rfl
  | assumption
  | decide
  | omega
  | exact ⟨by decide, by decide⟩
  | exact .inr ⟨by decide, by decide⟩
  | exact .inl ⟨by decide, by decide⟩
  | exact ⟨by decide, by decide, by decide⟩
  | exact cdivw (by assumption) (by assumption)
  | exact log2_ok (by assumption)
  | exact Or.inl ⟨rfl, _, SqL.of upd_same⟩
  | exact Or.inl ⟨rfl, _, SqL.of (by assumption)⟩
  | exact ⟨_, rfl⟩
  | exact Nat.le_of_ble_eq_true rfl
  | exact small1000 (by omega))
local macro_rules | `(tactic| tm_at "prop") => `(tactic| first
  | assumption
  | omega)
local macro_rules | `(tactic| tm_at "s") => `(tactic| first
  | refine ⟨_, rfl, ?_⟩
  | refine ⟨_, _, rfl, rfl, ?_⟩
  | refine ⟨_, _, _, rfl, rfl, (by tm_at "fact"), (by tm_at "cond"), ?_⟩
  | refine ⟨_, _, _, _, rfl, rfl, (by tm_at "fact"), rfl, ?_⟩
  | refine ⟨_, _, rfl, (by tm_at "fact"), ?_⟩
  | refine And.intro (by tm_at "cond") ?_
  | refine .inl ⟨_, rfl, ?_⟩
  | refine ⟨_, _, rfl, .inl (by tm_at "fact"), ?_⟩
  | refine dec_false (by tm_at "prop") ?_
  | refine dec_true (by tm_at "prop") ?_
  | refine decN_false (by tm_at "prop") ?_
  | refine decN_true (by tm_at "prop") ?_
  | refine iteT ?_
  | refine iteF ?_
  | refine ⟨_, _, rfl, ?_⟩)
local macro_rules | `(tactic| tm_at "go") => `(tactic| repeat tm_at "s")

section
variable {P : Program} {w : World} {K : PySem.W.Frag} {mg : Str → Option Value} {base : Heap} {aH aR : Addr}
/-! ### form -/
def spForm (K : PySem.W.Frag) : Sp := fun vs H Q _ => ∃ (c : Int) (a : Addr) (xs : List V) (ps : List (Str × Int)), vs = [.int c, .ref a] ∧ SqL K H a xs ∧ Ims K H xs (ps.map pD) ∧ ps.length < 64 ∧
  ∀ r H' ys, ys.Perm ((totals ps).map (·.1)) → ys.Pairwise sLe → Same H H' → Im K H' r (fD (c, tms ps ys)) → Q r H'
theorem sc_form : FnScope ["constant", "pairs", "sums", "name", "coefficient"] ["constant", "pairs"] (defScope s_form) := ⟨rfl, rfl, rfl, by decide +kernel, rfl, by decide +kernel, by decide +kernel⟩
theorem ok_form {k : Nat} (D : Def K mg "form" "form" s_form ["constant", "pairs"]) (B : Bi mg) : Cal P w K mg base CX0 (k + 1) "form" ["constant", "pairs"] (spForm K) := by
  refine D.cal fun f fd F => F.ok sc_form (fun vs H Q E h => ?_) (fun cdv A outer s H vs Q E hr h => ?_)
  · obtain ⟨c, a, xs, ps, rfl, _⟩ := h
    rfl
  · obtain ⟨c, a, xs, ps, rfl, ha, hi, hl, q⟩ := h
    have nd := sc_form.nd
    have hlx := hi.length
    rw [List.length_map] at hlx
    refine ⟨_, (pss_cons (ps_set (i := 2) nd rfl (Or.inr rfl) pe_dnewK)
      (pss_cons (ps_for PassesOwn.never rfl (pi_list (pv 1)) (pg_tup rfl (pgs_cons (pg_name (i := 3) nd rfl (Or.inl rfl)) (pgs_cons (pg_name (i := 4) nd rfl (Or.inl rfl)) pgs_nil)))
        (pss_one (ps_dput (hu_of hr) (pv 2) (pv 3) (pe_op op_add (pe_dget2 (hu_of hr) (pv 2) (pv 3) pe_int ⟨rfl, rfl, rfl, rfl⟩) (pv 4)) rfl)))
      (pss_one (ps_ret (pe_tup (pa_cons (pv 0) (pa_cons (pe_callTy call_tuple_of (by rfl) B.tuple (by decide +kernel) (pa_cons (pe_lc (own := [("name", 3)]) (by rfl) nd (pi_list (pe_callB (call_sortedD rfl) (by rfl) B.sorted (by decide +kernel) (pa_cons (pv 2) pa_nil))) (blkOk_by (own := [("name", 3)]) (N := ["constant", "pairs", "sums", "name", "coefficient"]) (sc := defScope s_form) (by decide +kernel)) (fun _ _ _ _ _ => (pg_name (i := 3) nd rfl (Or.inl rfl))) (fun _ _ _ _ _ => (pts_one (pt_cmpR op_ne (pe_dget (hu_of hr) (pv 2) (pv 3) (fun _ _ => rfl)) pe_int (nomark _)))) (fun _ _ _ _ _ => (pe_tup (pa_cons (pv 3) (pa_cons (pe_dget (hu_of hr) (pv 2) (pv 3) (fun _ _ => rfl)) pa_nil))))) pa_nil)) pa_nil))))))), ?_⟩
    tm_at "go"
    intro d nd0
    have s0 : Same H (upd H d (.dK [])) := by tm_at "same"
    refine ⟨_, rfl, a, rfl, ⟨_, s0.seq ha⟩, ?_⟩
    refine for_it walk_list (fun i σ H' => ∃ v1 v2, σ = [some (.int c), some (.ref a), some (.ref d), v1, v2] ∧ Same H H' ∧ H' d = some (.dK (kvP (totals (ps.take i))))) ⟨_, _, rfl, s0, upd_same⟩ (fun i σ H' _ ⟨_, _, _, s1, _⟩ => s1.seq ha) ?_ ?_
    · rintro i v σ H1 H2 hlt ⟨v1, v2, rfl, s1, hd⟩ ⟨rfl, hv⟩
      obtain ⟨p, hp, him⟩ := ims_at hi hv
      obtain ⟨t, rfl, ht⟩ := pD_inv (s1.tk.im him)
      have hlen : (kvP (totals (ps.take i))).length < sizeLine := by
        unfold kvP
        rw [List.length_map]
        have h1 := totals_len (ps.take i)
        rw [List.length_take] at h1
        exact small1000 (by omega)
      tm_at "go"
      refine ⟨.inl ⟨_, .inl hd⟩, ?_⟩
      tm_at "go"
      refine ⟨_, DGet.k (k := Sum.inr p.1) hd, ?_⟩
      rw [kv_val]
      tm_at "go"
      refine ⟨d, _, rfl, DPut.k (k := Sum.inr p.1) hd hlen, ?_⟩
      refine ⟨_, _, rfl, by tm_at "same", ?_⟩
      rw [upd_same, kv_put _ _ _ (totals_nodup _), take_snoc hp, totals_snoc]
    · rintro σ H1 ⟨v1, v2, rfl, s1, hd⟩
      rw [List.take_of_length_le (by omega)] at hd
      have hkl := totals_len ps
      tm_at "go"
      refine ⟨d, _, (totals ps).map (·.1), rfl, .inl hd, kvP_keys _, by rw [List.length_map]; omega, fun ys p pm so np => ?_⟩
      have s2 : Same H1 (upd H1 p (.lst (ys.map V.str))) := same_new np
      have hyl : ys.length < 64 := by
        rw [pm.length_eq, List.length_map]
        omega
      refine ⟨p, rfl, ⟨_, SqL.of upd_same⟩, fun D nD => ?_⟩
      refine lc_it walk_list (fun i H' => Same H1 H' ∧ H' p = some (.lst (ys.map V.str)) ∧ ∃ vs, H' D = some (.lst vs) ∧ vs.length ≤ i ∧ Ims K H' vs ((((ys.take i).map fun n => (n, look (totals ps) n)).filter nzp).map pD)) ?_ (fun i H' _ ⟨_, h, _⟩ => SqL.of h) ?_ ?_
      · have npD : p ≠ D := ne_of_none upd_same nD
        refine ⟨by tm_at "same", ?_, [], upd_same, Nat.le_refl _, ?_⟩
        · rw [upd_ne npD, upd_same]
        · rw [List.take_zero]
          exact .nil
      · rintro i v Hx Hy hlt ⟨sx, hp, vs, hDv, hlv, him⟩ ⟨rfl, hv⟩
        have npD : p ≠ D := ne_of_none upd_same nD
        obtain ⟨n, hn, rfl⟩ : ∃ n, ys[i]? = some n ∧ V.str n = v := by
          rw [List.getElem?_map] at hv
          cases e : ys[i]? with
          | none => rw [e] at hv; cases hv
          | some z => rw [e] at hv; exact ⟨z, rfl, Option.some.inj hv⟩
        have hmem : n ∈ (totals ps).map (·.1) := pm.subset (List.mem_of_getElem? hn)
        have hg := kv_has (totals ps) n hmem
        have hd2 : Hy d = some (.dK (kvP (totals ps))) := sx _ _ hd
        have dg : DGet Hy d (.str n) (some (.int (look (totals ps) n))) := by
          rw [← hg]
          exact DGet.k (k := Sum.inr n) hd2
        have hil : i < 64 := by
          rw [List.length_map] at hlt
          omega
        have cons : (((ys.take (i + 1)).map fun n => (n, look (totals ps) n)).filter nzp).map pD = (((ys.take i).map fun n => (n, look (totals ps) n)).filter nzp).map pD ++ (if look (totals ps) n = 0 then [] else [pD (n, look (totals ps) n)]) := by
          rw [take_snoc hn, List.map_append, List.filter_append, List.map_append]
          congr 1
          show List.map pD (List.filter nzp [(n, look (totals ps) n)]) = _
          by_cases z : look (totals ps) n = 0
          · rw [if_pos z, List.filter_cons_of_neg (by unfold nzp; rw [decide_eq_true z]; exact Bool.false_ne_true)]
            rfl
          · rw [if_neg z, List.filter_cons_of_pos (by unfold nzp; rw [decide_eq_false z]; rfl)]
            rfl
        rw [cons]
        tm_at "go"
        refine ite2 (fun c => ?_) (fun c => ?_)
        · have c1 : ¬ look (totals ps) n = 0 := fun z => by
            have := show (!decide (V.int (look (totals ps) n) = V.int 0)) = true from c
            rw [z] at this
            exact absurd this (by decide)
          rw [if_neg c1]
          tm_at "go"
          refine fun t nt => ⟨vs, ?_, small1000 (by omega), ?_, ?_, _, upd_same, ?_, ?_⟩
          · rw [upd_ne (ne_of_none hDv nt)]
            exact hDv
          · tm_at "same"
          · rw [upd_ne npD, upd_ne (ne_of_none hp nt)]
            exact hp
          · rw [List.length_append]
            show vs.length + 1 ≤ i + 1
            omega
          · refine Ims.snoc (TK.ims ?_ him) (pD_of (SqT.of ?_))
            · exact (TK.new nt).trans (TK.lst (xs := vs) (by rw [upd_ne (ne_of_none hDv nt)]; exact hDv))
            · rw [upd_ne (ne_of_none hDv nt).symm, upd_same]
        · have c1 : look (totals ps) n = 0 := by
            have := show ¬ (!decide (V.int (look (totals ps) n) = V.int 0)) = true from c
            by_cases z : look (totals ps) n = 0
            · exact z
            · rw [decide_eq_false (fun e => z (V.int.inj e))] at this
              exact absurd rfl this
          rw [if_pos c1, List.append_nil]
          exact ⟨sx, hp, vs, hDv, by omega, him⟩
      · rintro H5 ⟨sx, hp, vs, hDv, hlv, him⟩
        rw [List.length_map, List.take_of_length_le (Nat.le_refl _)] at him
        rw [List.length_map] at hlv
        refine ⟨D, vs, rfl, .inl ⟨SqL.of hDv, fun u nu => ?_⟩⟩
        tm_at "go"
        refine fun t nt => ?_
        refine q _ _ ys pm (sorted_pair so) (by tm_at "same") (fD_of (u := u) (xs := vs) (SqT.of upd_same) (SqT.of ?_) ?_)
        · rw [upd_ne (ne_of_none upd_same nt), upd_same]
        · exact (TK.new nt).ims ((TK.new nu).ims him)
end
end C
set_option Elab.async false
set_option linter.all false
set_option pp.maxSteps 1500
set_option maxRecDepth 100000
set_option maxHeartbeats 4000000
namespace C
open PySem PySem.Spec PyProof.Rows L2 Kx M TL
local macro_rules | `(tactic| tm_at "same") => `(tactic| first
  | assumption
  | exact L2.Same.refl _
  | exact L2.Same.upd (by tm_at "same") (by tm_at "free")
  | exact sameTransR (by assumption) (by tm_at "same"))
local macro_rules | `(tactic| tm_at "free") => `(tactic| first
  | assumption
  | exact sameFreeR (by assumption) (by tm_at "same"))
local macro_rules | `(tactic| tm_at "but") => `(tactic| first
  | assumption
  | exact But.refl _ _
  | exact But.transR (by assumption) (by tm_at "but")
  | exact But.upd
  | exact But.self (by tm_at "but")
  | exact But.new1 (by tm_at "but") (by assumption)
  | exact But.new (by tm_at "but") (by tm_at "free")
  | exact L2.Same.but (by assumption) _)
local macro_rules | `(tactic| tm_at "fact") => `(tactic| first
  | exact upd_same
  | assumption
  | exact SqL.of upd_same
  | exact SqT.of upd_same
  | exact SqL.of (by assumption)
  | exact SqT.of (by assumption)
  | exact But.lstR (by assumption) (by assumption) (by tm_at "but"))
local macro_rules | `(tactic| tm_at "cond") => `(tactic| first
  | rfl
  | assumption
  | decide
  | omega
  | exact ⟨by decide, by decide⟩
  | exact .inr ⟨by decide, by decide⟩
  | exact .inl ⟨by decide, by decide⟩
  | exact ⟨by decide, by decide, by decide⟩
  | exact cdivw (by assumption) (by assumption)
  | exact log2_ok (by assumption)
  | exact Or.inl ⟨rfl, _, SqL.of upd_same⟩
  | exact Or.inl ⟨rfl, _, SqL.of (by assumption)⟩
  | exact ⟨_, rfl⟩
  | exact Nat.le_of_ble_eq_true rfl
  | exact small1000 (by omega))
local macro_rules | `(tactic| tm_at "prop") => `(tactic| first
  | assumption
  | omega)
local macro_rules | `(tactic| tm_at "s") => `(tactic| first
  | refine ⟨_, rfl, ?_⟩
  | refine ⟨_, _, rfl, rfl, ?_⟩
  | refine ⟨_, _, _, rfl, rfl, (by tm_at "fact"), (by tm_at "cond"), ?_⟩
  | refine ⟨_, _, _, _, rfl, rfl, (by tm_at "fact"), rfl, ?_⟩
  | refine ⟨_, _, rfl, (by tm_at "fact"), ?_⟩
  | refine And.intro (by tm_at "cond") ?_
  | refine .inl ⟨_, rfl, ?_⟩
  | refine ⟨_, _, rfl, .inl (by tm_at "fact"), ?_⟩
  | refine dec_false (by tm_at "prop") ?_
  | refine dec_true (by tm_at "prop") ?_
  | refine decN_false (by tm_at "prop") ?_
  | refine decN_true (by tm_at "prop") ?_
  | refine iteT ?_
  | refine iteF ?_
  | refine ⟨_, _, rfl, ?_⟩)
local macro_rules | `(tactic| tm_at "go") => `(tactic| repeat tm_at "s")

section
variable {P : Program} {w : World} {K : PySem.W.Frag} {mg : Str → Option Value} {base : Heap} {aH aR : Addr}
/-! ### write_form -/
def spWriteForm (K : PySem.W.Frag) : Sp := fun vs H Q _ => ∃ (v : V) (f : M.Form), vs = [v] ∧ Im K H v (fD f) ∧ FOk f ∧ ∀ H', Same H H' → Q (.str (wr f)) H'
theorem sc_write_form : FnScope ["f", "terms", "text", "name", "coefficient"] ["f"] (defScope s_write_form) := ⟨rfl, rfl, rfl, by decide +kernel, rfl, by decide +kernel, by decide +kernel⟩
theorem ok_write_form {k : Nat} (D : Def K mg "write_form" "write_form" s_write_form ["f"]) (B : Bi mg) (c_write_term : Cal P w K mg base CX0 k "write_term" ["name", "size"] spWriteTerm) : Cal P w K mg base CX0 (k + 1) "write_form" ["f"] (spWriteForm K) := by
  refine D.cal fun f fd F => F.ok sc_write_form (fun vs H Q E h => ?_) (fun cdv A outer s H vs Q E hr h => ?_)
  · obtain ⟨v, f, rfl, _⟩ := h
    rfl
  · obtain ⟨v, g, rfl, hv, hg, q⟩ := h
    have nd := sc_write_form.nd
    obtain ⟨t, u, xs, rfl, ht, hu, hx⟩ := fD_inv hv
    have hxl := hx.length
    rw [List.length_map] at hxl
    have hgl := hg.len
    have hPO := terms_ok hg
    have htl := terms_len hg
    refine ⟨_, (pss_cons (ps_set (i := 1) nd rfl (Or.inl rfl) (pe_callTy call_list_of (by rfl) B.list (by decide +kernel) (pa_cons (pe_ix ix_tup (pv 0) pe_int (fun _ _ => rfl)) pa_nil)))
      (C8.pss_cut (ps_if (PW.pt (pw_or (pt_cmpR op_ne (pe_ix ix_tup (pv 0) pe_int (fun _ _ => rfl)) pe_int (nomark _)) (pw_or1 (pt_not (pt_truth (pv 1) (by intro _; rfl))))))
        (pss_one (ps_expr (pe_bm PySem.F.plainAttrs_list PySem.F.slot_list_append PySem.F.type_list_append mt_append (pv 1) (pa_cons (pe_tup (pa_cons pe_str (pa_cons (pe_ix ix_tup (pv 0) pe_int (fun _ _ => rfl)) pa_nil))) pa_nil))))
        pss_nil)
      (pss_cons (ps_set (i := 2) nd rfl (Or.inl rfl) pe_str)
      (pss_cons (ps_for PassesOwn.never rfl (pi_list (pv 1)) (pg_tup rfl (pgs_cons (pg_name (i := 3) nd rfl (Or.inl rfl)) (pgs_cons (pg_name (i := 4) nd rfl (Or.inl rfl)) pgs_nil)))
        (C8.pss_cut (ps_if (pt_cmpR op_eq (pv 2) pe_str (nomark _))
          (pss_one (ps_set (i := 2) nd rfl (Or.inl rfl) (pe_ifExp (pt_cmpR op_lt (pv 4) pe_int (nomark _)) pe_str pe_str)))
          (pss_one (ps_aug (i := 2) nd rfl (Or.inl rfl) (pe_ifExp (pt_cmpR op_lt (pv 4) pe_int (nomark _)) pe_str pe_str) ip_addS)))
        (pss_one (ps_aug (i := 2) nd rfl (Or.inl rfl) (pe_cal c_write_term (Room.mono hr (by omega)) (by rfl) (pa_cons (pv 3) (pa_cons (pe_callB call_abs (by rfl) B.abs (by decide +kernel) (pa_cons (pv 4) pa_nil)) pa_nil))) ip_addS))))
      (pss_one (ps_ret (pv 2))))))), ?_⟩
    tm_at "go"
    refine ⟨_, xs, rfl, .inr hu, fun l nl => ?_⟩
    have s0 : Same H (upd H l (.lst xs)) := by tm_at "same"
    have ht1 : SqT K (upd H l (.lst xs)) t [.int g.1, .ref u] := s0.tk.tup ht
    refine ⟨fun σ H1 => ∃ vs, σ = [some (.ref t), some (.ref l), none, none, none] ∧ Same H H1 ∧ H1 l = some (.lst vs) ∧ Ims K H1 vs ((terms g).map pD), ?_, ?_⟩
    · have same : ¬ (g.1 ≠ 0 ∨ g.2 = []) → ∃ vs, [some (V.ref t), some (V.ref l), none, none, none] = [some (.ref t), some (.ref l), none, none, none] ∧ Same H (upd H l (.lst xs)) ∧ upd H l (.lst xs) l = some (.lst vs) ∧ Ims K (upd H l (.lst xs)) vs ((terms g).map pD) := fun hc => by
        refine ⟨xs, rfl, s0, upd_same, ?_⟩
        unfold terms
        rw [if_neg hc]
        exact s0.tk.ims hx
      have app : (g.1 ≠ 0 ∨ g.2 = []) → ∀ tp, upd H l (.lst xs) tp = none → ∃ vs, [some (V.ref t), some (V.ref l), none, none, none] = [some (.ref t), some (.ref l), none, none, none] ∧ Same H (upd (upd (upd H l (.lst xs)) tp (.tup [.str Str.empty, .int g.1])) l (.lst (xs ++ [.ref tp]))) ∧ (upd (upd (upd H l (.lst xs)) tp (.tup [.str Str.empty, .int g.1])) l (.lst (xs ++ [.ref tp]))) l = some (.lst vs) ∧ Ims K (upd (upd (upd H l (.lst xs)) tp (.tup [.str Str.empty, .int g.1])) l (.lst (xs ++ [.ref tp]))) vs ((terms g).map pD) := fun hc tp ntp => by
        have nlt : l ≠ tp := ne_of_none upd_same ntp
        have tk1 : TK (upd (upd H l (.lst xs)) tp (.tup [.str Str.empty, .int g.1])) (upd (upd (upd H l (.lst xs)) tp (.tup [.str Str.empty, .int g.1])) l (.lst (xs ++ [.ref tp]))) := TK.lst (xs := xs) (by rw [upd_ne nlt, upd_same])
        refine ⟨xs ++ [.ref tp], rfl, by tm_at "same", upd_same, ?_⟩
        unfold terms
        rw [if_pos hc, List.map_append]
        refine tk1.ims (Ims.snoc ((TK.new ntp).ims (s0.tk.ims hx)) (pD_of (p := (Str.empty, g.1)) (SqT.of upd_same)))
      have nlt2 : ∀ tp, upd H l (.lst xs) tp = none → (upd (upd H l (.lst xs)) tp (.tup [.str Str.empty, .int g.1])) l = some (.lst xs) := fun tp ntp => by
        rw [upd_ne (ne_of_none upd_same ntp), upd_same]
      tm_at "go"
      refine ite2 (fun c => ?_) (fun c => ?_)
      · have c1 : g.1 ≠ 0 := fun z => by
          have := show (!decide (V.int g.1 = V.int 0)) = true from c
          rw [z] at this
          exact absurd this (by decide)
        tm_at "go"
        refine fun tp ntp => ?_
        refine ⟨_, _, _, rfl, rfl, nlt2 tp ntp, small1000 (by omega), ?_⟩
        exact app (.inl c1) tp ntp
      · have c1 : g.1 = 0 := by
          by_cases z : g.1 = 0
          · exact z
          · exact absurd (show (!decide (V.int g.1 = V.int 0)) = true by rw [decide_eq_false (fun e => z (V.int.inj e))]; rfl) c
        refine ⟨_, rfl, !xs.isEmpty, .inl ⟨xs, SqL.of upd_same, rfl⟩, ?_⟩
        cases xs with
        | nil =>
          have c2 : g.2 = [] := List.length_eq_zero_iff.mp (by
            rw [← hxl]
            rfl)
          tm_at "go"
          refine fun tp ntp => ?_
          refine ⟨_, _, _, rfl, rfl, nlt2 tp ntp, small1000 (by omega), ?_⟩
          exact app (.inr c2) tp ntp
        | cons x r =>
          tm_at "go"
          refine same (fun z => ?_)
          rcases z with z | z
          · exact z c1
          · rw [z] at hxl
            cases hxl
    · rintro σ H1 ⟨vs, rfl, s1, hl, him⟩
      have hvl := him.length
      rw [List.length_map] at hvl
      tm_at "go"
      refine ⟨⟨_, SqL.of hl⟩, ?_⟩
      refine for_it walk_list (fun i σ H' => ∃ v1 v2, σ = [some (.ref t), some (.ref l), some (.str (wterms ((terms g).take i))), v1, v2] ∧ Same H1 H') ⟨_, _, rfl, Same.refl _⟩ (fun i σ H' _ ⟨_, _, _, s2⟩ => SqL.of (s2 _ _ hl)) ?_ ?_
      · rintro i v σ H2 H3 hlt ⟨v1, v2, rfl, s2⟩ ⟨rfl, hv⟩
        obtain ⟨p, hp, hpi⟩ := ims_at him hv
        obtain ⟨t2, rfl, ht2⟩ := pD_inv (s2.tk.im hpi)
        have hpo := hPO p (List.mem_of_getElem? hp)
        have hpre : ∀ p ∈ (terms g).take i, POk p := fun p hp => hPO p (List.mem_of_mem_take hp)
        have hwl := wterms_len hpre
        rw [List.length_take] at hwl
        have hbig : (10000 : Nat) ≤ sizeLine := by decide
        have html := tm_len hpo
        have htk : (terms g).take (i + 1) = (terms g).take i ++ [p] := take_snoc hp
        have hil : i < (terms g).length := by omega
        refine ⟨_, _, rfl, ht2, rfl, ?_⟩
        tm_at "go"
        refine ⟨fun σ H' => σ = [some (.ref t), some (.ref l), some (.str (wterms ((terms g).take i) ++ (if i = 0 then sg p.2 else sp p.2))), some (.str p.1), some (.int p.2)] ∧ H' = H3, ?_, ?_⟩
        · by_cases hi0 : i = 0
          · subst hi0
            have e0 : V.str (wterms ((terms g).take 0)) = V.str (S "") := by rw [List.take_zero] <;> rfl
            tm_at "go"
            refine ite2 (fun c => ?_) (fun c => ?_)
            · have c1 : p.2 < 0 := of_decide_eq_true c
              refine ⟨?_, rfl⟩
              show _ = [_, _, some (V.str (Str.empty ++ sg p.2)), _, _]
              rw [empty_app]
              unfold sg
              rw [if_pos c1]
              rfl
            · have c1 : ¬ p.2 < 0 := fun z => c (decide_eq_true z)
              refine ⟨?_, rfl⟩
              show _ = [_, _, some (V.str (Str.empty ++ sg p.2)), _, _]
              rw [empty_app]
              unfold sg
              rw [if_neg c1]
              rfl
          · have hne : ¬ V.str (wterms ((terms g).take i)) = V.str (S "") := fun z => by
              refine wterms_ne ?_ hpre (V.str.inj z)
              intro z
              have : ((terms g).take i).length = 0 := by rw [z]; rfl
              rw [List.length_take] at this
              omega
            rw [if_neg hi0]
            generalize wterms ((terms g).take i) = T at hne hwl ⊢
            tm_at "go"
            have h3 : (S " - ").length = 3 := by decide +kernel
            have h4 : (S " + ").length = 3 := by decide +kernel
            refine ite2 (fun c => ?_) (fun c => ?_)
            · have c1 : p.2 < 0 := of_decide_eq_true c
              refine ⟨_, _, rfl, rfl, ?_, ?_, rfl⟩
              · show T.length + (S " - ").length ≤ sizeLine
                omega
              · unfold sp
                rw [if_pos c1]
                rfl
            · have c1 : ¬ p.2 < 0 := fun z => c (decide_eq_true z)
              refine ⟨_, _, rfl, rfl, ?_, ?_, rfl⟩
              · show T.length + (S " + ").length ≤ sizeLine
                omega
              · unfold sp
                rw [if_neg c1]
                rfl
        · rintro σ H4 ⟨rfl, rfl⟩
          tm_at "go"
          refine ⟨p.1, p.2.natAbs, ?_, hpo.2, hpo.name_len, fun H5 s5 => ?_⟩
          · show [V.str p.1, V.int (if p.2 < 0 then -p.2 else p.2)] = _
            rw [abs_nat]
          · refine ⟨_, _, rfl, rfl, ?_, ?_⟩
            · show (wterms ((terms g).take i) ++ (if i = 0 then sg p.2 else sp p.2)).length + (tm p.1 p.2.natAbs).length ≤ sizeLine
              rw [len_app]
              have h1 := sg_len p.2
              have h2 := sp_len p.2
              split <;> omega
            · refine ⟨some (.str p.1), some (.int p.2), ?_, s2.trans s5⟩
              show [_, _, some (V.str (wterms ((terms g).take i) ++ (if i = 0 then sg p.2 else sp p.2) ++ tm p.1 p.2.natAbs)), _, _] = _
              rw [htk]
              by_cases hi0 : i = 0
              · subst hi0
                rw [if_pos rfl, List.take_zero, List.nil_append, wterms_one]
                show [_, _, some (V.str (Str.empty ++ sg p.2 ++ tm p.1 p.2.natAbs)), _, _] = _
                rw [empty_app]
              · rw [if_neg hi0, wterms_snoc _ _ (fun z => by
                  have : ((terms g).take i).length = 0 := by rw [z]; rfl
                  rw [List.length_take] at this
                  omega)]
      · rintro σ H2 ⟨v1, v2, rfl, s2⟩
        have e : wterms ((terms g).take vs.length) = wr g := by
          rw [List.take_of_length_le (by omega)]
          rfl
        tm_at "go"
        rw [e]
        exact q _ (s1.trans s2)
end
end C
set_option Elab.async false
set_option linter.all false
set_option pp.maxSteps 1500
set_option maxRecDepth 100000
set_option maxHeartbeats 4000000
namespace C
open PySem PySem.Spec PyProof.Rows L2 Kx M TL
local macro_rules | `(tactic| tm_at "same") => `(tactic| first
  | assumption
  | exact L2.Same.refl _
  | exact L2.Same.upd (by tm_at "same") (by tm_at "free")
  | exact sameTransR (by assumption) (by tm_at "same"))
local macro_rules | `(tactic| tm_at "free") => `(tactic| first
  | assumption
  | exact sameFreeR (by assumption) (by tm_at "same"))
local macro_rules | `(tactic| tm_at "but") => `(tactic| first
  | assumption
  | exact But.refl _ _
  | exact But.transR (by assumption) (by tm_at "but")
  | exact But.upd
  | exact But.self (by tm_at "but")
  | exact But.new1 (by tm_at "but") (by assumption)
  | exact But.new (by tm_at "but") (by tm_at "free")
  | exact L2.Same.but (by assumption) _)
local macro_rules | `(tactic| tm_at "fact") => `(tactic| first
  | exact upd_same
  | assumption
  | exact SqL.of upd_same
  | exact SqT.of upd_same
  | exact SqL.of (by assumption)
  | exact SqT.of (by assumption)
  | exact But.lstR (by assumption) (by assumption) (by tm_at "but"))
local macro_rules | `(tactic| tm_at "cond") => `(tactic| first
  | rfl
  | assumption
  | decide
  | omega
  | exact ⟨by decide, by decide⟩
  | exact .inr ⟨by decide, by decide⟩
  | exact .inl ⟨by decide, by decide⟩
  | exact ⟨by decide, by decide, by decide⟩
  | exact cdivw (by assumption) (by assumption)
  | exact log2_ok (by assumption)
  | exact Or.inl ⟨rfl, _, SqL.of upd_same⟩
  | exact Or.inl ⟨rfl, _, SqL.of (by assumption)⟩
  | exact ⟨_, rfl⟩
  | exact Nat.le_of_ble_eq_true rfl
  | exact small1000 (by omega))
local macro_rules | `(tactic| tm_at "prop") => `(tactic| first
  | assumption
  | omega)
local macro_rules | `(tactic| tm_at "s") => `(tactic| first
  | refine ⟨_, rfl, ?_⟩
  | refine ⟨_, _, rfl, rfl, ?_⟩
  | refine ⟨_, _, _, rfl, rfl, (by tm_at "fact"), (by tm_at "cond"), ?_⟩
  | refine ⟨_, _, _, _, rfl, rfl, (by tm_at "fact"), rfl, ?_⟩
  | refine ⟨_, _, rfl, (by tm_at "fact"), ?_⟩
  | refine And.intro (by tm_at "cond") ?_
  | refine .inl ⟨_, rfl, ?_⟩
  | refine ⟨_, _, rfl, .inl (by tm_at "fact"), ?_⟩
  | refine dec_false (by tm_at "prop") ?_
  | refine dec_true (by tm_at "prop") ?_
  | refine decN_false (by tm_at "prop") ?_
  | refine decN_true (by tm_at "prop") ?_
  | refine iteT ?_
  | refine iteF ?_
  | refine ⟨_, _, rfl, ?_⟩)
local macro_rules | `(tactic| tm_at "go") => `(tactic| repeat tm_at "s")

section
variable {P : Program} {w : World} {K : PySem.W.Frag} {mg : Str → Option Value} {base : Heap} {aH aR : Addr}
/-! ### read_term -/
def spReadTerm (K : PySem.W.Frag) : Sp := fun vs H Q _ => ∃ (nm : Str) (a : Nat) (s : Int), vs = [.str (tm nm a), .int s] ∧ (nm = Str.empty ∨ (NameOk nm ∧ 1 ≤ a)) ∧ a < 10 ^ 40 ∧ (s = 1 ∨ s = -1) ∧
  ∀ r H', Same H H' → Im K H' r (pD (nm, s * (a : Int))) → Q r H'
theorem tl_star : tl (S "*") = [42] := by decide +kernel
theorem star_free_name {nm : Str} (h : isN nm = true) : 42 ∉ tl nm := fun m => by
  rcases isNL_mem h 42 m with q | q
  · exact absurd q (by decide +kernel)
  · exact absurd q (by decide +kernel)
theorem star_free_num (n : Nat) : 42 ∉ tl (num n) := fun m => absurd (num_mem m) (by decide +kernel)
/-- the three parts of a term -/
theorem part_term {nm : Str} {a : Nat} (h : nm = Str.empty ∨ (NameOk nm ∧ 1 ≤ a)) :
    (nm = Str.empty ∧ Txt.partition (tm nm a) (S "*") = (num a, Str.empty, Str.empty)) ∨
    (NameOk nm ∧ a = 1 ∧ Txt.partition (tm nm a) (S "*") = (nm, Str.empty, Str.empty)) ∨
    (NameOk nm ∧ Txt.partition (tm nm a) (S "*") = (num a, S "*", nm)) := by
  unfold tm
  by_cases e : nm = Str.empty
  · refine .inl ⟨e, ?_⟩
    rw [if_pos e]
    exact partition_none tl_star (star_free_num a)
  · have hn : NameOk nm := by
      rcases h with q | q
      · exact absurd q e
      · exact q.1
    rw [if_neg e]
    by_cases e1 : a = 1
    · refine .inr (.inl ⟨hn, e1, ?_⟩)
      rw [if_pos e1]
      exact partition_none tl_star (star_free_name hn.is)
    · refine .inr (.inr ⟨hn, ?_⟩)
      rw [if_neg e1]
      exact partition_app tl_star (star_free_num a)
theorem sc_read_term : FnScope ["text", "sign", "digits", "star", "name"] ["text", "sign"] (defScope s_read_term) := ⟨rfl, rfl, rfl, by decide +kernel, rfl, by decide +kernel, by decide +kernel⟩
theorem ok_read_term {k : Nat} (D : Def K mg "read_term" "read_term" s_read_term ["text", "sign"]) (B : Bi mg) (c_is_name : Cal P w K mg base CX0 k "is_name" ["text"] spIsName)
    (c_read_integer : Cal P w K mg base CX0 k "read_integer" ["text"] spReadInt) : Cal P w K mg base CX0 (k + 1) "read_term" ["text", "sign"] (spReadTerm K) := by
  refine D.cal fun f fd F => F.ok sc_read_term (fun vs H Q E h => ?_) (fun cdv A outer s H vs Q E hr h => ?_)
  · obtain ⟨nm, a, s, rfl, _⟩ := h
    rfl
  · obtain ⟨nm, a, sg, rfl, hna, ha, hsg, q⟩ := h
    have nd := sc_read_term.nd
    have hbig : (1000 : Nat) ≤ sizeLine := by decide
    have hnl := num_len ha
    have htl : (tm nm a).length ≤ sizeLine := by
      have h1 : (nm = Str.empty ∨ (NameOk nm ∧ (a : Int) ≠ 0)) := hna.imp (fun x => x) fun x => ⟨x.1, by omega⟩
      have := tm_len (p := (nm, (a : Int))) ⟨h1, ha⟩
      have this : (tm nm a).length ≤ 141 := this
      omega
    have hmul : ∀ z : Int, CMul sg z := fun z => .inl (by rcases hsg with e | e <;> subst e <;> exact ⟨by decide, by decide⟩)
    have part := part_term hna
    have hnn := num_noname a
    refine ⟨_, (pss_cons (ps_asg (pe_partition (pv 0) pe_str) (pg_tup rfl (pgs_cons (pg_name (i := 2) nd rfl (Or.inl rfl)) (pgs_cons (pg_name (i := 3) nd rfl (Or.inl rfl)) (pgs_cons (pg_name (i := 4) nd rfl (Or.inl rfl)) pgs_nil)))))
      (pss_cons (ps_if (PW.pt (pw_and (pt_cmpR op_eq (pv 3) pe_str (nomark _)) (pw_and1 (pt_val (pe_cal c_is_name (Room.mono hr (by omega)) (by rfl) (pa_cons (pv 2) pa_nil))))))
        (pss_one (ps_ret (pe_tup (pa_cons (pv 2) (pa_cons (pv 1) pa_nil)))))
        pss_nil)
      (pss_cons (ps_if (PW.pt (pw_and (pt_cmpR op_ne (pv 3) pe_str (nomark _)) (pw_and1 (pt_not (pt_val (pe_cal c_is_name (Room.mono hr (by omega)) (by rfl) (pa_cons (pv 4) pa_nil)))))))
        (pss_one ps_never)
        pss_nil)
      (pss_one (ps_ret (pe_tup (pa_cons (pv 4) (pa_cons (pe_op op_mul (pv 1) (pe_cal c_read_integer (Room.mono hr (by omega)) (by rfl) (pa_cons (pv 2) pa_nil))) pa_nil)))))))), ?_⟩
    generalize tm nm a = T at htl part ⊢
    generalize hX : num a = X at part hnl hnn
    tm_at "go"
    refine fun p np => ?_
    have hm1 : ∀ H1, Same H H1 → (0 : Nat) = 0 := fun _ _ => rfl
    have s0 : ∀ o, Same H (upd H p o) := fun o => same_new np
    rcases part with ⟨e, ep⟩ | ⟨hn, e, ep⟩ | ⟨hn, ep⟩
    · rw [ep]
      subst e
      tm_at "go"
      have e1 : isN (X, Str.empty, Str.empty).1 = false := hnn
      refine ⟨by show X.length ≤ 1000; omega, fun H1 s1 => ?_⟩
      rw [e1]
      tm_at "go"
      refine ⟨a, congrArg (fun z => [V.str z]) hX.symm, ha, fun H2 s2 => ?_⟩
      refine ⟨_, _, rfl, rfl, hmul _, ?_⟩
      tm_at "go"
      refine fun t nt => ?_
      exact q _ _ (Same.upd (((s0 _).trans s1).trans s2) (((s0 _).trans s1).trans s2 |>.free nt)) (pD_of (SqT.of upd_same))
    · rw [ep]
      subst e
      have hl := hn.len
      tm_at "go"
      have e1 : isN (nm, Str.empty, Str.empty).1 = true := hn.is
      refine ⟨by show nm.length ≤ 1000; omega, fun H1 s1 => ?_⟩
      rw [e1]
      tm_at "go"
      refine fun t nt => ?_
      refine q _ _ (Same.upd ((s0 _).trans s1) (((s0 _).trans s1).free nt)) (pD_of (SqT.of ?_))
      rw [upd_same]
      show some (HO.tup [V.str nm, V.int sg]) = some (HO.tup [V.str nm, V.int (sg * ((1 : Nat) : Int))])
      have e2 : sg * ((1 : Nat) : Int) = sg := by omega
      rw [e2]
    · rw [ep]
      have hl := hn.len
      tm_at "go"
      have e1 : isN (X, S "*", nm).2.2 = true := hn.is
      refine ⟨by show nm.length ≤ 1000; omega, fun H1 s1 => ?_⟩
      rw [e1]
      tm_at "go"
      refine ⟨a, congrArg (fun z => [V.str z]) hX.symm, ha, fun H2 s2 => ?_⟩
      refine ⟨_, _, rfl, rfl, hmul _, ?_⟩
      tm_at "go"
      refine fun t nt => ?_
      exact q _ _ (Same.upd (((s0 _).trans s1).trans s2) (((s0 _).trans s1).trans s2 |>.free nt)) (pD_of (SqT.of upd_same))
end
end C
set_option Elab.async false
set_option linter.all false
set_option pp.maxSteps 1500
set_option maxRecDepth 100000
set_option maxHeartbeats 4000000
namespace C
open PySem PySem.Spec PyProof.Rows L2 Kx M TL
local macro_rules | `(tactic| tm_at "same") => `(tactic| first
  | assumption
  | exact L2.Same.refl _
  | exact L2.Same.upd (by tm_at "same") (by tm_at "free")
  | exact sameTransR (by assumption) (by tm_at "same"))
local macro_rules | `(tactic| tm_at "free") => `(tactic| first
  | assumption
  | exact sameFreeR (by assumption) (by tm_at "same"))
local macro_rules | `(tactic| tm_at "but") => `(tactic| first
  | assumption
  | exact But.refl _ _
  | exact But.transR (by assumption) (by tm_at "but")
  | exact But.upd
  | exact But.self (by tm_at "but")
  | exact But.new1 (by tm_at "but") (by assumption)
  | exact But.new (by tm_at "but") (by tm_at "free")
  | exact L2.Same.but (by assumption) _)
local macro_rules | `(tactic| tm_at "fact") => `(tactic| first
  | exact upd_same
  | assumption
  | exact SqL.of upd_same
  | exact SqT.of upd_same
  | exact SqL.of (by assumption)
  | exact SqT.of (by assumption)
  | exact But.lstR (by assumption) (by assumption) (by tm_at "but"))
local macro_rules | `(tactic| tm_at "cond") => `(tactic| first
  | rfl
  | assumption
  | decide
  | omega
  | exact ⟨by decide, by decide⟩
  | exact .inr ⟨by decide, by decide⟩
  | exact .inl ⟨by decide, by decide⟩
  | exact ⟨by decide, by decide, by decide⟩
  | exact cdivw (by assumption) (by assumption)
  | exact log2_ok (by assumption)
  | exact Or.inl ⟨rfl, _, SqL.of upd_same⟩
  | exact Or.inl ⟨rfl, _, SqL.of (by assumption)⟩
  | exact ⟨_, rfl⟩
  | exact Nat.le_of_ble_eq_true rfl
  | exact small1000 (by omega))
local macro_rules | `(tactic| tm_at "prop") => `(tactic| first
  | assumption
  | omega)
local macro_rules | `(tactic| tm_at "s") => `(tactic| first
  | refine ⟨_, rfl, ?_⟩
  | refine ⟨_, _, rfl, rfl, ?_⟩
  | refine ⟨_, _, _, rfl, rfl, (by tm_at "fact"), (by tm_at "cond"), ?_⟩
  | refine ⟨_, _, _, _, rfl, rfl, (by tm_at "fact"), rfl, ?_⟩
  | refine ⟨_, _, rfl, (by tm_at "fact"), ?_⟩
  | refine And.intro (by tm_at "cond") ?_
  | refine .inl ⟨_, rfl, ?_⟩
  | refine ⟨_, _, rfl, .inl (by tm_at "fact"), ?_⟩
  | refine dec_false (by tm_at "prop") ?_
  | refine dec_true (by tm_at "prop") ?_
  | refine decN_false (by tm_at "prop") ?_
  | refine decN_true (by tm_at "prop") ?_
  | refine iteT ?_
  | refine iteF ?_
  | refine ⟨_, _, rfl, ?_⟩)
local macro_rules | `(tactic| tm_at "go") => `(tactic| repeat tm_at "s")

section
variable {P : Program} {w : World} {K : PySem.W.Frag} {mg : Str → Option Value} {base : Heap} {aH aR : Addr}
/-! ### read_form -/
def spReadForm (K : PySem.W.Frag) : Sp := fun vs H Q _ => ∃ (f : M.Form), vs = [.str (wr f)] ∧ FOk f ∧ ∀ r H', Same H H' → Im K H' r (fD f) → Q r H'
theorem sc_read_form : FnScope ["text", "words", "first", "sign", "pairs", "k", "found", "name", "number", "pair"] ["text"] (defScope s_read_form) := ⟨rfl, rfl, rfl, by decide +kernel, rfl, by decide +kernel, by decide +kernel⟩
theorem ok_read_form {k : Nat} (D : Def K mg "read_form" "read_form" s_read_form ["text"]) (B : Bi mg) (c_read_term : Cal P w K mg base CX0 k "read_term" ["text", "sign"] (spReadTerm K))
    (c_form : Cal P w K mg base CX0 k "form" ["constant", "pairs"] (spForm K)) (c_write_form : Cal P w K mg base CX0 k "write_form" ["f"] (spWriteForm K)) : Cal P w K mg base CX0 (k + 1) "read_form" ["text"] (spReadForm K) := by
  refine D.cal fun f fd F => F.ok sc_read_form (fun vs H Q E h => ?_) (fun cdv A outer s H vs Q E hr h => ?_)
  · obtain ⟨g, rfl, _⟩ := h
    rfl
  · obtain ⟨g, rfl, hg, q⟩ := h
    have nd := sc_read_form.nd
    have hPO := terms_ok hg
    have htl := terms_len hg
    have hwl := wr_len hg
    have hbig : (20000 : Nat) ≤ sizeLine := by decide
    have hsplit := wr_split hg
    have hcnt := wdt_count _ (terms_ne g)
    obtain ⟨p0, rest, et⟩ : ∃ p0 rest, terms g = p0 :: rest := by
      cases e : terms g with
      | nil => exact absurd e (terms_ne g)
      | cons p r => exact ⟨p, r, rfl⟩
    have hp0 : POk p0 := hPO p0 (by rw [et]; exact List.mem_cons_self ..)
    have hwd : wd g = (M.sg p0.2 ++ tm p0.1 p0.2.natAbs) :: wdl rest := by
      unfold wd
      rw [et]
      rfl
    have hrl : rest.length ≤ 50 := by
      rw [et] at htl
      have : rest.length + 1 ≤ 51 := htl
      omega
    have hwn : ((wd g).map V.str).length = 2 * rest.length + 1 := by
      rw [List.length_map, hwd, List.length_cons, wdl_count]
    have hcs := consts_sum hg
    have hnk := names_kept hg
    refine ⟨_, (pss_cons (ps_set (i := 1) nd rfl (Or.inl rfl) (pe_split (pv 0) pe_str))
      (pss_cons (ps_set (i := 2) nd rfl (Or.inl rfl) (pe_ix ix_list (pv 1) pe_int (fun _ _ => rfl)))
      (pss_cons (ps_set (i := 3) nd rfl (Or.inl rfl) pe_int)
      (C8.pss_cut (ps_if (pt_cmpR op_eq (pe_slice sl_str (pv 2) po_none (po_some pe_int)) pe_str (nomark _))
        (pss_cons (ps_set (i := 3) nd rfl (Or.inl rfl) (pe_un un_neg pe_int))
        (pss_one (ps_set (i := 2) nd rfl (Or.inl rfl) (pe_slice sl_str (pv 2) (po_some pe_int) po_none))))
        pss_nil)
      (pss_cons (ps_set (i := 4) nd rfl (Or.inl rfl) (pe_lst (pa_cons (pe_cal c_read_term (Room.mono hr (by omega)) (by rfl) (pa_cons (pv 2) (pa_cons (pv 3) pa_nil))) pa_nil)))
      (pss_cons (ps_if (pt_cmpR op_eq (pe_op op_mod (pe_callB call_len_seq (by rfl) B.len (by decide +kernel) (pa_cons (pv 1) pa_nil)) pe_int) pe_int (nomark _))
        (pss_one ps_never)
        pss_nil)
      (pss_cons (ps_for PassesOwn.never rfl (pi_range3 (by rfl) B.range (pa_cons pe_int (pa_cons (pe_callB call_len_seq (by rfl) B.len (by decide +kernel) (pa_cons (pv 1) pa_nil)) (pa_cons pe_int pa_nil)))) (pg_name (i := 5) nd rfl (Or.inl rfl))
        (pss_cons (ps_if (pt_cmpR op_notIn_seq (pe_ix ix_list (pv 1) (pv 5) (fun _ _ => rfl)) (pe_tup (pa_cons pe_str (pa_cons pe_str pa_nil))) (by rfl))
          (pss_one ps_never)
          pss_nil)
        (pss_one (ps_expr (pe_bm PySem.F.plainAttrs_list PySem.F.slot_list_append PySem.F.type_list_append mt_append (pv 4) (pa_cons (pe_cal c_read_term (Room.mono hr (by omega)) (by rfl) (pa_cons (pe_ix ix_list (pv 1) (pe_op op_add (pv 5) pe_int) (fun _ _ => rfl)) (pa_cons (pe_ifExp (pt_cmpR op_eq (pe_ix ix_list (pv 1) (pv 5) (fun _ _ => rfl)) pe_str (nomark _)) pe_int (pe_un un_neg pe_int)) pa_nil))) pa_nil))))))
      (pss_cons (ps_set (i := 6) nd rfl (Or.inl rfl) (pe_cal c_form (Room.mono hr (by omega)) (by rfl) (pa_cons (pe_callB (cr_sum rfl) (by rfl) B.sum (by decide +kernel) (pa_cons (pe_lc (own := [("name", 7), ("number", 8)]) (by rfl) nd (pi_list (pv 4)) (blkOk_by (own := [("name", 7), ("number", 8)]) (N := ["text", "words", "first", "sign", "pairs", "k", "found", "name", "number", "pair"]) (sc := defScope s_read_form) (by decide +kernel)) (fun _ _ _ _ _ => (pg_tupK (K := K) (n := 2) rfl rfl (pgs_cons (pg_name (i := 7) nd rfl (Or.inl rfl)) (pgs_cons (pg_name (i := 8) nd rfl (Or.inl rfl)) pgs_nil)))) (fun _ _ _ _ _ => (pts_one (pt_cmpR op_eq (pv 7) pe_str (nomark _)))) (fun _ _ _ _ _ => (pv 8))) pa_nil)) (pa_cons (pe_lc (own := [("pair", 9)]) (by rfl) nd (pi_list (pv 4)) (blkOk_by (own := [("pair", 9)]) (N := ["text", "words", "first", "sign", "pairs", "k", "found", "name", "number", "pair"]) (sc := defScope s_read_form) (by decide +kernel)) (fun _ _ _ _ _ => (pg_name (i := 9) nd rfl (Or.inl rfl))) (fun _ _ _ _ _ => (pts_one (pt_cmpR op_ne (pe_ix (ix_tupK (K := K) rfl) (pv 9) pe_int (fun _ _ => rfl)) pe_str (nomark _)))) (fun _ _ _ _ _ => (pv 9))) pa_nil))))
      (pss_cons (ps_if (pt_cmpR op_ne (pe_cal c_write_form (Room.mono hr (by omega)) (by rfl) (pa_cons (pv 6) pa_nil)) (pv 0) (nomark _))
        (pss_one ps_never)
        pss_nil)
      (pss_one (ps_ret (pv 6)))))))))))), ?_⟩
    generalize hTT : wr g = T at hwl hsplit ⊢
    tm_at "go"
    refine fun lw nlw => ?_
    have e1 : Txt.split T (Str.ofString " ") = wd g := hsplit
    rw [e1]
    have s0 : Same H (upd H lw (.lst ((wd g).map V.str))) := same_new nlw
    tm_at "go"
    refine ⟨_, _, _, V.str (M.sg p0.2 ++ tm p0.1 p0.2.natAbs), rfl, rfl, SqL.of upd_same, atI_nat (j := 0) (by rw [hwd]; rfl), ?_⟩
    have hT0 := tm_len hp0
    have hhd := tm_head hp0
    generalize hT0' : tm p0.1 p0.2.natAbs = T0 at hT0 hhd ⊢
    refine ⟨fun σ H1 => σ = [some (.str T), some (.ref lw), some (.str T0), some (.int (if p0.2 < 0 then -1 else 1)), none, none, none, none, none, none] ∧ H1 = upd H lw (.lst ((wd g).map V.str)), ?_, ?_⟩
    · by_cases hz : p0.2 < 0
      · rw [if_pos hz]
        have hsg : M.sg p0.2 = S "-" := by
          unfold M.sg
          rw [if_pos hz]
        rw [hsg]
        have hl1 : (S "-" ++ T0).length ≤ sizeLine := by
          rw [len_app]
          have : (S "-").length = 1 := by decide +kernel
          omega
        have h1 : V.str (cutS (S "-" ++ T0) none (some 1)) = V.str (S "-") := by
          refine congrArg V.str (ext_tl ?_)
          refine (cut_to (S "-" ++ T0) 1).trans ?_
          rw [tl_append, tl_minus]
          rfl
        have h2 : cutS (S "-" ++ T0) (some 1) none = T0 := by
          refine ext_tl ?_
          refine (cut_from (S "-" ++ T0) 1).trans ?_
          rw [tl_append, tl_minus]
          rfl
        tm_at "go"
        rw [h2]
        first | rfl | exact ⟨rfl, rfl⟩
      · rw [if_neg hz]
        have hsg : M.sg p0.2 = Str.empty := by
          unfold M.sg
          rw [if_neg hz]
        rw [hsg, empty_app]
        have h1 : ¬ V.str (cutS T0 none (some 1)) = V.str (S "-") := fun z => by
          have z2 : tl (cutS T0 none (some ((1 : Nat) : Int))) = tl (S "-") := congrArg tl (V.str.inj z)
          rw [cut_to, tl_minus] at z2
          exact hhd z2
        have hl1 : T0.length ≤ sizeLine := by omega
        tm_at "go"
        first | rfl | exact ⟨rfl, rfl⟩
    · rintro σ H1 ⟨rfl, rfl⟩
      have hnm0 : p0.1 = Str.empty ∨ (NameOk p0.1 ∧ 1 ≤ p0.2.natAbs) := hp0.1.imp id fun x => ⟨x.1, by omega⟩
      have hsgn : (if p0.2 < 0 then (-1 : Int) else 1) = 1 ∨ (if p0.2 < 0 then (-1 : Int) else 1) = -1 := by
        split
        · exact .inr rfl
        · exact .inl rfl
      tm_at "go"
      refine ⟨p0.1, p0.2.natAbs, _, by rw [hT0'] <;> rfl, hnm0, hp0.2, hsgn, fun r0 H2 s2 im0 => ?_⟩
      rw [sign_mul] at im0
      generalize (if p0.2 < 0 then (-1 : Int) else 1) = SG
      tm_at "go"
      refine fun lp nlp => ?_
      have s3 : Same H H2 := s0.trans s2
      have s4 : Same H (upd H2 lp (.lst [r0])) := s3.upd (s3.free nlp)
      have hlw2 : H2 lw = some (.lst ((wd g).map V.str)) := s2 _ _ upd_same
      have hlw : (upd H2 lp (.lst [r0])) lw = some (.lst ((wd g).map V.str)) := by
        rw [upd_ne (ne_of_none hlw2 nlp)]
        exact hlw2
      have hodd : ¬ V.int ((((wd g).map V.str).length : Int) % 2) = V.int 0 := fun z => by
        have := V.int.inj z
        rw [hwn] at this
        omega
      tm_at "go"
      refine ⟨_, _, _, rest.length, rfl, rg_odd (by rw [hwn]; omega) (by omega), ?_⟩
      refine for_it walk_rangeC (fun i σ H' => ∃ v vs, σ = [some (.str T), some (.ref lw), some (.str T0), some (.int SG), some (.ref lp), v, none, none, none, none] ∧ Same H H' ∧ H' lw = some (.lst ((wd g).map V.str)) ∧ H' lp = some (.lst vs) ∧ Ims K H' vs ((p0 :: rest.take i).map pD))
        ⟨_, _, rfl, s4, hlw, upd_same, .cons ((TK.new nlp).im im0) .nil⟩ (fun _ _ _ _ _ => trivial) ?_ ?_
      · rintro i v σ H3 H4 hi ⟨v0, vs, rfl, s5, hw5, hp5, im5⟩ ⟨rfl, rfl⟩
        obtain ⟨z, hz⟩ : ∃ z, rest[i]? = some z := ⟨rest[i], List.getElem?_eq_getElem hi⟩
        have hzo : POk z := hPO z (by rw [et]; exact List.mem_cons_of_mem _ (List.mem_of_getElem? hz))
        obtain ⟨w1, w2⟩ := wdl_at rest i z hz
        have a1 : atI ((wd g).map V.str) (1 + ((i : Nat) : Int) * 2) = some (V.str (pm z.2)) := at_of (j := 2 * i + 1) (by omega) (by
          rw [hwd, List.map_cons, List.getElem?_cons_succ, List.getElem?_map, w1]
          rfl)
        have a2 : atI ((wd g).map V.str) (1 + ((i : Nat) : Int) * 2 + 1) = some (V.str (tm z.1 z.2.natAbs)) := at_of (j := 2 * i + 1 + 1) (by omega) (by
          rw [hwd, List.map_cons, List.getElem?_cons_succ, List.getElem?_map, w2]
          rfl)
        have hvl := im5.length
        have hvl2 : vs.length ≤ 51 := by
          rw [hvl, List.length_map, List.length_cons, List.length_take]
          omega
        have hnmz : z.1 = Str.empty ∨ (NameOk z.1 ∧ 1 ≤ z.2.natAbs) := hzo.1.imp id fun x => ⟨x.1, by omega⟩
        have hin := pm_in z.2
        have hpl := pm_plus z.2
        tm_at "go"
        refine ⟨_, _, _, _, rfl, rfl, SqL.of hw5, a1, ?_⟩
        tm_at "go"
        refine fun t nt => ⟨t, _, rfl, .inr (SqT.of upd_same), rfl, rfl, ?_⟩
        have s6 : Same H4 (upd H4 t (.tup [V.str (S "+"), V.str (S "-")])) := same_new nt
        have hw6 : (upd H4 t (.tup [V.str (S "+"), V.str (S "-")])) lw = some (.lst ((wd g).map V.str)) := s6 _ _ hw5
        have hp6 : (upd H4 t (.tup [V.str (S "+"), V.str (S "-")])) lp = some (.lst vs) := s6 _ _ hp5
        refine ⟨_, rfl, ?_⟩
        show if (!inV (V.str (pm z.2)) [V.str (S "+"), V.str (S "-")]) = true then _ else _
        rw [hin]
        refine iteF ?_
        refine ⟨_, rfl, .inl ⟨rfl, _, SqL.of hp6⟩, ?_⟩
        refine ⟨_, rfl, _, rfl, _, _, rfl, rfl, _, _, _, _, rfl, rfl, SqL.of hw6, a2, ?_⟩
        refine ⟨_, rfl, _, rfl, _, _, _, _, rfl, rfl, SqL.of hw6, a1, ?_⟩
        refine ⟨rfl, _, rfl, ?_⟩
        show if decide (V.str (pm z.2) = V.str (S "+")) = true then _ else _
        rw [hpl]
        have fin : ∀ sgz : Int, sgz * ((z.2.natAbs : Nat) : Int) = z.2 → ∀ (r : V) (H' : Hp), Same (upd H4 t (.tup [V.str (S "+"), V.str (S "-")])) H' → Im K H' r (pD (z.1, sgz * ((z.2.natAbs : Nat) : Int))) →
            ∃ l xs y, V.ref lp = .ref l ∧ [r] = [y] ∧ H' l = some (.lst xs) ∧ xs.length < sizeLine ∧
              ∃ v vs', [some (V.str T), some (.ref lw), some (.str T0), some (.int SG), some (.ref lp), some (.int (1 + ((i : Nat) : Int) * 2)), none, none, none, none] = [some (.str T), some (.ref lw), some (.str T0), some (.int SG), some (.ref lp), v, none, none, none, none] ∧
                Same H (upd H' l (.lst (xs ++ [y]))) ∧ (upd H' l (.lst (xs ++ [y]))) lw = some (.lst ((wd g).map V.str)) ∧ (upd H' l (.lst (xs ++ [y]))) lp = some (.lst vs') ∧ Ims K (upd H' l (.lst (xs ++ [y]))) vs' ((p0 :: rest.take (i + 1)).map pD) := fun sgz e r H' sr imr => by
          rw [e] at imr
          have hp7 : H' lp = some (.lst vs) := sr _ _ hp6
          have nlwp : lw ≠ lp := ne_of_none hlw2 nlp
          refine ⟨lp, vs, r, rfl, rfl, hp7, small1000 (by omega), _, vs ++ [r], rfl, ?_, ?_, upd_same, ?_⟩
          · exact ((s5.trans s6).trans sr).upd (s3.free nlp)
          · rw [upd_ne nlwp]
            exact sr _ _ hw6
          · rw [take_snoc hz, List.map_cons, List.map_append]
            exact (TK.lst hp7).ims (Ims.snoc (sr.tk.ims (s6.tk.ims im5)) imr)
        by_cases hneg : z.2 < 0
        · rw [decide_eq_true hneg]
          tm_at "go"
          refine ⟨z.1, z.2.natAbs, -1, rfl, hnmz, hzo.2, .inr rfl, fun r H' sr imr => ?_⟩
          exact fin (-1) (by omega) r H' sr imr
        · rw [decide_eq_false hneg]
          tm_at "go"
          refine ⟨z.1, z.2.natAbs, 1, rfl, hnmz, hzo.2, .inl rfl, fun r H' sr imr => ?_⟩
          exact fin 1 (by omega) r H' sr imr
      · rintro σ H3 ⟨v0, vs, rfl, s5, hw5, hp5, im5⟩
        rw [List.take_of_length_le (Nat.le_refl _), ← et] at im5
        tm_at "go"
        have hvl := im5.length
        rw [List.length_map] at hvl
        refine ⟨⟨_, SqL.of hp5⟩, fun D nD => ?_⟩
        refine lc_it walk_list (fun i H' => Same H3 H' ∧ H' D = some (.lst (((((terms g).take i).filter fun p => decide (p.1 = Str.empty)).map (·.2)).map V.int))) ⟨same_new nD, upd_same⟩ (fun i H' _ ⟨s, _⟩ => SqL.of (s _ _ hp5)) ?_ ?_
        · rintro i v Hx Hy hlt ⟨sx, hDx⟩ ⟨rfl, hv⟩
          obtain ⟨p, hp, hpi⟩ := ims_at im5 hv
          obtain ⟨t, rfl, ht⟩ := pD_inv (sx.tk.im hpi)
          have hbl : (((((terms g).take i).filter fun p => decide (p.1 = Str.empty)).map (·.2)).map V.int).length < sizeLine := by
            rw [List.length_map, List.length_map]
            have h1 := List.length_filter_le (fun p : Str × Int => decide (p.1 = Str.empty)) ((terms g).take i)
            rw [List.length_take] at h1
            exact small1000 (by omega)
          refine ⟨t, _, rfl, ht, rfl, _, _, rfl, _, _, rfl, rfl, rfl, ?_⟩
          tm_at "go"
          refine ite2 (fun c => ?_) (fun c => ?_)
          · have c1 : p.1 = Str.empty := V.str.inj (of_decide_eq_true (show decide (V.str p.1 = V.str Str.empty) = true from c))
            tm_at "go"
            refine ⟨_, hDx, hbl, sx.upd nD, ?_⟩
            · rw [upd_same, take_snoc hp, List.filter_append, List.map_append, List.map_append]
              have : [p].filter (fun p => decide (p.1 = Str.empty)) = [p] := List.filter_cons_of_pos (decide_eq_true c1)
              rw [this]
              rfl
          · have c1 : ¬ p.1 = Str.empty := fun z => c (decide_eq_true (congrArg V.str z))
            refine ⟨sx, ?_⟩
            rw [hDx, take_snoc hp, List.filter_append]
            have : [p].filter (fun p => decide (p.1 = Str.empty)) = [] := List.filter_cons_of_neg (by rw [decide_eq_false c1]; exact Bool.false_ne_true)
            rw [this, List.append_nil]
        · rintro H4 ⟨s6, hD⟩
          rw [hvl, List.take_of_length_le (Nat.le_refl _)] at hD
          have hp6 : H4 lp = some (.lst vs) := s6 _ _ hp5
          refine ⟨D, _, rfl, SqL.of hD, ?_⟩
          rw [hcs]
          refine ⟨_, rfl, lp, rfl, ⟨_, SqL.of hp6⟩, fun D2 nD2 => ?_⟩
          refine lc_it walk_list (fun i H' => Same H4 H' ∧ ∃ ws, H' D2 = some (.lst ws) ∧ ws.length ≤ i ∧ Ims K H' ws ((((terms g).take i).filter fun p => !decide (p.1 = Str.empty)).map pD)) ⟨same_new nD2, [], upd_same, Nat.le_refl _, .nil⟩ (fun i H' _ ⟨s, _⟩ => SqL.of (s _ _ hp6)) ?_ ?_
          · rintro i v Hx Hy hlt ⟨sx, ws, hDx, hwl2, imx⟩ ⟨rfl, hv⟩
            obtain ⟨p, hp, hpi⟩ := ims_at im5 hv
            obtain ⟨t, rfl, ht⟩ := pD_inv (sx.tk.im (s6.tk.im hpi))
            refine ⟨rfl, ?_⟩
            refine ⟨_, rfl, _, _, _, _, rfl, rfl, ht, atI_nat (j := 0) rfl, ?_⟩
            refine ⟨rfl, _, rfl, ?_⟩
            show if (!decide (V.str p.1 = V.str Str.empty)) = true then _ else _
            by_cases c1 : p.1 = Str.empty
            · rw [decide_eq_true (congrArg V.str c1)]
              refine iteF ⟨sx, ws, hDx, by omega, ?_⟩
              rw [take_snoc hp, List.filter_append]
              have : [p].filter (fun p => !decide (p.1 = Str.empty)) = [] := List.filter_cons_of_neg (by rw [decide_eq_true c1]; exact Bool.false_ne_true)
              rw [this, List.append_nil]
              exact imx
            · rw [decide_eq_false (fun z => c1 (V.str.inj z))]
              refine iteT ?_
              refine ⟨_, rfl, ws, hDx, small1000 (by omega), sx.upd nD2, _, upd_same, ?_, ?_⟩
              · rw [List.length_append]
                show ws.length + 1 ≤ i + 1
                omega
              · rw [take_snoc hp, List.filter_append, List.map_append]
                have : [p].filter (fun p => !decide (p.1 = Str.empty)) = [p] := List.filter_cons_of_pos (by rw [decide_eq_false c1]; rfl)
                rw [this]
                exact (TK.lst hDx).ims (Ims.snoc imx (pD_of ht))
          · rintro H5 ⟨s7, ws, hD2, hwl2, imx⟩
            rw [hvl, List.take_of_length_le (Nat.le_refl _), hnk] at imx
            have hg2 := hg.len
            have hgs := hg.srt
            refine ⟨g.1, D2, ws, g.2, rfl, SqL.of hD2, imx, by omega, fun r H6 ys py sy s8 imr => ?_⟩
            rw [tms_self hg py sy] at imr
            have s9 : Same H H6 := ((s5.trans s6).trans s7).trans s8
            tm_at "go"
            refine fun H7 s10 => ?_
            have hne : V.str (wr g) = V.str T := congrArg V.str hTT
            refine ⟨_, rfl, rfl, _, rfl, ?_⟩
            refine decN_false hne ?_
            tm_at "go"
            exact q _ _ (s9.trans s10) (s10.tk.im imr)
end
end C
set_option Elab.async false
set_option linter.all false
set_option pp.maxSteps 1500
set_option maxRecDepth 100000
set_option maxHeartbeats 4000000
namespace C
open PySem PySem.Spec PyProof.Rows L2 Kx M TL
local macro_rules | `(tactic| tm_at "same") => `(tactic| first
  | assumption
  | exact L2.Same.refl _
  | exact L2.Same.upd (by tm_at "same") (by tm_at "free")
  | exact sameTransR (by assumption) (by tm_at "same"))
local macro_rules | `(tactic| tm_at "free") => `(tactic| first
  | assumption
  | exact sameFreeR (by assumption) (by tm_at "same"))
local macro_rules | `(tactic| tm_at "but") => `(tactic| first
  | assumption
  | exact But.refl _ _
  | exact But.transR (by assumption) (by tm_at "but")
  | exact But.upd
  | exact But.self (by tm_at "but")
  | exact But.new1 (by tm_at "but") (by assumption)
  | exact But.new (by tm_at "but") (by tm_at "free")
  | exact L2.Same.but (by assumption) _)
local macro_rules | `(tactic| tm_at "fact") => `(tactic| first
  | exact upd_same
  | assumption
  | exact SqL.of upd_same
  | exact SqT.of upd_same
  | exact SqL.of (by assumption)
  | exact SqT.of (by assumption)
  | exact But.lstR (by assumption) (by assumption) (by tm_at "but"))
local macro_rules | `(tactic| tm_at "cond") => `(tactic| first
  | rfl
  | assumption
  | decide
  | omega
  | exact ⟨by decide, by decide⟩
  | exact .inr ⟨by decide, by decide⟩
  | exact .inl ⟨by decide, by decide⟩
  | exact ⟨by decide, by decide, by decide⟩
  | exact cdivw (by assumption) (by assumption)
  | exact log2_ok (by assumption)
  | exact Or.inl ⟨rfl, _, SqL.of upd_same⟩
  | exact Or.inl ⟨rfl, _, SqL.of (by assumption)⟩
  | exact ⟨_, rfl⟩
  | exact Nat.le_of_ble_eq_true rfl
  | exact small1000 (by omega))
local macro_rules | `(tactic| tm_at "prop") => `(tactic| first
  | assumption
  | omega)
local macro_rules | `(tactic| tm_at "s") => `(tactic| first
  | refine ⟨_, rfl, ?_⟩
  | refine ⟨_, _, rfl, rfl, ?_⟩
  | refine ⟨_, _, _, rfl, rfl, (by tm_at "fact"), (by tm_at "cond"), ?_⟩
  | refine ⟨_, _, _, _, rfl, rfl, (by tm_at "fact"), rfl, ?_⟩
  | refine ⟨_, _, rfl, (by tm_at "fact"), ?_⟩
  | refine And.intro (by tm_at "cond") ?_
  | refine .inl ⟨_, rfl, ?_⟩
  | refine ⟨_, _, rfl, .inl (by tm_at "fact"), ?_⟩
  | refine dec_false (by tm_at "prop") ?_
  | refine dec_true (by tm_at "prop") ?_
  | refine decN_false (by tm_at "prop") ?_
  | refine decN_true (by tm_at "prop") ?_
  | refine iteT ?_
  | refine iteF ?_
  | refine ⟨_, _, rfl, ?_⟩)
local macro_rules | `(tactic| tm_at "go") => `(tactic| repeat tm_at "s")

section
variable {P : Program} {w : World} {K : PySem.W.Frag} {mg : Str → Option Value} {base : Heap} {aH aR : Addr}
/-! ### _law_is_int, _law_same -/
theorem SqT.ty {K : PySem.W.Frag} {H : Hp} {a : Addr} {xs : List V} (h : SqT K H a xs) : TyX K H (.ref a) (.type "tuple") := by
  rcases h with (h | ⟨o, h⟩) | ⟨o, its, n, h, c, _⟩
  · exact .base (.tup h)
  · exact .fTuple h
  · exact .kTuple h c
theorem kT (a b : String) (r : Bool) (h : kitB a b = some r) : PySem.W.kitOne K (.type a) (.type b) = some r := kit_ty h
def spIsInt : Sp := fun vs H Q _ => ∃ i : Int, vs = [.int i] ∧ ∀ H', Same H H' → Q (.bl true) H'
theorem sc__law_is_int : FnScope ["x"] ["x"] (defScope s__law_is_int) := ⟨rfl, rfl, rfl, by decide +kernel, rfl, by decide +kernel, by decide +kernel⟩
theorem ok__law_is_int {k : Nat} (D : Def K mg "_law_is_int" "_law_is_int" s__law_is_int ["x"]) (B : Bi mg) : Cal P w K mg base CX0 (k + 1) "_law_is_int" ["x"] spIsInt := by
  refine D.cal fun f fd F => F.ok sc__law_is_int (fun vs H Q E h => ?_) (fun cdv A outer s H vs Q E hr h => ?_)
  · obtain ⟨i, rfl, _⟩ := h
    rfl
  · obtain ⟨i, rfl, q⟩ := h
    refine ⟨_, (pss_one (ps_ret (pe_and (pe_callB call_isi (by rfl) B.isinstance (by decide +kernel) (pa_cons (pv 0) (pa_cons (pe_bltn (v := .ty "int") (by rfl) B.int (by decide +kernel) rfl) pa_nil))) (pe_one (pe_not (pe_callB call_isi (by rfl) B.isinstance (by decide +kernel) (pa_cons (pv 0) (pa_cons (pe_bltn (v := .ty "bool") (by rfl) B.bool (by decide +kernel) rfl) pa_nil)))))))), ?_⟩
    refine ⟨_, rfl, ⟨_, _, _, _, true, rfl, .ty _, .base (.int i), kT "int" "int" true (by decide +kernel), _, rfl, ?_⟩⟩
    refine iteT ?_
    refine ⟨_, rfl, ⟨_, _, _, _, false, rfl, .ty _, .base (.int i), kT "int" "bool" false (by decide +kernel), _, rfl, ?_⟩⟩
    exact q _ (Same.refl _)
mutual
/-- ints, texts and tuples of such -/
def sok : PyData → Bool
  | .int _ => true
  | .str _ => true
  | .tuple ds => soks ds
  | _ => false
def soks : List PyData → Bool
  | [] => true
  | d :: ds => sok d && soks ds
end
theorem soks_get : ∀ {ds : List PyData} {i : Nat} {d : PyData}, soks ds = true → ds[i]? = some d → sok d = true
  | [], _, _, _, e => by simp at e
  | d :: ds, 0, _, h, e => by
    cases e
    unfold soks at h
    rw [Bool.and_eq_true] at h
    exact h.1
  | d :: ds, i + 1, _, h, e => by
    unfold soks at h
    rw [Bool.and_eq_true] at h
    exact soks_get h.2 (i := i) e
theorem depth_get : ∀ {ds : List PyData} {i : Nat} {d : PyData}, ds[i]? = some d → d.depth ≤ PyData.depthAll ds
  | [], _, _, e => by simp at e
  | d :: ds, 0, _, e => by
    cases e
    unfold PyData.depthAll
    exact Nat.le_max_left _ _
  | d :: ds, i + 1, _, e => by
    have := depth_get (ds := ds) (i := i) e
    unfold PyData.depthAll
    exact Nat.le_trans this (Nat.le_max_right _ _)
mutual
/-- no tuple has a thousand items -/
def few : PyData → Bool
  | .tuple ds => decide (ds.length < 1000) && fews ds
  | _ => true
def fews : List PyData → Bool
  | [] => true
  | d :: ds => few d && fews ds
end
theorem fews_get : ∀ {ds : List PyData} {i : Nat} {d : PyData}, fews ds = true → ds[i]? = some d → few d = true
  | [], _, _, _, e => by simp at e
  | d :: ds, 0, _, h, e => by
    cases e
    unfold fews at h
    rw [Bool.and_eq_true] at h
    exact h.1
  | d :: ds, i + 1, _, h, e => by
    unfold fews at h
    rw [Bool.and_eq_true] at h
    exact fews_get h.2 (i := i) e
def spSame (K : PySem.W.Frag) (n : Nat) : Sp := fun vs H Q _ => ∃ (x y : V) (d : PyData), vs = [x, y] ∧ Im K H x d ∧ Im K H y d ∧ sok d = true ∧ few d = true ∧ d.depth ≤ n ∧ ∀ H', Same H H' → Q (.bl true) H'
theorem all_rep : ∀ n : Nat, (List.replicate n true).all id = true
  | 0 => rfl
  | n + 1 => by
    rw [List.replicate_succ, List.all_cons, all_rep n]
    rfl
theorem sc__law_same : FnScope ["x", "y", "k"] ["x", "y"] (defScope s__law_same) := ⟨rfl, rfl, rfl, by decide +kernel, rfl, by decide +kernel, by decide +kernel⟩
theorem same_step {n k : Nat} (D : Def K mg "_law_same" "_law_same" s__law_same ["x", "y"]) (B : Bi mg) (c__law_is_int : Cal P w K mg base CX0 k "_law_is_int" ["x"] spIsInt) {spS : Sp} (c__law_same : Cal P w K mg base CX0 k "_law_same" ["x", "y"] spS)
    (hs : ∀ vs H Q E, n ≠ 0 → spSame K (n - 1) vs H Q E → spS vs H Q E) : Cal P w K mg base CX0 (k + 1) "_law_same" ["x", "y"] (spSame K n) := by
  refine D.cal fun f fd F => F.ok sc__law_same (fun vs H Q E h => ?_) (fun cdv A outer s H vs Q E hr h => ?_)
  · obtain ⟨x, y, d, rfl, _⟩ := h
    rfl
  · obtain ⟨x, y, d, rfl, hx, hy, hk, hf, hd, q⟩ := h
    have nd := sc__law_same.nd
    refine ⟨_, (pss_cons (ps_if (pt_val (pe_callB call_isi (by rfl) B.isinstance (by decide +kernel) (pa_cons (pv 1) (pa_cons (pe_bltn (v := .ty "tuple") (by rfl) B.tuple (by decide +kernel) rfl) pa_nil))))
        (pss_cons (ps_if (PW.pt (pw_or (pt_not (pt_val (pe_callB call_isi (by rfl) B.isinstance (by decide +kernel) (pa_cons (pv 0) (pa_cons (pe_bltn (v := .ty "tuple") (by rfl) B.tuple (by decide +kernel) rfl) pa_nil))))) (pw_or1 (pt_cmpR op_ne (pe_callB call_len_seq (by rfl) B.len (by decide +kernel) (pa_cons (pv 0) pa_nil)) (pe_callB call_len_seq (by rfl) B.len (by decide +kernel) (pa_cons (pv 1) pa_nil)) (nomark _)))))
          (pss_one (ps_ret pe_bl))
          pss_nil)
        (pss_one (ps_ret (pe_callB (cr_all rfl) (by rfl) B.all (by decide +kernel) (pa_cons (pe_lc (own := [("k", 2)]) (by rfl) nd (pi_range1 (by rfl) B.range (pa_cons (pe_callB call_len_seq (by rfl) B.len (by decide +kernel) (pa_cons (pv 1) pa_nil)) pa_nil)) (blkOk_by (own := [("k", 2)]) (N := ["x", "y", "k"]) (sc := defScope s__law_same) (by decide +kernel)) (fun _ _ _ _ _ => (pg_name (i := 2) nd rfl (Or.inl rfl))) (fun _ _ _ _ _ => pts_nil) (fun _ _ _ _ _ => (pe_cal c__law_same (Room.mono hr (by omega)) (by rfl) (pa_cons (pe_ix (ix_tupK (K := K) rfl) (pv 0) (pv 2) (fun _ _ => rfl)) (pa_cons (pe_ix (ix_tupK (K := K) rfl) (pv 1) (pv 2) (fun _ _ => rfl)) pa_nil))))) pa_nil)))))
        pss_nil)
      (pss_cons (ps_if (pt_val (pe_callB call_isi (by rfl) B.isinstance (by decide +kernel) (pa_cons (pv 1) (pa_cons (pe_bltn (v := .ty "str") (by rfl) B.str (by decide +kernel) rfl) pa_nil))))
        (pss_one (ps_ret (pe_and (pe_callB call_isi (by rfl) B.isinstance (by decide +kernel) (pa_cons (pv 0) (pa_cons (pe_bltn (v := .ty "str") (by rfl) B.str (by decide +kernel) rfl) pa_nil))) (pe_one (pe_cmpR op_eq (pv 0) (pv 1) (nomark _))))))
        pss_nil)
      (pss_one (ps_ret (pe_and (pe_cal c__law_is_int (Room.mono hr (by omega)) (by rfl) (pa_cons (pv 0) pa_nil)) (pe_one (pe_cmpR op_eq (pv 0) (pv 1) (nomark _)))))))), ?_⟩
    cases d with
    | int i =>
      obtain rfl := Im.int_inv hx
      obtain rfl := Im.int_inv hy
      refine ⟨_, rfl, ⟨_, _, _, _, false, rfl, .ty _, .base (.int i), kT "int" "tuple" false (by decide +kernel), _, rfl, ?_⟩⟩
      refine iteF ?_
      refine ⟨_, rfl, ⟨_, _, _, _, false, rfl, .ty _, .base (.int i), kT "int" "str" false (by decide +kernel), _, rfl, ?_⟩⟩
      refine iteF ?_
      refine ⟨_, rfl, i, rfl, fun H1 s1 => ⟨_, rfl, ?_⟩⟩
      refine iteT ?_
      refine ⟨_, rfl, _, rfl, rfl, ?_⟩
      rw [decide_eq_true rfl]
      exact q _ s1
    | str i =>
      obtain rfl := Im.str_inv hx
      obtain rfl := Im.str_inv hy
      refine ⟨_, rfl, ⟨_, _, _, _, false, rfl, .ty _, .base (.str i), kT "str" "tuple" false (by decide +kernel), _, rfl, ?_⟩⟩
      refine iteF ?_
      refine ⟨_, rfl, ⟨_, _, _, _, true, rfl, .ty _, .base (.str i), kT "str" "str" true (by decide +kernel), _, rfl, ?_⟩⟩
      refine iteT ?_
      refine ⟨_, rfl, ⟨_, _, _, _, true, rfl, .ty _, .base (.str i), kT "str" "str" true (by decide +kernel), _, rfl, ?_⟩⟩
      refine iteT ?_
      refine ⟨_, rfl, _, rfl, rfl, ?_⟩
      rw [decide_eq_true rfl]
      exact q _ (Same.refl _)
    | tuple ds =>
      obtain ⟨a, xs, rfl, ha, hxs⟩ := Im.tup_inv hx
      obtain ⟨b, ys, rfl, hb, hys⟩ := Im.tup_inv hy
      have l1 := hxs.length
      have l2 := hys.length
      have hk : soks ds = true := hk
      have hf : (decide (ds.length < 1000) && fews ds) = true := hf
      rw [Bool.and_eq_true] at hf
      have hlen := of_decide_eq_true hf.1
      have hd : PyData.depthAll ds + 1 ≤ n := hd
      refine ⟨_, rfl, ⟨_, _, _, _, true, rfl, .ty _, SqT.ty hb, kT "tuple" "tuple" true (by decide +kernel), _, rfl, ?_⟩⟩
      refine iteT ?_
      refine ⟨_, rfl, ⟨_, _, _, _, true, rfl, .ty _, SqT.ty ha, kT "tuple" "tuple" true (by decide +kernel), _, rfl, ?_⟩⟩
      refine iteF ?_
      refine ⟨_, rfl, a, xs, rfl, .inr ha, _, rfl, b, ys, rfl, .inr hb, rfl, _, rfl, ?_⟩
      refine decN_false (show V.int (xs.length : Int) = V.int (ys.length : Int) by rw [l1, l2]) ?_
      refine ⟨_, rfl, b, ys, rfl, .inr hb, ?_⟩
      refine ⟨_, rfl, by omega, by omega, fun D nD => ?_⟩
      refine lc_it walk_range (fun i H' => Same H H' ∧ H' D = some (.lst ((List.replicate i true).map V.bl))) ⟨same_new nD, upd_same⟩ (fun _ _ _ _ => trivial) ?_ ?_
      · rintro i v Hx Hy hlt ⟨sx, hDx⟩ ⟨rfl, rfl⟩
        have hi : i < ds.length := by omega
        obtain ⟨u, hu, iu⟩ := hxs.get' (List.getElem?_eq_getElem hi)
        obtain ⟨z, hz, iz⟩ := hys.get' (List.getElem?_eq_getElem hi)
        refine ⟨rfl, ?_⟩
        refine ⟨_, rfl, _, rfl, _, _, _, u, rfl, rfl, sx.tk.tup ha, at_of (j := i) (by omega) hu, ?_⟩
        refine ⟨_, rfl, _, rfl, _, _, _, z, rfl, rfl, sx.tk.tup hb, at_of (j := i) (by omega) hz, ?_⟩
        refine hs _ _ _ _ (by omega) ⟨u, z, ds[i], rfl, sx.tk.im iu, sx.tk.im iz, soks_get hk (List.getElem?_eq_getElem hi), fews_get hf.2 (List.getElem?_eq_getElem hi), ?_, fun H1 s1 => ?_⟩
        · have := depth_get (List.getElem?_eq_getElem hi)
          omega
        · refine ⟨_, s1 _ _ hDx, ?_, (sx.trans s1).upd nD, ?_⟩
          · rw [List.length_map, List.length_replicate]
            exact small1000 (by omega)
          · rw [upd_same, List.replicate_succ', List.map_append]
            rfl
      · rintro H1 ⟨s1, hD⟩
        refine ⟨D, _, rfl, SqL.of hD, ?_⟩
        rw [all_rep]
        exact q _ s1
    | _ => cases hk
/-- at any depth -/
theorem ok__law_same {k : Nat} (D : Def K mg "_law_same" "_law_same" s__law_same ["x", "y"]) (B : Bi mg) (c__law_is_int : Cal P w K mg base CX0 k "_law_is_int" ["x"] spIsInt) : ∀ n, Cal P w K mg base CX0 (k + 1 + n) "_law_same" ["x", "y"] (spSame K n)
  | 0 => by
    have c : Cal P w K mg base CX0 k "_law_same" ["x", "y"] (fun _ _ _ _ => False) := by
      obtain ⟨f, fd, F, m, b⟩ := D.ex
      exact ⟨f, fd, ⟨fun _ _ _ _ h => h.elim, fun _ _ _ _ _ _ _ _ _ _ _ _ _ h => h.elim⟩, m, F.kp, b⟩
    exact same_step D B c__law_is_int c fun _ _ _ _ h _ => h rfl
  | n + 1 => by
    have ih := ok__law_same D B c__law_is_int n
    exact same_step (k := k + 1 + n) D B (c__law_is_int.mono (by omega)) ih fun _ _ _ _ _ h => h
end
end C
set_option Elab.async false
set_option linter.all false
set_option pp.maxSteps 1500
set_option maxRecDepth 100000
set_option maxHeartbeats 4000000
namespace C
open PySem PySem.Spec PyProof.Rows L2 Kx M TL
local macro_rules | `(tactic| tm_at "same") => `(tactic| first
  | assumption
  | exact L2.Same.refl _
  | exact L2.Same.upd (by tm_at "same") (by tm_at "free")
  | exact sameTransR (by assumption) (by tm_at "same"))
local macro_rules | `(tactic| tm_at "free") => `(tactic| first
  | assumption
  | exact sameFreeR (by assumption) (by tm_at "same"))
local macro_rules | `(tactic| tm_at "but") => `(tactic| first
  | assumption
  | exact But.refl _ _
  | exact But.transR (by assumption) (by tm_at "but")
  | exact But.upd
  | exact But.self (by tm_at "but")
  | exact But.new1 (by tm_at "but") (by assumption)
  | exact But.new (by tm_at "but") (by tm_at "free")
  | exact L2.Same.but (by assumption) _)
local macro_rules | `(tactic| tm_at "fact") => `(tactic| first
  | exact upd_same
  | assumption
  | exact SqL.of upd_same
  | exact SqT.of upd_same
  | exact SqL.of (by assumption)
  | exact SqT.of (by assumption)
  | exact But.lstR (by assumption) (by assumption) (by tm_at "but"))
local macro_rules | `(tactic| tm_at "cond") => `(tactic| first
  | rfl
  | assumption
  | decide
  | omega
  | exact ⟨by decide, by decide⟩
  | exact .inr ⟨by decide, by decide⟩
  | exact .inl ⟨by decide, by decide⟩
  | exact ⟨by decide, by decide, by decide⟩
  | exact cdivw (by assumption) (by assumption)
  | exact log2_ok (by assumption)
  | exact Or.inl ⟨rfl, _, SqL.of upd_same⟩
  | exact Or.inl ⟨rfl, _, SqL.of (by assumption)⟩
  | exact ⟨_, rfl⟩
  | exact Nat.le_of_ble_eq_true rfl
  | exact small1000 (by omega))
local macro_rules | `(tactic| tm_at "prop") => `(tactic| first
  | assumption
  | omega)
local macro_rules | `(tactic| tm_at "s") => `(tactic| first
  | refine ⟨_, rfl, ?_⟩
  | refine ⟨_, _, rfl, rfl, ?_⟩
  | refine ⟨_, _, _, rfl, rfl, (by tm_at "fact"), (by tm_at "cond"), ?_⟩
  | refine ⟨_, _, _, _, rfl, rfl, (by tm_at "fact"), rfl, ?_⟩
  | refine ⟨_, _, rfl, (by tm_at "fact"), ?_⟩
  | refine And.intro (by tm_at "cond") ?_
  | refine .inl ⟨_, rfl, ?_⟩
  | refine ⟨_, _, rfl, .inl (by tm_at "fact"), ?_⟩
  | refine dec_false (by tm_at "prop") ?_
  | refine dec_true (by tm_at "prop") ?_
  | refine decN_false (by tm_at "prop") ?_
  | refine decN_true (by tm_at "prop") ?_
  | refine iteT ?_
  | refine iteF ?_
  | refine ⟨_, _, rfl, ?_⟩)
local macro_rules | `(tactic| tm_at "go") => `(tactic| repeat tm_at "s")

section
variable {P : Program} {w : World} {K : PySem.W.Frag} {mg : Str → Option Value} {base : Heap} {aH aR : Addr}
/-! ### _law_form -/
theorem sc__law_form : FnScope ["constant", "pairs", "sums", "name", "number"] ["constant", "pairs"] (defScope s__law_form) := ⟨rfl, rfl, rfl, by decide +kernel, rfl, by decide +kernel, by decide +kernel⟩
theorem ok__law_form {k : Nat} (D : Def K mg "_law_form" "_law_form" s__law_form ["constant", "pairs"]) (B : Bi mg) : Cal P w K mg base CX0 (k + 1) "_law_form" ["constant", "pairs"] (spForm K) := by
  refine D.cal fun f fd F => F.ok sc__law_form (fun vs H Q E h => ?_) (fun cdv A outer s H vs Q E hr h => ?_)
  · obtain ⟨c, a, xs, ps, rfl, _⟩ := h
    rfl
  · obtain ⟨c, a, xs, ps, rfl, ha, hi, hl, q⟩ := h
    have nd := sc__law_form.nd
    have hlx := hi.length
    rw [List.length_map] at hlx
    refine ⟨_, (pss_cons (ps_set (i := 2) nd rfl (Or.inr rfl) pe_dnewK)
      (pss_cons (ps_for PassesOwn.never rfl (pi_list (pv 1)) (pg_tup rfl (pgs_cons (pg_name (i := 3) nd rfl (Or.inl rfl)) (pgs_cons (pg_name (i := 4) nd rfl (Or.inl rfl)) pgs_nil)))
        (pss_one (ps_dput (hu_of hr) (pv 2) (pv 3) (pe_op op_add (pe_dget2 (hu_of hr) (pv 2) (pv 3) pe_int ⟨rfl, rfl, rfl, rfl⟩) (pv 4)) rfl)))
      (pss_one (ps_ret (pe_tup (pa_cons (pv 0) (pa_cons (pe_callTy call_tuple_of (by rfl) B.tuple (by decide +kernel) (pa_cons (pe_lc (own := [("name", 3)]) (by rfl) nd (pi_list (pe_callB (call_sortedD rfl) (by rfl) B.sorted (by decide +kernel) (pa_cons (pv 2) pa_nil))) (blkOk_by (own := [("name", 3)]) (N := ["constant", "pairs", "sums", "name", "number"]) (sc := defScope s__law_form) (by decide +kernel)) (fun _ _ _ _ _ => (pg_name (i := 3) nd rfl (Or.inl rfl))) (fun _ _ _ _ _ => (pts_one (pt_cmpR op_ne (pe_dget (hu_of hr) (pv 2) (pv 3) (fun _ _ => rfl)) pe_int (nomark _)))) (fun _ _ _ _ _ => (pe_tup (pa_cons (pv 3) (pa_cons (pe_dget (hu_of hr) (pv 2) (pv 3) (fun _ _ => rfl)) pa_nil))))) pa_nil)) pa_nil))))))), ?_⟩
    tm_at "go"
    intro d nd0
    have s0 : Same H (upd H d (.dK [])) := by tm_at "same"
    refine ⟨_, rfl, a, rfl, ⟨_, s0.seq ha⟩, ?_⟩
    refine for_it walk_list (fun i σ H' => ∃ v1 v2, σ = [some (.int c), some (.ref a), some (.ref d), v1, v2] ∧ Same H H' ∧ H' d = some (.dK (kvP (totals (ps.take i))))) ⟨_, _, rfl, s0, upd_same⟩ (fun i σ H' _ ⟨_, _, _, s1, _⟩ => s1.seq ha) ?_ ?_
    · rintro i v σ H1 H2 hlt ⟨v1, v2, rfl, s1, hd⟩ ⟨rfl, hv⟩
      obtain ⟨p, hp, him⟩ := ims_at hi hv
      obtain ⟨t, rfl, ht⟩ := pD_inv (s1.tk.im him)
      have hlen : (kvP (totals (ps.take i))).length < sizeLine := by
        unfold kvP
        rw [List.length_map]
        have h1 := totals_len (ps.take i)
        rw [List.length_take] at h1
        exact small1000 (by omega)
      tm_at "go"
      refine ⟨.inl ⟨_, .inl hd⟩, ?_⟩
      tm_at "go"
      refine ⟨_, DGet.k (k := Sum.inr p.1) hd, ?_⟩
      rw [kv_val]
      tm_at "go"
      refine ⟨d, _, rfl, DPut.k (k := Sum.inr p.1) hd hlen, ?_⟩
      refine ⟨_, _, rfl, by tm_at "same", ?_⟩
      rw [upd_same, kv_put _ _ _ (totals_nodup _), take_snoc hp, totals_snoc]
    · rintro σ H1 ⟨v1, v2, rfl, s1, hd⟩
      rw [List.take_of_length_le (by omega)] at hd
      have hkl := totals_len ps
      tm_at "go"
      refine ⟨d, _, (totals ps).map (·.1), rfl, .inl hd, kvP_keys _, by rw [List.length_map]; omega, fun ys p pm so np => ?_⟩
      have s2 : Same H1 (upd H1 p (.lst (ys.map V.str))) := same_new np
      have hyl : ys.length < 64 := by
        rw [pm.length_eq, List.length_map]
        omega
      refine ⟨p, rfl, ⟨_, SqL.of upd_same⟩, fun D nD => ?_⟩
      refine lc_it walk_list (fun i H' => Same H1 H' ∧ H' p = some (.lst (ys.map V.str)) ∧ ∃ vs, H' D = some (.lst vs) ∧ vs.length ≤ i ∧ Ims K H' vs ((((ys.take i).map fun n => (n, look (totals ps) n)).filter nzp).map pD)) ?_ (fun i H' _ ⟨_, h, _⟩ => SqL.of h) ?_ ?_
      · have npD : p ≠ D := ne_of_none upd_same nD
        refine ⟨by tm_at "same", ?_, [], upd_same, Nat.le_refl _, ?_⟩
        · rw [upd_ne npD, upd_same]
        · rw [List.take_zero]
          exact .nil
      · rintro i v Hx Hy hlt ⟨sx, hp, vs, hDv, hlv, him⟩ ⟨rfl, hv⟩
        have npD : p ≠ D := ne_of_none upd_same nD
        obtain ⟨n, hn, rfl⟩ : ∃ n, ys[i]? = some n ∧ V.str n = v := by
          rw [List.getElem?_map] at hv
          cases e : ys[i]? with
          | none => rw [e] at hv; cases hv
          | some z => rw [e] at hv; exact ⟨z, rfl, Option.some.inj hv⟩
        have hmem : n ∈ (totals ps).map (·.1) := pm.subset (List.mem_of_getElem? hn)
        have hg := kv_has (totals ps) n hmem
        have hd2 : Hy d = some (.dK (kvP (totals ps))) := sx _ _ hd
        have dg : DGet Hy d (.str n) (some (.int (look (totals ps) n))) := by
          rw [← hg]
          exact DGet.k (k := Sum.inr n) hd2
        have hil : i < 64 := by
          rw [List.length_map] at hlt
          omega
        have cons : (((ys.take (i + 1)).map fun n => (n, look (totals ps) n)).filter nzp).map pD = (((ys.take i).map fun n => (n, look (totals ps) n)).filter nzp).map pD ++ (if look (totals ps) n = 0 then [] else [pD (n, look (totals ps) n)]) := by
          rw [take_snoc hn, List.map_append, List.filter_append, List.map_append]
          congr 1
          show List.map pD (List.filter nzp [(n, look (totals ps) n)]) = _
          by_cases z : look (totals ps) n = 0
          · rw [if_pos z, List.filter_cons_of_neg (by unfold nzp; rw [decide_eq_true z]; exact Bool.false_ne_true)]
            rfl
          · rw [if_neg z, List.filter_cons_of_pos (by unfold nzp; rw [decide_eq_false z]; rfl)]
            rfl
        rw [cons]
        tm_at "go"
        refine ite2 (fun c => ?_) (fun c => ?_)
        · have c1 : ¬ look (totals ps) n = 0 := fun z => by
            have := show (!decide (V.int (look (totals ps) n) = V.int 0)) = true from c
            rw [z] at this
            exact absurd this (by decide)
          rw [if_neg c1]
          tm_at "go"
          refine fun t nt => ⟨vs, ?_, small1000 (by omega), ?_, ?_, _, upd_same, ?_, ?_⟩
          · rw [upd_ne (ne_of_none hDv nt)]
            exact hDv
          · tm_at "same"
          · rw [upd_ne npD, upd_ne (ne_of_none hp nt)]
            exact hp
          · rw [List.length_append]
            show vs.length + 1 ≤ i + 1
            omega
          · refine Ims.snoc (TK.ims ?_ him) (pD_of (SqT.of ?_))
            · exact (TK.new nt).trans (TK.lst (xs := vs) (by rw [upd_ne (ne_of_none hDv nt)]; exact hDv))
            · rw [upd_ne (ne_of_none hDv nt).symm, upd_same]
        · have c1 : look (totals ps) n = 0 := by
            have := show ¬ (!decide (V.int (look (totals ps) n) = V.int 0)) = true from c
            by_cases z : look (totals ps) n = 0
            · exact z
            · rw [decide_eq_false (fun e => z (V.int.inj e))] at this
              exact absurd rfl this
          rw [if_pos c1, List.append_nil]
          exact ⟨sx, hp, vs, hDv, by omega, him⟩
      · rintro H5 ⟨sx, hp, vs, hDv, hlv, him⟩
        rw [List.length_map, List.take_of_length_le (Nat.le_refl _)] at him
        rw [List.length_map] at hlv
        refine ⟨D, vs, rfl, .inl ⟨SqL.of hDv, fun u nu => ?_⟩⟩
        tm_at "go"
        refine fun t nt => ?_
        refine q _ _ ys pm (sorted_pair so) (by tm_at "same") (fD_of (u := u) (xs := vs) (SqT.of upd_same) (SqT.of ?_) ?_)
        · rw [upd_ne (ne_of_none upd_same nt), upd_same]
        · exact (TK.new nt).ims ((TK.new nu).ims him)
end
end C
set_option Elab.async false
set_option linter.all false
set_option maxRecDepth 100000
set_option maxHeartbeats 4000000
namespace C
open PySem PySem.Spec PyProof.Rows L2 Kx
local macro_rules | `(tactic| tm_at "same") => `(tactic| first
  | assumption
  | exact L2.Same.refl _
  | exact L2.Same.upd (by tm_at "same") (by tm_at "free")
  | exact sameTransR (by assumption) (by tm_at "same"))
local macro_rules | `(tactic| tm_at "free") => `(tactic| first
  | assumption
  | exact sameFreeR (by assumption) (by tm_at "same"))
local macro_rules | `(tactic| tm_at "but") => `(tactic| first
  | assumption
  | exact But.refl _ _
  | exact But.transR (by assumption) (by tm_at "but")
  | exact But.upd
  | exact But.self (by tm_at "but")
  | exact But.new1 (by tm_at "but") (by assumption)
  | exact But.new (by tm_at "but") (by tm_at "free")
  | exact L2.Same.but (by assumption) _)
local macro_rules | `(tactic| tm_at "fact") => `(tactic| first
  | exact upd_same
  | assumption
  | exact SqL.of upd_same
  | exact SqT.of upd_same
  | exact SqL.of (by assumption)
  | exact SqT.of (by assumption)
  | exact But.lstR (by assumption) (by assumption) (by tm_at "but"))
local macro_rules | `(tactic| tm_at "cond") => `(tactic| first
  | rfl
  | assumption
  | decide
  | omega
  | exact ⟨by decide, by decide⟩
  | exact .inr ⟨by decide, by decide⟩
  | exact .inl ⟨by decide, by decide⟩
  | exact ⟨by decide, by decide, by decide⟩
  | exact cdivw (by assumption) (by assumption)
  | exact log2_ok (by assumption)
  | exact Or.inl ⟨rfl, _, SqL.of upd_same⟩
  | exact Or.inl ⟨rfl, _, SqL.of (by assumption)⟩
  | exact ⟨_, rfl⟩
  | exact Nat.le_of_ble_eq_true rfl
  | exact small1000 (by omega))
local macro_rules | `(tactic| tm_at "prop") => `(tactic| first
  | assumption
  | omega)
local macro_rules | `(tactic| tm_at "s") => `(tactic| first
  | refine ⟨_, rfl, ?_⟩
  | refine ⟨_, _, rfl, rfl, ?_⟩
  | refine ⟨_, _, _, rfl, rfl, (by tm_at "fact"), (by tm_at "cond"), ?_⟩
  | refine ⟨_, _, _, _, rfl, rfl, (by tm_at "fact"), rfl, ?_⟩
  | refine ⟨_, _, rfl, (by tm_at "fact"), ?_⟩
  | refine And.intro (by tm_at "cond") ?_
  | refine .inl ⟨_, rfl, ?_⟩
  | refine ⟨_, _, rfl, .inl (by tm_at "fact"), ?_⟩
  | refine dec_false (by tm_at "prop") ?_
  | refine dec_true (by tm_at "prop") ?_
  | refine decN_false (by tm_at "prop") ?_
  | refine decN_true (by tm_at "prop") ?_
  | refine iteT ?_
  | refine iteF ?_
  | refine ⟨_, _, rfl, ?_⟩)
local macro_rules | `(tactic| tm_at "go") => `(tactic| repeat tm_at "s")
section
variable {P : Program} {w : World} {K : PySem.W.Frag} {mg : Str → Option Value} {base : Heap}
theorem sc__law_draw : FnScope ["state", "most", "found", "cell", "mixed"] ["state", "most"] (defScope s__law_draw) := ⟨rfl, rfl, rfl, by decide +kernel, rfl, by decide +kernel, by decide +kernel⟩
theorem ok__law_draw {k : Nat} (D : Def K mg "_law_draw" "_law_draw" s__law_draw ["state", "most"]) (B : Bi mg) : Cal P w K mg base CX0 (k + 1) "_law_draw" ["state", "most"] (spDraw K) := by
  refine D.cal fun f fd F => F.ok sc__law_draw (fun vs H Q E h => ?_) (fun cdv A outer s H vs Q E hr h => ?_)
  · obtain ⟨st, l, m, rfl, _⟩ := h
    rfl
  · obtain ⟨st, l, m, rfl, ⟨i, j, k, ns, hst, hl, nl⟩, hm, hmb, q⟩ := h
    have nd := sc__law_draw.nd
    refine ⟨_, (pss_cons (ps_asg (pe_op op_add (pe_ix ix_list (pv 0) pe_int (fun _ _ => rfl)) pe_int) (pg_sub (pv 0) pe_int set_list))
      (pss_cons (ps_if (pt_cmpR op_gt (pe_ix ix_list (pv 0) pe_int (fun _ _ => rfl)) pe_int (nomark _))
        (pss_cons (ps_set (i := 2) nd rfl (Or.inl rfl) (pe_op op_mod (pe_callTy call_int1 (by rfl) B.int (by decide +kernel) (pa_cons (pe_ix ix_list (pv 0) pe_int (fun _ _ => rfl)) pa_nil)) (pv 1)))
        (pss_cons (ps_asg (pe_op op_fdivW (pe_ix ix_list (pv 0) pe_int (fun _ _ => rfl)) (pv 1)) (pg_sub (pv 0) pe_int set_list))
        (pss_one (ps_ret (pv 2)))))
        pss_nil)
      (pss_cons (ps_set (i := 3) nd rfl (Or.inl rfl) pe_int)
      (pss_cons (ps_if (pt_cmpR op_gt (pe_callB call_len_seq (by rfl) B.len (by decide +kernel) (pa_cons (pe_ix ix_list (pv 0) pe_int (fun _ _ => rfl)) pa_nil)) pe_int (nomark _))
        (pss_one (ps_set (i := 3) nd rfl (Or.inl rfl) (pe_callB call_abs (by rfl) B.abs (by decide +kernel) (pa_cons (pe_ix ix_list (pe_ix ix_list (pv 0) pe_int (fun _ _ => rfl)) (pe_op op_mod (pe_callTy call_int1 (by rfl) B.int (by decide +kernel) (pa_cons (pe_ix ix_list (pv 0) pe_int (fun _ _ => rfl)) pa_nil)) (pe_callB call_len_seq (by rfl) B.len (by decide +kernel) (pa_cons (pe_ix ix_list (pv 0) pe_int (fun _ _ => rfl)) pa_nil))) (fun _ _ => rfl)) pa_nil))))
        pss_nil)
      (pss_cons (ps_asg (pe_op op_add (pe_ix ix_list (pv 0) pe_int (fun _ _ => rfl)) pe_int) (pg_sub (pv 0) pe_int set_list))
      (pss_cons (ps_if (pt_cmpR op_ge (pv 3) (pe_op op_pow pe_int pe_int) (nomark _))
        (pss_cons (ps_asg (pe_op op_fdivW (pv 3) (pv 1)) (pg_sub (pv 0) pe_int set_list))
        (pss_one (ps_ret (pe_op op_mod (pe_callTy call_int1 (by rfl) B.int (by decide +kernel) (pa_cons (pv 3) pa_nil)) (pv 1)))))
        pss_nil)
      (pss_cons (ps_set (i := 4) nd rfl (Or.inl rfl) (pe_op op_mod (pe_callTy call_int1 (by rfl) B.int (by decide +kernel) (pa_cons (pe_op op_add (pe_op op_mul (pe_op op_add (pv 3) pe_int) pe_int) (pe_op op_mul (pe_ix ix_list (pv 0) pe_int (fun _ _ => rfl)) pe_int)) pa_nil)) pe_int))
      (pss_cons (ps_set (i := 4) nd rfl (Or.inl rfl) (pe_op op_mod (pe_callTy call_int1 (by rfl) B.int (by decide +kernel) (pa_cons (pe_op op_add (pe_op op_add (pe_op op_mul (pv 4) pe_int) (pe_op op_fdivW (pv 3) pe_int)) (pe_ix ix_list (pv 0) pe_int (fun _ _ => rfl))) pa_nil)) pe_int))
      (pss_one (ps_ret (pe_op op_mod (pe_op op_fdivW (pv 4) pe_int) (pv 1)))))))))))), ?_⟩
    tm_at "go"
    refine ite2 (fun c => ?_) (fun c => ?_)
    · tm_at "go"
      exact q _ _ (mod_lt hm).1 (mod_lt hm).2 (by tm_at "but") ⟨i, _, _, ns, upd_same, by tm_at "fact", nl⟩
    tm_at "go"
    refine ite2 (fun c => ?_) (fun c => ?_)
    · have c1 : 0 < ((ns.map V.int).length : Int) := of_decide_eq_true c
      obtain ⟨z, ez⟩ := at_mod i c1
      tm_at "go"
      refine ⟨_, _, _, _, rfl, rfl, by tm_at "fact", ez, ?_⟩
      tm_at "go"
      refine ite2 (fun c => ?_) (fun c => ?_)
      · tm_at "go"
        exact q _ _ (mod_lt hm).1 (mod_lt hm).2 (by tm_at "but") ⟨_, _, _, ns, upd_same, by tm_at "fact", nl⟩
      · tm_at "go"
        exact q _ _ (mod_lt hm).1 (mod_lt hm).2 (by tm_at "but") ⟨_, _, _, ns, upd_same, by tm_at "fact", nl⟩
    · tm_at "go"
      exact q _ _ (mod_lt hm).1 (mod_lt hm).2 (by tm_at "but") ⟨_, _, _, ns, upd_same, by tm_at "fact", nl⟩
end
end C
set_option Elab.async false
set_option linter.all false
set_option pp.maxSteps 1500
set_option maxRecDepth 100000
set_option maxHeartbeats 4000000
namespace C
open PySem PySem.Spec PyProof.Rows L2 Kx M TL
local macro_rules | `(tactic| tm_at "same") => `(tactic| first
  | assumption
  | exact L2.Same.refl _
  | exact L2.Same.upd (by tm_at "same") (by tm_at "free")
  | exact sameTransR (by assumption) (by tm_at "same"))
local macro_rules | `(tactic| tm_at "free") => `(tactic| first
  | assumption
  | exact sameFreeR (by assumption) (by tm_at "same"))
local macro_rules | `(tactic| tm_at "but") => `(tactic| first
  | assumption
  | exact But.refl _ _
  | exact But.transR (by assumption) (by tm_at "but")
  | exact But.upd
  | exact But.self (by tm_at "but")
  | exact But.new1 (by tm_at "but") (by assumption)
  | exact But.new (by tm_at "but") (by tm_at "free")
  | exact L2.Same.but (by assumption) _)
local macro_rules | `(tactic| tm_at "fact") => `(tactic| first
  | exact upd_same
  | assumption
  | exact SqL.of upd_same
  | exact SqT.of upd_same
  | exact SqL.of (by assumption)
  | exact SqT.of (by assumption)
  | exact But.lstR (by assumption) (by assumption) (by tm_at "but"))
local macro_rules | `(tactic| tm_at "cond") => `(tactic| first
  | rfl
  | assumption
  | decide
  | omega
  | exact ⟨by decide, by decide⟩
  | exact .inr ⟨by decide, by decide⟩
  | exact .inl ⟨by decide, by decide⟩
  | exact ⟨by decide, by decide, by decide⟩
  | exact cdivw (by assumption) (by assumption)
  | exact log2_ok (by assumption)
  | exact Or.inl ⟨rfl, _, SqL.of upd_same⟩
  | exact Or.inl ⟨rfl, _, SqL.of (by assumption)⟩
  | exact ⟨_, rfl⟩
  | exact Nat.le_of_ble_eq_true rfl
  | exact small1000 (by omega))
local macro_rules | `(tactic| tm_at "prop") => `(tactic| first
  | assumption
  | omega)
local macro_rules | `(tactic| tm_at "s") => `(tactic| first
  | refine ⟨_, rfl, ?_⟩
  | refine ⟨_, _, rfl, rfl, ?_⟩
  | refine ⟨_, _, _, rfl, rfl, (by tm_at "fact"), (by tm_at "cond"), ?_⟩
  | refine ⟨_, _, _, _, rfl, rfl, (by tm_at "fact"), rfl, ?_⟩
  | refine ⟨_, _, rfl, (by tm_at "fact"), ?_⟩
  | refine And.intro (by tm_at "cond") ?_
  | refine .inl ⟨_, rfl, ?_⟩
  | refine ⟨_, _, rfl, .inl (by tm_at "fact"), ?_⟩
  | refine dec_false (by tm_at "prop") ?_
  | refine dec_true (by tm_at "prop") ?_
  | refine decN_false (by tm_at "prop") ?_
  | refine decN_true (by tm_at "prop") ?_
  | refine iteT ?_
  | refine iteF ?_
  | refine ⟨_, _, rfl, ?_⟩)
local macro_rules | `(tactic| tm_at "go") => `(tactic| repeat tm_at "s")

section
variable {P : Program} {w : World} {K : PySem.W.Frag} {mg : Str → Option Value} {base : Heap} {aH aR : Addr}
/-! ### drawing -/
theorem _root_.Kx.StOk.but_strs {H H' : Hp} {st l a : Addr} {ss : List Str} (o : StOk K H st l) (b : But st H H') (h : SqL K H a (ss.map V.str)) : SqL K H' a (ss.map V.str) := by
  obtain ⟨i, j, k, ns, hst, _⟩ := o
  have ne : ∀ xs, xs = ss.map V.str → xs ≠ [V.ref l, V.int i, V.int j, V.int k] := fun xs e z => by
    subst e
    cases ss with
    | nil => cases z
    | cons x r => cases z
  rcases h with (h | ⟨o, h⟩) | h
  · refine .inl (.inl (b _ _ (fun e => ?_) h))
    subst e
    rw [hst] at h
    injection h with h
    injection h with h
    exact ne _ rfl h.symm
  · refine .inl (.inr ⟨o, b _ _ (fun e => ?_) h⟩)
    subst e
    rw [hst] at h
    cases h
  · exact .inr h
theorem _root_.Kx.StOk.tk {H H' : Hp} {st l : Addr} (o : StOk K H st l) (b : But st H H') : TK H H' := by
  obtain ⟨i, j, k, ns, hst, _⟩ := o
  exact b.tk hst
theorem _root_.Kx.StOk.same {H H' : Hp} {st l : Addr} (o : StOk K H st l) (s : Same H H') : StOk K H' st l := by
  obtain ⟨i, j, k, ns, hst, hl, nl⟩ := o
  exact ⟨i, j, k, ns, s _ _ hst, s.seq hl, nl⟩
/-- a new object beside the state -/
theorem _root_.Kx.StOk.new {H : Hp} {st l p : Addr} {x : HO} (o : StOk K H st l) (h : H p = none) : StOk K (upd H p x) st l := o.same (same_new h)
theorem _root_.Kx.StOk.ne {H : Hp} {st l p : Addr} (o : StOk K H st l) (h : H p = none) : st ≠ p := by
  obtain ⟨i, j, k, ns, hst, hl, nl⟩ := o
  exact ne_of_none hst h
/-- an object that was not there at first changes -/
theorem _root_.Kx.StOk.grow {H0 H : Hp} {st l p : Addr} {x : HO} (o0 : StOk K H0 st l) (h : H0 p = none) (o : StOk K H st l) : StOk K (upd H p x) st l := by
  have n1 := o0.ne h
  obtain ⟨i, j, k, ns, hst, hl, nl⟩ := o
  obtain ⟨i0, j0, k0, ns0, hst0, hl0, nl0⟩ := o0
  by_cases e : l = p
  · subst e
    rcases hl0 with (z | ⟨o, z⟩) | ⟨o, its, n, z, z2⟩
    · rw [h] at z
      cases z
    · rw [h] at z
      cases z
    · exact ⟨i, j, k, ns0, by rw [upd_ne n1]; exact hst, .inr ⟨o, its, n, z, z2⟩, nl⟩
  · exact ⟨i, j, k, ns, by rw [upd_ne n1]; exact hst, (But.upd (a := p)).lst e hl, nl⟩
/-! ### _law_start -/
def spStart (K : PySem.W.Frag) : Sp := fun vs H Q _ => ∃ (a : Addr) (ns : List Int), vs = [.ref a] ∧ SqL K H a (ns.map V.int) ∧ ∀ st l H', Same H H' → H st = none → StOk K H' st l → Q (.ref st) H'
theorem sc__law_start : FnScope ["script"] ["script"] (defScope s__law_start) := ⟨rfl, rfl, rfl, by decide +kernel, rfl, by decide +kernel, by decide +kernel⟩
theorem ok__law_start {k : Nat} (D : Def K mg "_law_start" "_law_start" s__law_start ["script"]) (B : Bi mg) : Cal P w K mg base CX0 (k + 1) "_law_start" ["script"] (spStart K) := by
  refine D.cal fun f fd F => F.ok sc__law_start (fun vs H Q E h => ?_) (fun cdv A outer s H vs Q E hr h => ?_)
  · obtain ⟨a, ns, rfl, _⟩ := h
    rfl
  · obtain ⟨a, ns, rfl, ha, q⟩ := h
    have nd := sc__law_start.nd
    refine ⟨_, (pss_one (ps_ret (pe_lst (pa_cons (pe_callTy call_list_of (by rfl) B.list (by decide +kernel) (pa_cons (pv 0) pa_nil)) (pa_cons pe_int (pa_cons pe_int (pa_cons pe_int pa_nil))))))), ?_⟩
    tm_at "go"
    refine fun l nl => ?_
    tm_at "go"
    refine fun st nst => ?_
    have nls : l ≠ st := ne_of_none upd_same nst
    refine q st l _ (by tm_at "same") (by tm_at "free") ⟨0, 0, 0, ns, upd_same, SqL.of ?_, nls⟩
    rw [upd_ne nls, upd_same]
/-! ### _law_one_of -/
def spOneOf (K : PySem.W.Frag) : Sp := fun vs H Q _ => ∃ (st l a : Addr) (ss : List Str), vs = [.ref st, .ref a] ∧ StOk K H st l ∧ SqL K H a (ss.map V.str) ∧ 0 < ss.length ∧ ss.length ≤ 1000 ∧ ∀ z H', z ∈ ss → But st H H' → StOk K H' st l → Q (.str z) H'
theorem pow30 {n : Nat} (h : n ≤ 1000) : (n : Int) ≤ 10 ^ 30 := by
  have e : (10 : Int) ^ 30 = 1000000000000000000000000000000 := by decide
  rw [e]
  omega
theorem sc__law_one_of : FnScope ["state", "items"] ["state", "items"] (defScope s__law_one_of) := ⟨rfl, rfl, rfl, by decide +kernel, rfl, by decide +kernel, by decide +kernel⟩
theorem ok__law_one_of {k : Nat} (D : Def K mg "_law_one_of" "_law_one_of" s__law_one_of ["state", "items"]) (B : Bi mg) (c__law_draw : Cal P w K mg base CX0 k "_law_draw" ["state", "most"] (spDraw K)) : Cal P w K mg base CX0 (k + 1) "_law_one_of" ["state", "items"] (spOneOf K) := by
  refine D.cal fun f fd F => F.ok sc__law_one_of (fun vs H Q E h => ?_) (fun cdv A outer s H vs Q E hr h => ?_)
  · obtain ⟨a, b, c, ss, rfl, _⟩ := h
    rfl
  · obtain ⟨st, l, a, ss, rfl, so, ha, h0, h1, q⟩ := h
    have nd := sc__law_one_of.nd
    refine ⟨_, (pss_one (ps_ret (pe_ix ix_list (pv 1) (pe_cal c__law_draw (Room.mono hr (by omega)) (by rfl) (pa_cons (pv 0) (pa_cons (pe_callB call_len_seq (by rfl) B.len (by decide +kernel) (pa_cons (pv 1) pa_nil)) pa_nil))) (fun _ _ => rfl)))), ?_⟩
    tm_at "go"
    refine ⟨st, l, _, rfl, so, ?_, ?_, fun r H1 r0 r1 b1 so1 => ?_⟩
    · rw [List.length_map]
      omega
    · rw [List.length_map]
      exact pow30 h1
    · rw [List.length_map] at r1
      obtain ⟨j, rfl⟩ : ∃ j : Nat, r = (j : Int) := ⟨r.toNat, by omega⟩
      have hj : j < ss.length := by omega
      have hg : (ss.map V.str)[j]? = some (V.str ss[j]) := by
        rw [List.getElem?_map, List.getElem?_eq_getElem hj]
        rfl
      refine ⟨_, _, _, _, rfl, rfl, so.but_strs b1 ha, at_of rfl hg, ?_⟩
      exact q _ _ (List.getElem_mem hj) b1 so1
/-! ### _law_text_of -/
def spTextOf (K : PySem.W.Frag) : Sp := fun vs H Q _ => ∃ (st l : Addr) (sg : Str) (n : Nat), vs = [.ref st, .str sg, .int (n : Int)] ∧ StOk K H st l ∧ 0 < sg.length ∧ sg.length ≤ 1000 ∧ n ≤ 100 ∧
  ∀ z H', z.length = n → (∀ c ∈ tl z, c ∈ tl sg) → But st H H' → StOk K H' st l → Q (.str z) H'
theorem joinL_nil : ∀ l : List (List Nat), joinL [] l = l.flatten
  | [] => rfl
  | [p] => by
    show p = [p].flatten
    simp
  | p :: q :: r => by
    show p ++ ([] ++ joinL [] (q :: r)) = _
    rw [joinL_nil (q :: r)]
    rfl
theorem tl_join_empty (l : List Nat) : tl (Txt.join (S "") (l.map fun c => (⟨#[c]⟩ : Str))) = l := by
  rw [join_eq, tl_join, show tl (S "") = [] by decide +kernel, joinL_nil, List.map_map]
  induction l with
  | nil => rfl
  | cons c r ih =>
    rw [List.map_cons, List.flatten_cons, ih]
    rfl
theorem sc__law_text_of : FnScope ["state", "signs", "many", "k"] ["state", "signs", "many"] (defScope s__law_text_of) := ⟨rfl, rfl, rfl, by decide +kernel, rfl, by decide +kernel, by decide +kernel⟩
theorem ok__law_text_of {k : Nat} (D : Def K mg "_law_text_of" "_law_text_of" s__law_text_of ["state", "signs", "many"]) (B : Bi mg) (c__law_draw : Cal P w K mg base CX0 k "_law_draw" ["state", "most"] (spDraw K)) : Cal P w K mg base CX0 (k + 1) "_law_text_of" ["state", "signs", "many"] (spTextOf K) := by
  refine D.cal fun f fd F => F.ok sc__law_text_of (fun vs H Q E h => ?_) (fun cdv A outer s H vs Q E hr h => ?_)
  · obtain ⟨a, b, c, ss, rfl, _⟩ := h
    rfl
  · obtain ⟨st, sl, sg, n, rfl, so, h0, h1, hn, q⟩ := h
    have nd := sc__law_text_of.nd
    have hbig : (1000 : Nat) ≤ sizeLine := by decide
    refine ⟨_, (pss_one (ps_ret (pe_join pe_str (pe_lc (own := [("k", 3)]) (by rfl) nd (pi_range1 (by rfl) B.range (pa_cons (pv 2) pa_nil)) (blkOk_by (own := [("k", 3)]) (N := ["state", "signs", "many", "k"]) (sc := defScope s__law_text_of) (by decide +kernel)) (fun _ _ _ _ _ => (pg_name (i := 3) nd rfl (Or.inl rfl))) (fun _ _ _ _ _ => pts_nil) (fun _ _ _ _ _ => (pe_ix ix_str (pv 1) (pe_cal c__law_draw (Room.mono hr (by omega)) (by rfl) (pa_cons (pv 0) (pa_cons (pe_callB call_len_str (by rfl) B.len (by decide +kernel) (pa_cons (pv 1) pa_nil)) pa_nil))) (fun _ _ => rfl))))))), ?_⟩
    tm_at "go"
    refine fun D nD => ?_
    have nsD := so.ne nD
    refine lc_it walk_range (fun i H' => But st H H' ∧ StOk K H' st sl ∧ ∃ l : List Nat, H' D = some (.lst ((l.map fun c => (⟨#[c]⟩ : Str)).map V.str)) ∧ l.length = i ∧ ∀ c ∈ l, c ∈ tl sg) ⟨(same_new nD).but st, so.new nD, [], upd_same, rfl, fun _ h => by cases h⟩ (fun _ _ _ _ => trivial) ?_ ?_
    · rintro i v Hx Hy hlt ⟨bx, sox, l, hDx, hl, hc⟩ ⟨rfl, rfl⟩
      refine ⟨rfl, ?_⟩
      tm_at "go"
      refine ⟨st, sl, _, rfl, sox, by omega, pow30 h1, fun r H2 r0 r1 b2 so2 => ?_⟩
      obtain ⟨j, rfl⟩ : ∃ j : Nat, r = (j : Int) := ⟨r.toNat, by omega⟩
      have hj : j < (tl sg).length := by
        rw [← len_tl]
        omega
      have hD2 : H2 D = some (.lst ((l.map fun c => (⟨#[c]⟩ : Str)).map V.str)) := b2 _ _ nsD.symm hDx
      have hat : atI (tl sg) (j : Int) = some (tl sg)[j] := atI_nat (List.getElem?_eq_getElem hj)
      refine ⟨sg, _, (tl sg)[j], rfl, rfl, by omega, hat, ?_⟩
      refine ⟨_, hD2, ?_, (bx.trans b2).new nD, so.grow nD so2, l ++ [(tl sg)[j]], ?_, ?_, ?_⟩
      · rw [List.length_map, List.length_map]
        exact small1000 (by omega)
      · rw [upd_same, List.map_append, List.map_append]
        rfl
      · rw [List.length_append, hl]
        rfl
      · intro c hcm
        rcases List.mem_append.mp hcm with z | z
        · exact hc c z
        · rw [List.mem_singleton] at z
          rw [z]
          exact List.getElem_mem hj
    · rintro H1 ⟨bx, sox, l, hDx, hl, hc⟩
      have hln : l.length = n := by
        rw [hl]
        omega
      have hone : ((l.map fun c => (⟨#[c]⟩ : Str)).map (·.length)).sum ≤ l.length := by
        have := sum_le (b := 1) (l := l.map fun c => (⟨#[c]⟩ : Str)) (fun x hx => by
          obtain ⟨c, _, rfl⟩ := List.mem_map.mp hx
          exact Nat.le_refl _)
        rw [List.length_map] at this
        omega
      tm_at "go"
      refine ⟨_, D, l.map fun c => (⟨#[c]⟩ : Str), rfl, rfl, .inl (SqL.of hDx), ?_, ?_⟩
      · rw [List.length_map]
        have e : (Str.ofString "").length = 0 := by decide +kernel
        rw [e]
        omega
      · have e := tl_join_empty l
        refine q _ _ ?_ ?_ bx sox
        · rw [len_tl]
          have : tl (Txt.join (Str.ofString "") (l.map fun c => (⟨#[c]⟩ : Str))) = l := e
          rw [this]
          exact hln
        · have : tl (Txt.join (Str.ofString "") (l.map fun c => (⟨#[c]⟩ : Str))) = l := e
          rw [this]
          exact hc
end
end C
set_option Elab.async false
set_option linter.all false
set_option maxRecDepth 100000
set_option maxHeartbeats 4000000
/-! Q1: pairs of texts as data: equality, being among others. -/
namespace M
open PySem PySem.Spec PyProof.Rows L2 Kx TL
theorem beq_dec (x y : Str) : (x == y) = decide (x = y) := by
  by_cases h : x = y
  · rw [decide_eq_true h]
    exact beq_iff_eq.mpr h
  · rw [decide_eq_false h]
    cases e : x == y with
    | false => rfl
    | true => exact absurd (beq_iff_eq.mp e) h
theorem eqv_q (p r : Str × Str) : PyData.eqv (qD p) (qD r) = decide (p = r) := by
  unfold qD
  simp only [PyData.eqv, PyData.eqvAll, Bool.and_true]
  rw [beq_dec, beq_dec]
  obtain ⟨a, b⟩ := p
  obtain ⟨c, d⟩ := r
  by_cases h1 : a = c
  · by_cases h2 : b = d
    · subst h1; subst h2
      rw [decide_eq_true rfl, decide_eq_true rfl, decide_eq_true rfl]
      rfl
    · rw [decide_eq_false (show ¬ b = d from h2), Bool.and_false, decide_eq_false (fun e => h2 (Prod.mk.inj e).2)]
  · rw [decide_eq_false (show ¬ a = c from h1), Bool.false_and, decide_eq_false (fun e => h1 (Prod.mk.inj e).1)]
theorem any_q (ps : List (Str × Str)) (p : Str × Str) : ((ps.map qD).any fun z => PyData.eqv z (qD p)) = decide (p ∈ ps) := by
  induction ps with
  | nil => rfl
  | cons a r ih =>
    rw [List.map_cons, List.any_cons, ih, eqv_q]
    by_cases h1 : a = p
    · rw [decide_eq_true h1, Bool.true_or, decide_eq_true (by rw [h1]; exact List.mem_cons_self ..)]
    · by_cases h2 : p ∈ r
      · rw [decide_eq_true h2, Bool.or_true, decide_eq_true (List.mem_cons_of_mem _ h2)]
      · rw [decide_eq_false h1, decide_eq_false h2, decide_eq_false (fun z => (List.mem_cons.mp z).elim (fun e => h1 e.symm) h2)]
        rfl
def Ok (x : Str) : Prop := PyData.strOk x = true
theorem Ok.of {x : Str} (h : ∀ c ∈ tl x, c ≤ 126) : Ok x := by
  unfold Ok PyData.strOk
  rw [← Array.all_toList]
  exact List.all_eq_true.mpr fun c hc => decide_eq_true (Nat.lt_of_le_of_lt (h c hc) (by decide))
theorem shaped_q {p : Str × Str} (h : Ok p.1 ∧ Ok p.2) : SeqAt.shaped (qD p) = true := by
  unfold SeqAt.shaped qD
  simp only [PyData.canLay0, PyData.canLayAll0, PyData.depth, PyData.depthAll]
  rw [show PyData.strOk p.1 = true from h.1, show PyData.strOk p.2 = true from h.2]
  rfl
theorem lay_qs : ∀ {ps : List (Str × Str)}, (∀ p ∈ ps, Ok p.1 ∧ Ok p.2) → PyData.canLayAll0 (ps.map qD) = true
  | [], _ => by
    unfold PyData.canLayAll0
    rfl
  | p :: r, h => by
    rw [List.map_cons]
    unfold PyData.canLayAll0
    rw [lay_qs fun q hq => h q (List.mem_cons_of_mem _ hq), SeqAt.canLay_of_shaped (shaped_q (h p (List.mem_cons_self ..)))]
    rfl
theorem depth_qs : ∀ ps : List (Str × Str), PyData.depthAll (ps.map qD) ≤ 3
  | [] => by
    unfold PyData.depthAll
    exact Nat.zero_le _
  | p :: r => by
    rw [List.map_cons]
    unfold PyData.depthAll
    refine Nat.max_le.mpr ⟨?_, depth_qs r⟩
    unfold qD
    simp only [PyData.depth, PyData.depthAll]
    decide
theorem shaped_qs {ps : List (Str × Str)} (h : ∀ p ∈ ps, Ok p.1 ∧ Ok p.2) : SeqAt.shaped (.list (ps.map qD)) = true := by
  unfold SeqAt.shaped
  rw [show PyData.canLay0 (.list (ps.map qD)) = PyData.canLayAll0 (ps.map qD) by simp only [PyData.canLay0], lay_qs h]
  have h1 := depth_qs ps
  have h2 : PyData.depth (.list (ps.map qD)) = PyData.depthAll (ps.map qD) + 1 := by simp only [PyData.depth]
  rw [h2, decide_eq_true (by omega)]
  rfl
theorem eqv_qs_nil (ps : List (Str × Str)) : PyData.eqv (.list (ps.map qD)) (.list []) = decide (ps = []) := by
  cases ps with
  | nil => simp only [List.map_nil, PyData.eqv, PyData.eqvAll]; rfl
  | cons p r => simp only [List.map_cons, PyData.eqv, PyData.eqvAll]; rfl
/-! ### words and rows -/
def Wd (z : Str) : Prop := tl z ≠ [] ∧ z.length ≤ 18 ∧ ∀ c ∈ tl z, 33 ≤ c ∧ c ≤ 126
theorem Wd.ok {z : Str} (h : Wd z) : Ok z := .of fun c hc => (h.2.2 c hc).2
def rules7 : List Str := ["lockstep", "pauses alone", "left begins", "right begins", "meet at whiles", "calls alone", "left first"]
structure Row where
  a : Str
  b : Str
  gs : List Form
  ss : List (Str × Str)
  as : List Form
  ks : List (Str × Str)
  hs : List Form
  rule : Str
def cD (r : Row) : PyData := .tuple [.str r.a, .str r.b, .tuple (r.gs.map fD), .tuple (r.ss.map qD), .tuple (r.as.map fD), .tuple (r.ks.map qD)]
def rD (r : Row) : PyData := .tuple [cD r, .tuple (r.hs.map fD), .str r.rule]
structure Row.Ok (r : Row) : Prop where
  wa : Wd r.a
  wb : Wd r.b
  gl : r.gs.length ≤ 2
  g : ∀ f ∈ r.gs, FOk f
  sl : r.ss.length ≤ 3
  sn : r.ss.Nodup
  s : ∀ p ∈ r.ss, Wd p.1 ∧ Wd p.2
  al : r.as.length ≤ 2
  a' : ∀ f ∈ r.as, FOk f
  kl : r.ks.length ≤ 3
  kn : r.ks.Nodup
  k : ∀ p ∈ r.ks, Wd p.1 ∧ Wd p.2
  hl : r.hs.length ≤ 2
  h : ∀ f ∈ r.hs, FOk f
  ru : r.rule ∈ rules7 ++ [S "any", S "any", S "any"]
end M
set_option Elab.async false
set_option linter.all false
set_option pp.maxSteps 1500
set_option maxRecDepth 100000
set_option maxHeartbeats 4000000
namespace C
open PySem PySem.Spec PyProof.Rows L2 Kx M TL
local macro_rules | `(tactic| tm_at "same") => `(tactic| first
  | assumption
  | exact L2.Same.refl _
  | exact L2.Same.upd (by tm_at "same") (by tm_at "free")
  | exact sameTransR (by assumption) (by tm_at "same"))
local macro_rules | `(tactic| tm_at "free") => `(tactic| first
  | assumption
  | exact sameFreeR (by assumption) (by tm_at "same"))
local macro_rules | `(tactic| tm_at "but") => `(tactic| first
  | assumption
  | exact But.refl _ _
  | exact But.transR (by assumption) (by tm_at "but")
  | exact But.upd
  | exact But.self (by tm_at "but")
  | exact But.new1 (by tm_at "but") (by assumption)
  | exact But.new (by tm_at "but") (by tm_at "free")
  | exact L2.Same.but (by assumption) _)
local macro_rules | `(tactic| tm_at "fact") => `(tactic| first
  | exact upd_same
  | assumption
  | exact SqL.of upd_same
  | exact SqT.of upd_same
  | exact SqL.of (by assumption)
  | exact SqT.of (by assumption)
  | exact But.lstR (by assumption) (by assumption) (by tm_at "but"))
local macro_rules | `(tactic| tm_at "cond") => `(tactic| first
  | rfl
  | assumption
  | decide
  | omega
  | exact ⟨by decide, by decide⟩
  | exact .inr ⟨by decide, by decide⟩
  | exact .inl ⟨by decide, by decide⟩
  | exact ⟨by decide, by decide, by decide⟩
  | exact cdivw (by assumption) (by assumption)
  | exact log2_ok (by assumption)
  | exact Or.inl ⟨rfl, _, SqL.of upd_same⟩
  | exact Or.inl ⟨rfl, _, SqL.of (by assumption)⟩
  | exact ⟨_, rfl⟩
  | exact Nat.le_of_ble_eq_true rfl
  | exact small1000 (by omega))
local macro_rules | `(tactic| tm_at "prop") => `(tactic| first
  | assumption
  | omega)
local macro_rules | `(tactic| tm_at "s") => `(tactic| first
  | refine ⟨_, rfl, ?_⟩
  | refine ⟨_, _, rfl, rfl, ?_⟩
  | refine ⟨_, _, _, rfl, rfl, (by tm_at "fact"), (by tm_at "cond"), ?_⟩
  | refine ⟨_, _, _, _, rfl, rfl, (by tm_at "fact"), rfl, ?_⟩
  | refine ⟨_, _, rfl, (by tm_at "fact"), ?_⟩
  | refine And.intro (by tm_at "cond") ?_
  | refine .inl ⟨_, rfl, ?_⟩
  | refine ⟨_, _, rfl, .inl (by tm_at "fact"), ?_⟩
  | refine dec_false (by tm_at "prop") ?_
  | refine dec_true (by tm_at "prop") ?_
  | refine decN_false (by tm_at "prop") ?_
  | refine decN_true (by tm_at "prop") ?_
  | refine iteT ?_
  | refine iteF ?_
  | refine ⟨_, _, rfl, ?_⟩)
local macro_rules | `(tactic| tm_at "go") => `(tactic| repeat tm_at "s")

section
variable {P : Program} {w : World} {K : PySem.W.Frag} {mg : Str → Option Value} {base : Heap} {aH aR : Addr}
/-! ### a drawn word -/
def spGen (K : PySem.W.Frag) (R : Str → Prop) : Sp := fun vs H Q _ => ∃ (st l : Addr), vs = [.ref st] ∧ StOk K H st l ∧ ∀ z H', R z → But st H H' → StOk K H' st l → Q (.str z) H'
theorem sum_of {x y : Str} {n m : Nat} (hx : x.length = n) (hy : y.length = m) : (x ++ y).length = n + m := by
  rw [M.len_app, hx, hy]
def heads9 : List Str := ["end", "with", "claim", "given", "same", "walk", "0", "-", "any"]
def sgA : Str := "!\"#$&'()*+,-./0123456789:;<=>?@ABCDEFGHIJKLMNOPQRSTUVWXYZ"
def sgB : Str := "[\\]^_`abcdefghijklmnopqrstuvwxyz{|}~"
theorem wd_heads : ∀ z ∈ heads9, tl z ≠ [] ∧ z.length ≤ 18 ∧ ∀ c ∈ tl z, 33 ≤ c ∧ c ≤ 126 := by decide +kernel
theorem wd_sgA : ∀ c ∈ tl sgA, 33 ≤ c ∧ c ≤ 126 := by decide +kernel
theorem wd_sgB : ∀ c ∈ tl sgB, 33 ≤ c ∧ c ≤ 126 := by decide +kernel
theorem wd_sg : ∀ c ∈ tl (sgA ++ sgB), 33 ≤ c ∧ c ≤ 126 := by
  intro c hc
  rw [tl_append] at hc
  rcases List.mem_append.mp hc with z | z
  · exact wd_sgA c z
  · exact wd_sgB c z
def sgC : Str := "abcdefghijklmnopqrstuvwxyz"
def sgD : Str := "abz019_"
theorem wd_sgC : ∀ c ∈ tl sgC, 33 ≤ c ∧ c ≤ 126 := by decide +kernel
theorem wd_sgD : ∀ c ∈ tl sgD, 33 ≤ c ∧ c ≤ 126 := by decide +kernel
theorem ne_len {z : Str} {n : Nat} (h : z.length = n) (h0 : 0 < n) : tl z ≠ [] := fun e => by
  rw [len_tl, e] at h
  simp at h
  omega
theorem sc__law_any_word : FnScope ["state", "signs", "pick"] ["state"] (defScope s__law_any_word) := ⟨rfl, rfl, rfl, by decide +kernel, rfl, by decide +kernel, by decide +kernel⟩
theorem ok__law_any_word {k : Nat} (D : Def K mg "_law_any_word" "_law_any_word" s__law_any_word ["state"]) (B : Bi mg) (c__law_draw : Cal P w K mg base CX0 k "_law_draw" ["state", "most"] (spDraw K))
    (c__law_one_of : Cal P w K mg base CX0 k "_law_one_of" ["state", "items"] (spOneOf K)) (c__law_text_of : Cal P w K mg base CX0 k "_law_text_of" ["state", "signs", "many"] (spTextOf K)) :
    Cal P w K mg base CX0 (k + 1) "_law_any_word" ["state"] (spGen K Wd) := by
  refine D.cal fun f fd F => F.ok sc__law_any_word (fun vs H Q E h => ?_) (fun cdv A outer s H vs Q E hr h => ?_)
  · obtain ⟨st, l, rfl, _⟩ := h
    rfl
  · obtain ⟨st, l, rfl, so, q⟩ := h
    have nd := sc__law_any_word.nd
    refine ⟨_, (pss_cons (ps_set (i := 1) nd rfl (Or.inl rfl) pe_str)
      (pss_cons (ps_set (i := 1) nd rfl (Or.inl rfl) (pe_op op_add_str (pv 1) pe_str))
      (pss_cons (ps_set (i := 2) nd rfl (Or.inl rfl) (pe_cal c__law_draw (Room.mono hr (by omega)) (by rfl) (pa_cons (pv 0) (pa_cons pe_int pa_nil))))
      (pss_cons (ps_if (pt_cmpR op_eq (pv 2) pe_int (nomark _))
        (pss_one (ps_ret (pe_cal c__law_one_of (Room.mono hr (by omega)) (by rfl) (pa_cons (pv 0) (pa_cons (pe_lst (pa_cons pe_str (pa_cons pe_str (pa_cons pe_str (pa_cons pe_str (pa_cons pe_str (pa_cons pe_str (pa_cons pe_str (pa_cons pe_str (pa_cons pe_str pa_nil)))))))))) pa_nil)))))
        pss_nil)
      (pss_cons (ps_if (pt_cmpR op_lt (pv 2) pe_int (nomark _))
        (pss_one (ps_ret (pe_cal c__law_text_of (Room.mono hr (by omega)) (by rfl) (pa_cons (pv 0) (pa_cons (pv 1) (pa_cons (pe_op op_add pe_int (pe_cal c__law_draw (Room.mono hr (by omega)) (by rfl) (pa_cons (pv 0) (pa_cons pe_int pa_nil)))) pa_nil))))))
        pss_nil)
      (pss_one (ps_ret (pe_op op_add_str (pe_cal c__law_text_of (Room.mono hr (by omega)) (by rfl) (pa_cons (pv 0) (pa_cons pe_str (pa_cons pe_int pa_nil)))) (pe_cal c__law_text_of (Room.mono hr (by omega)) (by rfl) (pa_cons (pv 0) (pa_cons pe_str (pa_cons (pe_cal c__law_draw (Room.mono hr (by omega)) (by rfl) (pa_cons (pv 0) (pa_cons pe_int pa_nil))) pa_nil)))))))))))), ?_⟩
    tm_at "go"
    refine ⟨st, l, 8, rfl, so, by decide, by decide, fun r H1 r0 r1 b1 so1 => ?_⟩
    tm_at "go"
    refine ite2 (fun c => ?_) (fun c => ?_)
    · tm_at "go"
      refine fun p np => ?_
      refine ⟨st, l, p, heads9, rfl, so1.new np, SqL.of upd_same, by decide, by decide, fun z H2 hz b2 so2 => ?_⟩
      exact q _ _ (wd_heads z hz) (by tm_at "but") so2
    tm_at "go"
    refine ite2 (fun c => ?_) (fun c => ?_)
    · tm_at "go"
      refine ⟨st, l, 6, rfl, so1, by decide, by decide, fun r2 H2 r20 r21 b2 so2 => ?_⟩
      tm_at "go"
      obtain ⟨j, ej⟩ : ∃ j : Nat, 1 + r2 = (j : Int) := ⟨(1 + r2).toNat, by omega⟩
      refine ⟨st, l, sgA ++ sgB, j, by rw [← ej]; rfl, so2, by decide +kernel, by decide +kernel, by omega, fun z H3 hz hc b3 so3 => ?_⟩
      exact q _ _ ⟨ne_len hz (by omega), by omega, fun c hcz => wd_sg c (hc c hcz)⟩ (by tm_at "but") so3
    · tm_at "go"
      refine ⟨st, l, sgC, 1, rfl, so1, by decide +kernel, by decide +kernel, by decide, fun z H2 hz hc b2 so2 => ?_⟩
      tm_at "go"
      refine ⟨st, l, 17, rfl, so2, by decide, by decide, fun r3 H3 r30 r31 b3 so3 => ?_⟩
      obtain ⟨j, rfl⟩ : ∃ j : Nat, r3 = (j : Int) := ⟨r3.toNat, by omega⟩
      refine ⟨st, l, sgD, j, rfl, so3, by decide +kernel, by decide +kernel, by omega, fun z4 H4 hz4 hc4 b4 so4 => ?_⟩
      refine ⟨z, z4, rfl, rfl, ?_, ?_⟩
      · exact Nat.le_of_lt (small1000 (by omega))
      · refine q _ _ ⟨ne_len (sum_of hz hz4) (by omega), by rw [sum_of hz hz4]; omega, fun c hcz => ?_⟩ (by tm_at "but") so4
        rw [tl_append] at hcz
        rcases List.mem_append.mp hcz with y | y
        · exact wd_sgC c (hc c y)
        · exact wd_sgD c (hc4 c y)
end
end C
set_option Elab.async false
set_option linter.all false
set_option pp.maxSteps 1500
set_option maxRecDepth 100000
set_option maxHeartbeats 4000000
namespace C
open PySem PySem.Spec PyProof.Rows L2 Kx M TL
local macro_rules | `(tactic| tm_at "same") => `(tactic| first
  | assumption
  | exact L2.Same.refl _
  | exact L2.Same.upd (by tm_at "same") (by tm_at "free")
  | exact sameTransR (by assumption) (by tm_at "same"))
local macro_rules | `(tactic| tm_at "free") => `(tactic| first
  | assumption
  | exact sameFreeR (by assumption) (by tm_at "same"))
local macro_rules | `(tactic| tm_at "but") => `(tactic| first
  | assumption
  | exact But.refl _ _
  | exact But.transR (by assumption) (by tm_at "but")
  | exact But.upd
  | exact But.self (by tm_at "but")
  | exact But.new1 (by tm_at "but") (by assumption)
  | exact But.new (by tm_at "but") (by tm_at "free")
  | exact L2.Same.but (by assumption) _)
local macro_rules | `(tactic| tm_at "fact") => `(tactic| first
  | exact upd_same
  | assumption
  | exact SqL.of upd_same
  | exact SqT.of upd_same
  | exact SqL.of (by assumption)
  | exact SqT.of (by assumption)
  | exact But.lstR (by assumption) (by assumption) (by tm_at "but"))
local macro_rules | `(tactic| tm_at "cond") => `(tactic| first
  | rfl
  | assumption
  | decide
  | omega
  | exact ⟨by decide, by decide⟩
  | exact .inr ⟨by decide, by decide⟩
  | exact .inl ⟨by decide, by decide⟩
  | exact ⟨by decide, by decide, by decide⟩
  | exact cdivw (by assumption) (by assumption)
  | exact log2_ok (by assumption)
  | exact Or.inl ⟨rfl, _, SqL.of upd_same⟩
  | exact Or.inl ⟨rfl, _, SqL.of (by assumption)⟩
  | exact ⟨_, rfl⟩
  | exact Nat.le_of_ble_eq_true rfl
  | exact small1000 (by omega))
local macro_rules | `(tactic| tm_at "prop") => `(tactic| first
  | assumption
  | omega)
local macro_rules | `(tactic| tm_at "s") => `(tactic| first
  | refine ⟨_, rfl, ?_⟩
  | refine ⟨_, _, rfl, rfl, ?_⟩
  | refine ⟨_, _, _, rfl, rfl, (by tm_at "fact"), (by tm_at "cond"), ?_⟩
  | refine ⟨_, _, _, _, rfl, rfl, (by tm_at "fact"), rfl, ?_⟩
  | refine ⟨_, _, rfl, (by tm_at "fact"), ?_⟩
  | refine And.intro (by tm_at "cond") ?_
  | refine .inl ⟨_, rfl, ?_⟩
  | refine ⟨_, _, rfl, .inl (by tm_at "fact"), ?_⟩
  | refine dec_false (by tm_at "prop") ?_
  | refine dec_true (by tm_at "prop") ?_
  | refine decN_false (by tm_at "prop") ?_
  | refine decN_true (by tm_at "prop") ?_
  | refine iteT ?_
  | refine iteF ?_
  | refine ⟨_, _, rfl, ?_⟩)
local macro_rules | `(tactic| tm_at "go") => `(tactic| repeat tm_at "s")

section
variable {P : Program} {w : World} {K : PySem.W.Frag} {mg : Str → Option Value} {base : Heap} {aH aR : Addr}
/-! ### a drawn name of a form -/
def names10 : List Str := ["l.@n", "r.@n", "l..count", "r..count", "l.@#a", "r..result", "l.i", "l.p.f", "?1", "r..#a"]
theorem names_ok : ∀ z ∈ names10, isN z = true ∧ z.length ≤ 100 := by decide +kernel
theorem nameOk_of {z y : Str} {m : Nat} (hz : z.length = 1) (hc : ∀ c ∈ tl z, c ∈ nh) (hy : y.length = m) (hm : m ≤ 20) (hd : ∀ c ∈ tl y, c ∈ nh ∨ c ∈ dg) : NameOk (z ++ y) := by
  refine ⟨?_, by rw [M.len_app]; omega⟩
  obtain ⟨c, e⟩ : ∃ c, tl z = [c] := by
    rw [len_tl] at hz
    match tl z, hz with
    | [c], _ => exact ⟨c, rfl⟩
  show isNL (tl (z ++ y)) = true
  rw [tl_append, e]
  show isNL (c :: tl y) = true
  unfold isNL
  rw [Bool.and_eq_true]
  refine ⟨decide_eq_true (hc c (by rw [e]; exact List.mem_singleton.mpr rfl)), List.all_eq_true.mpr fun d m => ?_⟩
  rw [Bool.or_eq_true]
  rcases hd d m with h | h
  · exact .inl (decide_eq_true h)
  · exact .inr (decide_eq_true h)
theorem sc__law_form_name : FnScope ["state", "first", "some"] ["state"] (defScope s__law_form_name) := ⟨rfl, rfl, rfl, by decide +kernel, rfl, by decide +kernel, by decide +kernel⟩
theorem ok__law_form_name {k : Nat} (D : Def K mg "_law_form_name" "_law_form_name" s__law_form_name ["state"]) (B : Bi mg) (c__law_draw : Cal P w K mg base CX0 k "_law_draw" ["state", "most"] (spDraw K))
    (c__law_one_of : Cal P w K mg base CX0 k "_law_one_of" ["state", "items"] (spOneOf K)) (c__law_text_of : Cal P w K mg base CX0 k "_law_text_of" ["state", "signs", "many"] (spTextOf K)) :
    Cal P w K mg base CX0 (k + 1) "_law_form_name" ["state"] (spGen K NameOk) := by
  refine D.cal fun f fd F => F.ok sc__law_form_name (fun vs H Q E h => ?_) (fun cdv A outer s H vs Q E hr h => ?_)
  · obtain ⟨st, l, rfl, _⟩ := h
    rfl
  · obtain ⟨st, l, rfl, so, q⟩ := h
    have nd := sc__law_form_name.nd
    refine ⟨_, (pss_cons (ps_set (i := 1) nd rfl (Or.inl rfl) pe_str)
      (pss_cons (ps_if (pt_cmpR op_eq (pe_cal c__law_draw (Room.mono hr (by omega)) (by rfl) (pa_cons (pv 0) (pa_cons pe_int pa_nil))) pe_int (nomark _))
        (pss_cons (ps_set (i := 2) nd rfl (Or.inl rfl) (pe_lst (pa_cons pe_str (pa_cons pe_str (pa_cons pe_str (pa_cons pe_str (pa_cons pe_str (pa_cons pe_str (pa_cons pe_str (pa_cons pe_str (pa_cons pe_str (pa_cons pe_str pa_nil))))))))))))
        (pss_one (ps_ret (pe_cal c__law_one_of (Room.mono hr (by omega)) (by rfl) (pa_cons (pv 0) (pa_cons (pv 2) pa_nil))))))
        pss_nil)
      (pss_one (ps_ret (pe_op op_add_str (pe_cal c__law_text_of (Room.mono hr (by omega)) (by rfl) (pa_cons (pv 0) (pa_cons (pv 1) (pa_cons pe_int pa_nil)))) (pe_cal c__law_text_of (Room.mono hr (by omega)) (by rfl) (pa_cons (pv 0) (pa_cons (pe_op op_add_str (pv 1) pe_str) (pa_cons (pe_cal c__law_draw (Room.mono hr (by omega)) (by rfl) (pa_cons (pv 0) (pa_cons pe_int pa_nil))) pa_nil))))))))), ?_⟩
    tm_at "go"
    refine ⟨st, l, 2, rfl, so, by decide, by decide, fun r H1 r0 r1 b1 so1 => ?_⟩
    tm_at "go"
    refine ite2 (fun c => ?_) (fun c => ?_)
    · tm_at "go"
      refine fun p np => ?_
      tm_at "go"
      refine ⟨st, l, p, names10, rfl, so1.new np, SqL.of upd_same, by decide, by decide, fun z H2 hz b2 so2 => ?_⟩
      exact q _ _ ⟨(names_ok z hz).1, (names_ok z hz).2⟩ (by tm_at "but") so2
    · tm_at "go"
      refine ⟨st, l, S "abcdefghijklmnopqrstuvwxyz@#.?_", 1, rfl, so1, by decide +kernel, by decide +kernel, by decide, fun z H2 hz hc b2 so2 => ?_⟩
      tm_at "go"
      refine ⟨st, l, 6, rfl, so2, by decide, by decide, fun r3 H3 r30 r31 b3 so3 => ?_⟩
      obtain ⟨j, rfl⟩ : ∃ j : Nat, r3 = (j : Int) := ⟨r3.toNat, by omega⟩
      refine ⟨st, l, S "abcdefghijklmnopqrstuvwxyz@#.?_" ++ S "0123456789", j, rfl, so3, by decide +kernel, by decide +kernel, by omega, fun z4 H4 hz4 hc4 b4 so4 => ?_⟩
      refine ⟨z, z4, rfl, rfl, ?_, ?_⟩
      · exact Nat.le_of_lt (small1000 (by omega))
      · refine q _ _ (nameOk_of hz hc hz4 (by omega) fun c hcz => ?_) (by tm_at "but") so4
        have := hc4 c hcz
        rw [tl_append] at this
        exact List.mem_append.mp this
end
end C
set_option Elab.async false
set_option linter.all false
set_option pp.maxSteps 1500
set_option maxRecDepth 100000
set_option maxHeartbeats 4000000
namespace C
open PySem PySem.Spec PyProof.Rows L2 Kx M TL
local macro_rules | `(tactic| tm_at "same") => `(tactic| first
  | assumption
  | exact L2.Same.refl _
  | exact L2.Same.upd (by tm_at "same") (by tm_at "free")
  | exact sameTransR (by assumption) (by tm_at "same"))
local macro_rules | `(tactic| tm_at "free") => `(tactic| first
  | assumption
  | exact sameFreeR (by assumption) (by tm_at "same"))
local macro_rules | `(tactic| tm_at "but") => `(tactic| first
  | assumption
  | exact But.refl _ _
  | exact But.transR (by assumption) (by tm_at "but")
  | exact But.upd
  | exact But.self (by tm_at "but")
  | exact But.new1 (by tm_at "but") (by assumption)
  | exact But.new (by tm_at "but") (by tm_at "free")
  | exact L2.Same.but (by assumption) _)
local macro_rules | `(tactic| tm_at "fact") => `(tactic| first
  | exact upd_same
  | assumption
  | exact SqL.of upd_same
  | exact SqT.of upd_same
  | exact SqL.of (by assumption)
  | exact SqT.of (by assumption)
  | exact But.lstR (by assumption) (by assumption) (by tm_at "but"))
local macro_rules | `(tactic| tm_at "cond") => `(tactic| first
  | rfl
  | assumption
  | decide
  | omega
  | exact ⟨by decide, by decide⟩
  | exact .inr ⟨by decide, by decide⟩
  | exact .inl ⟨by decide, by decide⟩
  | exact ⟨by decide, by decide, by decide⟩
  | exact cdivw (by assumption) (by assumption)
  | exact log2_ok (by assumption)
  | exact Or.inl ⟨rfl, _, SqL.of upd_same⟩
  | exact Or.inl ⟨rfl, _, SqL.of (by assumption)⟩
  | exact ⟨_, rfl⟩
  | exact Nat.le_of_ble_eq_true rfl
  | exact small1000 (by omega))
local macro_rules | `(tactic| tm_at "prop") => `(tactic| first
  | assumption
  | omega)
local macro_rules | `(tactic| tm_at "s") => `(tactic| first
  | refine ⟨_, rfl, ?_⟩
  | refine ⟨_, _, rfl, rfl, ?_⟩
  | refine ⟨_, _, _, rfl, rfl, (by tm_at "fact"), (by tm_at "cond"), ?_⟩
  | refine ⟨_, _, _, _, rfl, rfl, (by tm_at "fact"), rfl, ?_⟩
  | refine ⟨_, _, rfl, (by tm_at "fact"), ?_⟩
  | refine And.intro (by tm_at "cond") ?_
  | refine .inl ⟨_, rfl, ?_⟩
  | refine ⟨_, _, rfl, .inl (by tm_at "fact"), ?_⟩
  | refine dec_false (by tm_at "prop") ?_
  | refine dec_true (by tm_at "prop") ?_
  | refine decN_false (by tm_at "prop") ?_
  | refine decN_true (by tm_at "prop") ?_
  | refine iteT ?_
  | refine iteF ?_
  | refine ⟨_, _, rfl, ?_⟩)
local macro_rules | `(tactic| tm_at "go") => `(tactic| repeat tm_at "s")

section
variable {P : Program} {w : World} {K : PySem.W.Frag} {mg : Str → Option Value} {base : Heap} {aH aR : Addr}
/-! ### a drawn number -/
def spNum (K : PySem.W.Frag) : Sp := fun vs H Q _ => ∃ (st l : Addr), vs = [.ref st] ∧ StOk K H st l ∧ ∀ (z : Int) H', z.natAbs ≤ 10 ^ 30 → But st H H' → StOk K H' st l → Q (.int z) H'
theorem sc__law_some_number : FnScope ["state", "pick"] ["state"] (defScope s__law_some_number) := ⟨rfl, rfl, rfl, by decide +kernel, rfl, by decide +kernel, by decide +kernel⟩
theorem ok__law_some_number {k : Nat} (D : Def K mg "_law_some_number" "_law_some_number" s__law_some_number ["state"]) (B : Bi mg) (c__law_draw : Cal P w K mg base CX0 k "_law_draw" ["state", "most"] (spDraw K)) :
    Cal P w K mg base CX0 (k + 1) "_law_some_number" ["state"] (spNum K) := by
  refine D.cal fun f fd F => F.ok sc__law_some_number (fun vs H Q E h => ?_) (fun cdv A outer s H vs Q E hr h => ?_)
  · obtain ⟨st, l, rfl, _⟩ := h
    rfl
  · obtain ⟨st, l, rfl, so, q⟩ := h
    have nd := sc__law_some_number.nd
    have e30 : (10 : Int) ^ 30 = 1000000000000000000000000000000 := by decide
    have n30 : (10 : Nat) ^ 30 = 1000000000000000000000000000000 := by decide
    have e29 : (10 : Int) ^ Int.toNat 29 = 100000000000000000000000000000 := by decide
    refine ⟨_, (pss_cons (ps_set (i := 1) nd rfl (Or.inl rfl) (pe_cal c__law_draw (Room.mono hr (by omega)) (by rfl) (pa_cons (pv 0) (pa_cons pe_int pa_nil))))
      (pss_cons (ps_if (pt_cmpR op_lt (pv 1) pe_int (nomark _))
        (pss_one (ps_ret (pe_op op_sub (pe_cal c__law_draw (Room.mono hr (by omega)) (by rfl) (pa_cons (pv 0) (pa_cons pe_int pa_nil))) pe_int)))
        pss_nil)
      (pss_cons (ps_if (pt_cmpR op_eq (pv 1) pe_int (nomark _))
        (pss_one (ps_ret (pe_op op_sub (pe_cal c__law_draw (Room.mono hr (by omega)) (by rfl) (pa_cons (pv 0) (pa_cons (pe_op op_pow pe_int pe_int) pa_nil))) (pe_op op_pow pe_int pe_int))))
        pss_nil)
      (pss_one (ps_ret (pe_op op_sub (pe_cal c__law_draw (Room.mono hr (by omega)) (by rfl) (pa_cons (pv 0) (pa_cons pe_int pa_nil))) pe_int)))))), ?_⟩
    tm_at "go"
    refine ⟨st, l, 6, rfl, so, by decide, by decide, fun r H1 r0 r1 b1 so1 => ?_⟩
    tm_at "go"
    refine ite2 (fun c => ?_) (fun c => ?_)
    · tm_at "go"
      refine ⟨st, l, 3, rfl, so1, by decide, by decide, fun r2 H2 r20 r21 b2 so2 => ?_⟩
      tm_at "go"
      exact q _ _ (by omega) (by tm_at "but") so2
    tm_at "go"
    refine ite2 (fun c => ?_) (fun c => ?_)
    · tm_at "go"
      refine ⟨st, l, 10 ^ 30, rfl, so1, by decide, by decide, fun r2 H2 r20 r21 b2 so2 => ?_⟩
      tm_at "go"
      rw [e30] at r21
      have hb : (r2 - (10 : Int) ^ Int.toNat 29).natAbs ≤ 10 ^ 30 := by
        rw [e29, n30]
        omega
      exact q _ _ hb (by tm_at "but") so2
    · tm_at "go"
      refine ⟨st, l, 40, rfl, so1, by decide, by decide, fun r2 H2 r20 r21 b2 so2 => ?_⟩
      tm_at "go"
      exact q _ _ (by omega) (by tm_at "but") so2
end
end C
set_option Elab.async false
set_option linter.all false
set_option pp.maxSteps 1500
set_option maxRecDepth 100000
set_option maxHeartbeats 4000000
namespace C
open PySem PySem.Spec PyProof.Rows L2 Kx M TL
local macro_rules | `(tactic| tm_at "same") => `(tactic| first
  | assumption
  | exact L2.Same.refl _
  | exact L2.Same.upd (by tm_at "same") (by tm_at "free")
  | exact sameTransR (by assumption) (by tm_at "same"))
local macro_rules | `(tactic| tm_at "free") => `(tactic| first
  | assumption
  | exact sameFreeR (by assumption) (by tm_at "same"))
local macro_rules | `(tactic| tm_at "but") => `(tactic| first
  | assumption
  | exact But.refl _ _
  | exact But.transR (by assumption) (by tm_at "but")
  | exact But.upd
  | exact But.self (by tm_at "but")
  | exact But.new1 (by tm_at "but") (by assumption)
  | exact But.new (by tm_at "but") (by tm_at "free")
  | exact L2.Same.but (by assumption) _)
local macro_rules | `(tactic| tm_at "fact") => `(tactic| first
  | exact upd_same
  | assumption
  | exact SqL.of upd_same
  | exact SqT.of upd_same
  | exact SqL.of (by assumption)
  | exact SqT.of (by assumption)
  | exact But.lstR (by assumption) (by assumption) (by tm_at "but"))
local macro_rules | `(tactic| tm_at "cond") => `(tactic| first
  | rfl
  | assumption
  | decide
  | omega
  | exact ⟨by decide, by decide⟩
  | exact .inr ⟨by decide, by decide⟩
  | exact .inl ⟨by decide, by decide⟩
  | exact ⟨by decide, by decide, by decide⟩
  | exact cdivw (by assumption) (by assumption)
  | exact log2_ok (by assumption)
  | exact Or.inl ⟨rfl, _, SqL.of upd_same⟩
  | exact Or.inl ⟨rfl, _, SqL.of (by assumption)⟩
  | exact ⟨_, rfl⟩
  | exact Nat.le_of_ble_eq_true rfl
  | exact small1000 (by omega))
local macro_rules | `(tactic| tm_at "prop") => `(tactic| first
  | assumption
  | omega)
local macro_rules | `(tactic| tm_at "s") => `(tactic| first
  | refine ⟨_, rfl, ?_⟩
  | refine ⟨_, _, rfl, rfl, ?_⟩
  | refine ⟨_, _, _, rfl, rfl, (by tm_at "fact"), (by tm_at "cond"), ?_⟩
  | refine ⟨_, _, _, _, rfl, rfl, (by tm_at "fact"), rfl, ?_⟩
  | refine ⟨_, _, rfl, (by tm_at "fact"), ?_⟩
  | refine And.intro (by tm_at "cond") ?_
  | refine .inl ⟨_, rfl, ?_⟩
  | refine ⟨_, _, rfl, .inl (by tm_at "fact"), ?_⟩
  | refine dec_false (by tm_at "prop") ?_
  | refine dec_true (by tm_at "prop") ?_
  | refine decN_false (by tm_at "prop") ?_
  | refine decN_true (by tm_at "prop") ?_
  | refine iteT ?_
  | refine iteF ?_
  | refine ⟨_, _, rfl, ?_⟩)
local macro_rules | `(tactic| tm_at "go") => `(tactic| repeat tm_at "s")

section
variable {P : Program} {w : World} {K : PySem.W.Frag} {mg : Str → Option Value} {base : Heap} {aH aR : Addr}
/-! ### a drawn form -/
def spFrm (K : PySem.W.Frag) : Sp := fun vs H Q _ => ∃ (st l : Addr), vs = [.ref st] ∧ StOk K H st l ∧ ∀ f v H', FOk f → Im K H' v (fD f) → But st H H' → StOk K H' st l → Q v H'
theorem look_add : ∀ (acc : List (Str × Int)) (q : Str × Int) (n : Str), (look (addP acc q) n).natAbs ≤ (look acc n).natAbs + q.2.natAbs
  | [], q, n => by
    show (if q.1 = n then q.2 else 0).natAbs ≤ _
    by_cases e : q.1 = n
    · rw [if_pos e]
      omega
    · rw [if_neg e]
      omega
  | p :: r, q, n => by
    show (look (if p.1 = q.1 then (p.1, p.2 + q.2) :: r else p :: addP r q) n).natAbs ≤ (if p.1 = n then p.2 else look r n).natAbs + _
    have ih := look_add r q n
    by_cases e : p.1 = q.1
    · rw [if_pos e]
      show (if p.1 = n then p.2 + q.2 else look r n).natAbs ≤ _
      by_cases z : p.1 = n
      · rw [if_pos z, if_pos z]
        omega
      · rw [if_neg z, if_neg z]
        omega
    · rw [if_neg e]
      show (if p.1 = n then p.2 else look (addP r q) n).natAbs ≤ _
      by_cases z : p.1 = n
      · rw [if_pos z, if_pos z]
        omega
      · rw [if_neg z, if_neg z]
        exact ih
theorem look_tot {b : Nat} (n : Str) : ∀ (ps acc : List (Str × Int)), (∀ p ∈ ps, p.2.natAbs ≤ b) → (look (ps.foldl addP acc) n).natAbs ≤ (look acc n).natAbs + ps.length * b
  | [], acc, _ => by
    rw [List.length_nil, Nat.zero_mul]
    exact Nat.le_refl _
  | q :: r, acc, h => by
    have h1 := look_tot n r (addP acc q) fun p hp => h p (List.mem_cons_of_mem _ hp)
    have h2 := look_add acc q n
    have h3 := h q (List.mem_cons_self ..)
    rw [List.length_cons, Nat.succ_mul]
    show (look (r.foldl addP (addP acc q)) n).natAbs ≤ _
    omega
theorem tot_keys : ∀ (ps acc : List (Str × Int)) (n : Str), n ∈ (ps.foldl addP acc).map (·.1) → n ∈ acc.map (·.1) ∨ n ∈ ps.map (·.1)
  | [], acc, n, h => .inl h
  | q :: r, acc, n, h => by
    rcases tot_keys r (addP acc q) n h with z | z
    · rw [addP_keys] at z
      split at z
      · exact .inl z
      · rcases List.mem_append.mp z with y | y
        · exact .inl y
        · rw [List.mem_singleton] at y
          rw [y]
          exact .inr (List.mem_cons_self ..)
    · exact .inr (List.mem_cons_of_mem _ z)
theorem fok_tms {c : Int} {ps : List (Str × Int)} {ys : List Str} (hc : c.natAbs ≤ 10 ^ 31) (hp : ∀ p ∈ ps, NameOk p.1 ∧ p.2.natAbs ≤ 10 ^ 30) (hl : ps.length ≤ 50) (hy : ys.Perm ((totals ps).map (·.1))) (hs : ys.Pairwise sLe) : FOk (c, tms ps ys) := by
  have n40 : (10 : Nat) ^ 40 = 10000000000000000000000000000000000000000 := by decide
  have n30 : (10 : Nat) ^ 30 = 1000000000000000000000000000000 := by decide
  have n31 : (10 : Nat) ^ 31 = 10000000000000000000000000000000 := by decide
  have hn : ys.Nodup := hy.nodup_iff.mpr (totals_nodup ps)
  have mem : ∀ p ∈ tms ps ys, p.1 ∈ ys ∧ p.2 = look (totals ps) p.1 ∧ p.2 ≠ 0 := by
    intro p h
    unfold tms at h
    obtain ⟨h1, h2⟩ := List.mem_filter.mp h
    obtain ⟨n, h3, rfl⟩ := List.mem_map.mp h1
    refine ⟨h3, rfl, fun e => ?_⟩
    unfold nzp at h2
    rw [decide_eq_true e] at h2
    exact absurd h2 (by decide)
  refine ⟨fun p h => ?_, fun p h => (mem p h).2.2, fun p h => ?_, ?_, ?_, ?_⟩
  · have h1 := hy.subset (mem p h).1
    rcases tot_keys ps [] _ h1 with z | z
    · cases z
    · obtain ⟨q, h2, h3⟩ := List.mem_map.mp z
      rw [← h3]
      exact (hp q h2).1
  · rw [(mem p h).2.1]
    have := look_tot (b := 10 ^ 30) p.1 ps [] fun q h => (hp q h).2
    show (look (ps.foldl addP []) p.1).natAbs < _
    have e : (look [] p.1).natAbs = 0 := rfl
    rw [e] at this
    have h5 : ps.length * 10 ^ 30 ≤ 50 * 10 ^ 30 := Nat.mul_le_mul_right _ hl
    rw [n30] at h5 this
    rw [n40]
    omega
  · have e : (tms ps ys).map (·.1) = ys.filter fun n => nzp (n, look (totals ps) n) := by
      unfold tms
      rw [List.filter_map, List.map_map]
      show List.map (fun n => n) _ = _
      rw [List.map_id']
      rfl
    show ((tms ps ys).map (·.1)).Pairwise sLt
    rw [e]
    exact (le_lt hs hn).filter _
  · show c.natAbs < _
    rw [n40]
    rw [n31] at hc
    omega
  · show (tms ps ys).length ≤ 50
    have h1 : (tms ps ys).length ≤ ys.length := by
      unfold tms
      refine Nat.le_trans (List.length_filter_le _ _) ?_
      rw [List.length_map]
      exact Nat.le_refl _
    have h2 := hy.length_eq
    rw [List.length_map] at h2
    have h3 := totals_len ps
    omega
theorem sc__law_some_form : FnScope ["state", "pairs", "k"] ["state"] (defScope s__law_some_form) := ⟨rfl, rfl, rfl, by decide +kernel, rfl, by decide +kernel, by decide +kernel⟩
theorem ok__law_some_form {k : Nat} (D : Def K mg "_law_some_form" "_law_some_form" s__law_some_form ["state"]) (B : Bi mg) (c__law_draw : Cal P w K mg base CX0 k "_law_draw" ["state", "most"] (spDraw K))
    (c__law_form_name : Cal P w K mg base CX0 k "_law_form_name" ["state"] (spGen K NameOk)) (c__law_some_number : Cal P w K mg base CX0 k "_law_some_number" ["state"] (spNum K)) (c__law_form : Cal P w K mg base CX0 k "_law_form" ["constant", "pairs"] (spForm K)) :
    Cal P w K mg base CX0 (k + 1) "_law_some_form" ["state"] (spFrm K) := by
  refine D.cal fun f fd F => F.ok sc__law_some_form (fun vs H Q E h => ?_) (fun cdv A outer s H vs Q E hr h => ?_)
  · obtain ⟨st, l, rfl, _⟩ := h
    rfl
  · obtain ⟨st, l, rfl, so, q⟩ := h
    have nd := sc__law_some_form.nd
    refine ⟨_, (pss_cons (ps_setLc (i := 1) (own := [("k", 2)]) rfl nd rfl rfl (sw_true rfl rfl rfl (by decide +kernel)) (pi_range1 (by rfl) B.range (pa_cons (pe_cal c__law_draw (Room.mono hr (by omega)) (by rfl) (pa_cons (pv 0) (pa_cons pe_int pa_nil))) pa_nil)) (blkOk_by (own := [("k", 2)]) (N := ["state", "pairs", "k"]) (sc := defScope s__law_some_form) (by decide +kernel)) (fun _ _ _ _ _ => (pg_name (i := 2) nd rfl (Or.inl rfl))) (fun _ _ _ _ _ => pts_nil) (fun _ _ _ _ _ => (pe_tup (pa_cons (pe_cal c__law_form_name (Room.mono hr (by omega)) (by rfl) (pa_cons (pv 0) pa_nil)) (pa_cons (pe_cal c__law_some_number (Room.mono hr (by omega)) (by rfl) (pa_cons (pv 0) pa_nil)) pa_nil)))))
      (pss_one (ps_ret (pe_cal c__law_form (Room.mono hr (by omega)) (by rfl) (pa_cons (pe_op op_mul (pe_cal c__law_some_number (Room.mono hr (by omega)) (by rfl) (pa_cons (pv 0) pa_nil)) (pe_cal c__law_draw (Room.mono hr (by omega)) (by rfl) (pa_cons (pv 0) (pa_cons pe_int pa_nil)))) (pa_cons (pv 1) pa_nil)))))), ?_⟩
    tm_at "go"
    refine ⟨st, l, 5, rfl, so, by decide, by decide, fun r H1 r0 r1 b1 so1 => ?_⟩
    obtain ⟨j, rfl⟩ : ∃ j : Nat, r = (j : Int) := ⟨r.toNat, by omega⟩
    refine ⟨_, rfl, by omega, by omega, fun D nD => ?_⟩
    have nsD := so1.ne nD
    refine lc_it walk_range (fun i H' => But st H1 H' ∧ StOk K H' st l ∧ ∃ (vs : List V) (ps : List (Str × Int)), H' D = some (.lst vs) ∧ Ims K H' vs (ps.map pD) ∧ ps.length = i ∧ ∀ p ∈ ps, NameOk p.1 ∧ p.2.natAbs ≤ 10 ^ 30) ⟨(same_new nD).but st, so1.new nD, [], [], upd_same, .nil, rfl, fun _ h => by cases h⟩ (fun _ _ _ _ => trivial) ?_ ?_
    · rintro i v Hx Hy hlt ⟨bx, sox, vs, ps, hDx, hi, hl, hc⟩ ⟨rfl, rfl⟩
      refine ⟨rfl, ?_⟩
      tm_at "go"
      refine fun n H2 hn b2 so2 => ?_
      tm_at "go"
      refine fun z H3 hz b3 so3 => ?_
      have hD3 : H3 D = some (.lst vs) := b3 _ _ nsD.symm (b2 _ _ nsD.symm hDx)
      have hlv := hi.length
      rw [List.length_map] at hlv
      tm_at "go"
      refine fun t nt => ⟨vs, ?_, small1000 (by omega), ?_⟩
      · rw [upd_ne (ne_of_none hD3 nt)]
        exact hD3
      · refine ⟨(((bx.trans b2).trans b3).new1 nt).new nD, so1.grow nD (so3.new nt), _, ps ++ [(n, z)], upd_same, ?_, ?_, ?_⟩
        · rw [List.map_append]
          have t1 : TK Hy H3 := sox.tk (b2.trans b3)
          have t2 : TK H3 (upd H3 t (.tup [.str n, .int z])) := TK.new nt
          have hD4 : upd H3 t (.tup [.str n, .int z]) D = some (.lst vs) := by
            rw [upd_ne (ne_of_none hD3 nt)]
            exact hD3
          refine Ims.snoc ((t1.trans (t2.trans (TK.lst hD4))).ims hi) (pD_of (SqT.of ?_))
          rw [upd_ne (ne_of_none hD3 nt).symm, upd_same]
        · rw [List.length_append, hl]
          rfl
        · intro p hp
          rcases List.mem_append.mp hp with y | y
          · exact hc p y
          · rw [List.mem_singleton] at y
            rw [y]
            exact ⟨hn, hz⟩
    · rintro H2 ⟨bx, sox, vs, ps, hDx, hi, hl, hc⟩
      tm_at "go"
      refine fun z H3 hz b3 so3 => ?_
      tm_at "go"
      refine ⟨st, l, 2, rfl, so3, by decide, by decide, fun r4 H4 r40 r41 b4 so4 => ?_⟩
      refine ⟨_, _, rfl, rfl, .inr ⟨by omega, by omega⟩, ?_⟩
      tm_at "go"
      have hD4 : H4 D = some (.lst vs) := b4 _ _ nsD.symm (b3 _ _ nsD.symm hDx)
      have t1 : TK H2 H4 := sox.tk (b3.trans b4)
      refine ⟨_, D, vs, ps, rfl, SqL.of hD4, t1.ims hi, by omega, fun r5 H5 ys hp hs s5 hr => ?_⟩
      have hc2 : (z * r4).natAbs ≤ 10 ^ 31 := by
        have : r4 = 0 ∨ r4 = 1 := by omega
        have n30 : (10 : Nat) ^ 30 = 1000000000000000000000000000000 := by decide
        have n31 : (10 : Nat) ^ 31 = 10000000000000000000000000000000 := by decide
        rw [n30] at hz
        rw [n31]
        rcases this with e | e <;> subst e <;> omega
      exact q _ _ _ (fok_tms hc2 hc (by omega) hp hs) hr ((((b1.trans bx).trans b3).trans b4).trans (s5.but st)) (so4.same s5)
end
end C
set_option Elab.async false
set_option linter.all false
set_option pp.maxSteps 1500
set_option maxRecDepth 100000
set_option maxHeartbeats 4000000
namespace C
open PySem PySem.Spec PyProof.Rows L2 Kx M TL
local macro_rules | `(tactic| tm_at "same") => `(tactic| first
  | assumption
  | exact L2.Same.refl _
  | exact L2.Same.upd (by tm_at "same") (by tm_at "free")
  | exact sameTransR (by assumption) (by tm_at "same"))
local macro_rules | `(tactic| tm_at "free") => `(tactic| first
  | assumption
  | exact sameFreeR (by assumption) (by tm_at "same"))
local macro_rules | `(tactic| tm_at "but") => `(tactic| first
  | assumption
  | exact But.refl _ _
  | exact But.transR (by assumption) (by tm_at "but")
  | exact But.upd
  | exact But.self (by tm_at "but")
  | exact But.new1 (by tm_at "but") (by assumption)
  | exact But.new (by tm_at "but") (by tm_at "free")
  | exact L2.Same.but (by assumption) _)
local macro_rules | `(tactic| tm_at "fact") => `(tactic| first
  | exact upd_same
  | assumption
  | exact SqL.of upd_same
  | exact SqT.of upd_same
  | exact SqL.of (by assumption)
  | exact SqT.of (by assumption)
  | exact But.lstR (by assumption) (by assumption) (by tm_at "but"))
local macro_rules | `(tactic| tm_at "cond") => `(tactic| first
  | rfl
  | assumption
  | decide
  | omega
  | exact ⟨by decide, by decide⟩
  | exact .inr ⟨by decide, by decide⟩
  | exact .inl ⟨by decide, by decide⟩
  | exact ⟨by decide, by decide, by decide⟩
  | exact cdivw (by assumption) (by assumption)
  | exact log2_ok (by assumption)
  | exact Or.inl ⟨rfl, _, SqL.of upd_same⟩
  | exact Or.inl ⟨rfl, _, SqL.of (by assumption)⟩
  | exact ⟨_, rfl⟩
  | exact Nat.le_of_ble_eq_true rfl
  | exact small1000 (by omega))
local macro_rules | `(tactic| tm_at "prop") => `(tactic| first
  | assumption
  | omega)
local macro_rules | `(tactic| tm_at "s") => `(tactic| first
  | refine ⟨_, rfl, ?_⟩
  | refine ⟨_, _, rfl, rfl, ?_⟩
  | refine ⟨_, _, _, rfl, rfl, (by tm_at "fact"), (by tm_at "cond"), ?_⟩
  | refine ⟨_, _, _, _, rfl, rfl, (by tm_at "fact"), rfl, ?_⟩
  | refine ⟨_, _, rfl, (by tm_at "fact"), ?_⟩
  | refine And.intro (by tm_at "cond") ?_
  | refine .inl ⟨_, rfl, ?_⟩
  | refine ⟨_, _, rfl, .inl (by tm_at "fact"), ?_⟩
  | refine dec_false (by tm_at "prop") ?_
  | refine dec_true (by tm_at "prop") ?_
  | refine decN_false (by tm_at "prop") ?_
  | refine decN_true (by tm_at "prop") ?_
  | refine iteT ?_
  | refine iteF ?_
  | refine ⟨_, _, rfl, ?_⟩)
local macro_rules | `(tactic| tm_at "go") => `(tactic| repeat tm_at "s")

section
variable {P : Program} {w : World} {K : PySem.W.Frag} {mg : Str → Option Value} {base : Heap} {aH aR : Addr}
/-! ### drawn forms -/
def spFrms (K : PySem.W.Frag) : Sp := fun vs H Q _ => ∃ (st l : Addr), vs = [.ref st] ∧ StOk K H st l ∧ ∀ (fs : List Form) v H', fs.length ≤ 2 → (∀ f ∈ fs, FOk f) → Im K H' v (.tuple (fs.map fD)) → But st H H' → StOk K H' st l → Q v H'
theorem sc__law_some_forms : FnScope ["state", "k"] ["state"] (defScope s__law_some_forms) := ⟨rfl, rfl, rfl, by decide +kernel, rfl, by decide +kernel, by decide +kernel⟩
theorem ok__law_some_forms {k : Nat} (D : Def K mg "_law_some_forms" "_law_some_forms" s__law_some_forms ["state"]) (B : Bi mg) (c__law_draw : Cal P w K mg base CX0 k "_law_draw" ["state", "most"] (spDraw K))
    (c__law_some_form : Cal P w K mg base CX0 k "_law_some_form" ["state"] (spFrm K)) : Cal P w K mg base CX0 (k + 1) "_law_some_forms" ["state"] (spFrms K) := by
  refine D.cal fun f fd F => F.ok sc__law_some_forms (fun vs H Q E h => ?_) (fun cdv A outer s H vs Q E hr h => ?_)
  · obtain ⟨st, l, rfl, _⟩ := h
    rfl
  · obtain ⟨st, l, rfl, so, q⟩ := h
    have nd := sc__law_some_forms.nd
    refine ⟨_, (pss_one (ps_ret (pe_callTy call_tuple_of (by rfl) B.tuple (by decide +kernel) (pa_cons (pe_lc (own := [("k", 1)]) (by rfl) nd (pi_range1 (by rfl) B.range (pa_cons (pe_cal c__law_draw (Room.mono hr (by omega)) (by rfl) (pa_cons (pv 0) (pa_cons pe_int pa_nil))) pa_nil)) (blkOk_by (own := [("k", 1)]) (N := ["state", "k"]) (sc := defScope s__law_some_forms) (by decide +kernel)) (fun _ _ _ _ _ => (pg_name (i := 1) nd rfl (Or.inl rfl))) (fun _ _ _ _ _ => pts_nil) (fun _ _ _ _ _ => (pe_cal c__law_some_form (Room.mono hr (by omega)) (by rfl) (pa_cons (pv 0) pa_nil)))) pa_nil)))), ?_⟩
    tm_at "go"
    refine ⟨st, l, 3, rfl, so, by decide, by decide, fun r H1 r0 r1 b1 so1 => ?_⟩
    obtain ⟨j, rfl⟩ : ∃ j : Nat, r = (j : Int) := ⟨r.toNat, by omega⟩
    refine ⟨_, rfl, by omega, by omega, fun D nD => ?_⟩
    have nsD := so1.ne nD
    refine lc_it walk_range (fun i H' => But st H1 H' ∧ StOk K H' st l ∧ ∃ (vs : List V) (fs : List Form), H' D = some (.lst vs) ∧ Ims K H' vs (fs.map fD) ∧ fs.length = i ∧ ∀ f ∈ fs, FOk f) ⟨(same_new nD).but st, so1.new nD, [], [], upd_same, .nil, rfl, fun _ h => by cases h⟩ (fun _ _ _ _ => trivial) ?_ ?_
    · rintro i v Hx Hy hlt ⟨bx, sox, vs, fs, hDx, hi, hl, hc⟩ ⟨rfl, rfl⟩
      refine ⟨rfl, ?_⟩
      tm_at "go"
      refine fun f v H2 hf hv b2 so2 => ?_
      have hD2 : H2 D = some (.lst vs) := b2 _ _ nsD.symm hDx
      have hlv := hi.length
      rw [List.length_map] at hlv
      refine ⟨vs, hD2, small1000 (by omega), ?_⟩
      refine ⟨(bx.trans b2).new nD, so1.grow nD so2, _, fs ++ [f], upd_same, ?_, ?_, ?_⟩
      · rw [List.map_append]
        have t2 : TK H2 (upd H2 D (.lst (vs ++ [v]))) := TK.lst hD2
        exact Ims.snoc (((sox.tk b2).trans t2).ims hi) (t2.im hv)
      · rw [List.length_append, hl]
        rfl
      · intro p hp
        rcases List.mem_append.mp hp with y | y
        · exact hc p y
        · rw [List.mem_singleton] at y
          rw [y]
          exact hf
    · rintro H2 ⟨bx, sox, vs, fs, hDx, hi, hl, hc⟩
      refine ⟨D, vs, rfl, .inl ⟨SqL.of hDx, fun u nu => ?_⟩⟩
      exact q fs _ _ (by omega) hc (.tup (SqT.of upd_same) ((TK.new nu).ims hi)) ((b1.trans bx).new1 nu) (sox.new nu)
end
end C
set_option Elab.async false
set_option linter.all false
set_option pp.maxSteps 1500
set_option maxRecDepth 100000
set_option maxHeartbeats 4000000
namespace C
open PySem PySem.Spec PyProof.Rows L2 Kx M TL
local macro_rules | `(tactic| tm_at "same") => `(tactic| first
  | assumption
  | exact L2.Same.refl _
  | exact L2.Same.upd (by tm_at "same") (by tm_at "free")
  | exact sameTransR (by assumption) (by tm_at "same"))
local macro_rules | `(tactic| tm_at "free") => `(tactic| first
  | assumption
  | exact sameFreeR (by assumption) (by tm_at "same"))
local macro_rules | `(tactic| tm_at "but") => `(tactic| first
  | assumption
  | exact But.refl _ _
  | exact But.transR (by assumption) (by tm_at "but")
  | exact But.upd
  | exact But.self (by tm_at "but")
  | exact But.new1 (by tm_at "but") (by assumption)
  | exact But.new (by tm_at "but") (by tm_at "free")
  | exact L2.Same.but (by assumption) _)
local macro_rules | `(tactic| tm_at "fact") => `(tactic| first
  | exact upd_same
  | assumption
  | exact SqL.of upd_same
  | exact SqT.of upd_same
  | exact SqL.of (by assumption)
  | exact SqT.of (by assumption)
  | exact But.lstR (by assumption) (by assumption) (by tm_at "but"))
local macro_rules | `(tactic| tm_at "cond") => `(tactic| first
  | rfl
  | assumption
  | decide
  | omega
  | exact ⟨by decide, by decide⟩
  | exact .inr ⟨by decide, by decide⟩
  | exact .inl ⟨by decide, by decide⟩
  | exact ⟨by decide, by decide, by decide⟩
  | exact cdivw (by assumption) (by assumption)
  | exact log2_ok (by assumption)
  | exact Or.inl ⟨rfl, _, SqL.of upd_same⟩
  | exact Or.inl ⟨rfl, _, SqL.of (by assumption)⟩
  | exact ⟨_, rfl⟩
  | exact Nat.le_of_ble_eq_true rfl
  | exact small1000 (by omega))
local macro_rules | `(tactic| tm_at "prop") => `(tactic| first
  | assumption
  | omega)
local macro_rules | `(tactic| tm_at "s") => `(tactic| first
  | refine ⟨_, rfl, ?_⟩
  | refine ⟨_, _, rfl, rfl, ?_⟩
  | refine ⟨_, _, _, rfl, rfl, (by tm_at "fact"), (by tm_at "cond"), ?_⟩
  | refine ⟨_, _, _, _, rfl, rfl, (by tm_at "fact"), rfl, ?_⟩
  | refine ⟨_, _, rfl, (by tm_at "fact"), ?_⟩
  | refine And.intro (by tm_at "cond") ?_
  | refine .inl ⟨_, rfl, ?_⟩
  | refine ⟨_, _, rfl, .inl (by tm_at "fact"), ?_⟩
  | refine dec_false (by tm_at "prop") ?_
  | refine dec_true (by tm_at "prop") ?_
  | refine decN_false (by tm_at "prop") ?_
  | refine decN_true (by tm_at "prop") ?_
  | refine iteT ?_
  | refine iteF ?_
  | refine ⟨_, _, rfl, ?_⟩)
local macro_rules | `(tactic| tm_at "go") => `(tactic| repeat tm_at "s")

section
variable {P : Program} {w : World} {K : PySem.W.Frag} {mg : Str → Option Value} {base : Heap} {aH aR : Addr}
theorem atI_neg1 {xs : List V} {v : V} (h : xs[xs.length - 1]? = some v) : atI xs (-1) = some v := by
  cases e : xs.reverse with
  | nil =>
    rw [List.reverse_eq_nil_iff] at e
    subst e
    cases h
  | cons y r =>
    have e2 : xs = r.reverse ++ [y] := by
      rw [← List.reverse_reverse xs, e, List.reverse_cons]
    subst e2
    rw [List.length_append, List.length_singleton, Nat.add_sub_cancel, List.getElem?_append_right (Nat.le_refl _), Nat.sub_self] at h
    cases h
    exact atI_last _ _
/-! ### drawn pairs -/
def spPrs (K : PySem.W.Frag) : Sp := fun vs H Q _ => ∃ (st l : Addr), vs = [.ref st] ∧ StOk K H st l ∧ ∀ (ps : List (Str × Str)) v H', ps.length ≤ 3 → ps.Nodup → (∀ p ∈ ps, Wd p.1 ∧ Wd p.2) → Im K H' v (.tuple (ps.map qD)) → But st H H' → StOk K H' st l → Q v H'
theorem sc__law_some_pairs : FnScope ["state", "found", "k", "pair"] ["state"] (defScope s__law_some_pairs) := ⟨rfl, rfl, rfl, by decide +kernel, rfl, by decide +kernel, by decide +kernel⟩
theorem ok__law_some_pairs {k : Nat} (D : Def K mg "_law_some_pairs" "_law_some_pairs" s__law_some_pairs ["state"]) (B : Bi mg) (c__law_draw : Cal P w K mg base CX0 k "_law_draw" ["state", "most"] (spDraw K))
    (c__law_any_word : Cal P w K mg base CX0 k "_law_any_word" ["state"] (spGen K Wd)) : Cal P w K mg base CX0 (k + 1) "_law_some_pairs" ["state"] (spPrs K) := by
  refine D.cal fun f fd F => F.ok sc__law_some_pairs (fun vs H Q E h => ?_) (fun cdv A outer s H vs Q E hr h => ?_)
  · obtain ⟨st, l, rfl, _⟩ := h
    rfl
  · obtain ⟨st, l, rfl, so, q⟩ := h
    have nd := sc__law_some_pairs.nd
    refine ⟨_, (pss_cons (ps_set (i := 1) nd rfl (Or.inl rfl) (pe_lst pa_nil))
      (pss_cons (ps_for PassesOwn.never rfl (pi_range1 (by rfl) B.range (pa_cons (pe_cal c__law_draw (Room.mono hr (by omega)) (by rfl) (pa_cons (pv 0) (pa_cons pe_int pa_nil))) pa_nil)) (pg_name (i := 2) nd rfl (Or.inl rfl))
        (pss_cons (ps_set (i := 3) nd rfl (Or.inl rfl) (pe_tup (pa_cons (pe_cal c__law_any_word (Room.mono hr (by omega)) (by rfl) (pa_cons (pv 0) pa_nil)) (pa_cons (pe_cal c__law_any_word (Room.mono hr (by omega)) (by rfl) (pa_cons (pv 0) pa_nil)) pa_nil))))
        (C8.pss_cut (ps_if (PW.pt (pw_and (pt_cmpR op_eq (pe_cal c__law_draw (Room.mono hr (by omega)) (by rfl) (pa_cons (pv 0) (pa_cons pe_int pa_nil))) pe_int (nomark _)) (pw_and1 (pt_cmpR (op_neD hr.units) (pv 1) (pe_lst pa_nil) (nomark _)))))
          (pss_one (ps_set (i := 3) nd rfl (Or.inl rfl) (pe_tup (pa_cons (pe_ix ix_tup (pe_ix ix_list (pv 1) pe_int (fun _ _ => rfl)) pe_int (fun _ _ => rfl)) (pa_cons (pe_ix ix_tup (pe_ix ix_list (pv 1) (pe_un un_neg pe_int) (fun _ _ => rfl)) pe_int (fun _ _ => rfl)) pa_nil)))))
          pss_nil)
        (pss_one (ps_if (pt_cmpR (op_notInD (in_room hr)) (pv 3) (pv 1) (by rfl))
          (pss_one (ps_expr (pe_bm PySem.F.plainAttrs_list PySem.F.slot_list_append PySem.F.type_list_append mt_append (pv 1) (pa_cons (pv 3) pa_nil))))
          pss_nil)))))
      (pss_one (ps_ret (pe_callTy call_tuple_of (by rfl) B.tuple (by decide +kernel) (pa_cons (pv 1) pa_nil)))))), ?_⟩
    tm_at "go"
    refine fun a na => ?_
    tm_at "go"
    have nsa := so.ne na
    refine ⟨st, l, 4, rfl, so.new na, by decide, by decide, fun r H1 r0 r1 b1 so1 => ?_⟩
    have ha1 : H1 a = some (.lst []) := b1 _ _ nsa.symm upd_same
    have b01 : But st H H1 := ((same_new na).but st).trans b1
    obtain ⟨j, rfl⟩ : ∃ j : Nat, r = (j : Int) := ⟨r.toNat, by omega⟩
    refine ⟨_, rfl, by omega, by omega, ?_⟩
    refine for_it walk_range (fun i σ H' => ∃ v1 v2, σ = [some (.ref st), some (.ref a), v1, v2] ∧ But st H H' ∧ StOk K H' st l ∧ ∃ (vs : List V) (ps : List (Str × Str)), H' a = some (.lst vs) ∧ Ims K H' vs (ps.map qD) ∧ ps.length ≤ i ∧ ps.Nodup ∧ ∀ p ∈ ps, Wd p.1 ∧ Wd p.2) ⟨_, _, rfl, b01, so1, [], [], ha1, .nil, Nat.le_refl _, List.nodup_nil, fun _ h => by cases h⟩ (fun _ _ _ _ _ => trivial) ?_ ?_
    · rintro i v σ Hx Hy hlt ⟨v1, v2, rfl, bx, sox, vs, ps, hax, hi, hl, hn, hc⟩ ⟨rfl, rfl⟩
      have hlv := hi.length
      rw [List.length_map] at hlv
      have hok : ∀ p ∈ ps, Ok p.1 ∧ Ok p.2 := fun p hp => ⟨.of fun c h => ((hc p hp).1.2.2 c h).2, .of fun c h => ((hc p hp).2.2.2 c h).2⟩
      tm_at "go"
      refine fun z1 H2 hz1 b2 so2 => ?_
      tm_at "go"
      refine fun z2 H3 hz2 b3 so3 => ?_
      tm_at "go"
      refine fun t nt => ?_
      have ha3 : H3 a = some (.lst vs) := b3 _ _ nsa.symm (b2 _ _ nsa.symm hax)
      have ha3t : upd H3 t (.tup [.str z1, .str z2]) a = some (.lst vs) := by
        rw [upd_ne (ne_of_none ha3 nt)]
        exact ha3
      have k3 : TK Hy (upd H3 t (.tup [.str z1, .str z2])) := (sox.tk (b2.trans b3)).trans (TK.new nt)
      have nst3 := so3.ne nt
      refine ⟨fun σ H' => ∃ x y t' v5, σ = [some (.ref st), some (.ref a), v5, some (.ref t')] ∧ But st H H' ∧ StOk K H' st l ∧ H' a = some (.lst vs) ∧ Ims K H' vs (ps.map qD) ∧ Wd x ∧ Wd y ∧ H' t' = some (.tup [.str x, .str y]), ?_, ?_⟩
      · tm_at "go"
        refine ⟨st, l, 3, rfl, so3.new nt, by decide, by decide, fun r4 H4 r40 r41 b4 so4 => ?_⟩
        have ha4 := b4 _ _ nsa.symm ha3t
        have k4 : TK Hy H4 := k3.trans ((so3.new nt).tk b4)
        have ht4 : H4 t = some (.tup [.str z1, .str z2]) := b4 _ _ nst3.symm upd_same
        have bb4 : But st H H4 := (((bx.trans b2).trans b3).new1 nt).trans b4
        tm_at "go"
        refine ite2 (fun c => ?_) (fun c => ?_)
        · tm_at "go"
          refine fun p np => ?_
          have ha5 : upd H4 p (.lst []) a = some (.lst vs) := by
            rw [upd_ne (ne_of_none ha4 np)]
            exact ha4
          have k5 : TK Hy (upd H4 p (.lst [])) := k4.trans (TK.new np)
          refine ⟨.list (ps.map qD), .list [], .lst (SqL.of ha5) (Ims.dp _ (k5.ims hi)), .lst (SqL.of upd_same) .nil, shaped_qs hok, by decide, ?_⟩
          rw [eqv_qs_nil]
          refine ⟨_, rfl, ?_⟩
          refine ite2 (fun c2 => ?_) (fun c2 => ?_)
          · have hne : ps ≠ [] := fun e => by
              rw [decide_eq_true e] at c2
              exact absurd c2 (by decide)
            have h0 : 0 < ps.length := by
              cases ps with
              | nil => exact absurd rfl hne
              | cons _ _ => exact Nat.succ_pos _
            obtain ⟨w0, hw0, iw0⟩ := Ims.get' hi (i := 0) (d := qD ps[0]) (by rw [List.getElem?_map, List.getElem?_eq_getElem h0]; rfl)
            obtain ⟨w1, hw1, iw1⟩ := Ims.get' hi (i := ps.length - 1) (d := qD ps[ps.length - 1]) (by rw [List.getElem?_map, List.getElem?_eq_getElem (by omega)]; rfl)
            obtain ⟨t0, rfl, ht0⟩ := qD_inv (k5.im iw0)
            obtain ⟨t1, rfl, ht1⟩ := qD_inv (k5.im iw1)
            have e0 : atI vs 0 = some (.ref t0) := atI_nat (j := 0) hw0
            have e1 : atI vs (-1) = some (.ref t1) := atI_neg1 (by rw [hlv]; exact hw1)
            tm_at "go"
            refine ⟨_, _, _, _, rfl, rfl, SqL.of ha5, e0, ?_⟩
            tm_at "go"
            refine ⟨_, _, _, _, rfl, rfl, SqL.of ha5, e1, ?_⟩
            tm_at "go"
            refine fun t6 nt6 => ?_
            have hm0 := hc _ (List.getElem_mem h0)
            have hm1 := hc _ (List.getElem_mem (show ps.length - 1 < ps.length by omega))
            have ha6 : upd (upd H4 p (.lst [])) t6 (.tup [.str ps[0].2, .str ps[ps.length - 1].1]) a = some (.lst vs) := by
              rw [upd_ne (ne_of_none ha5 nt6)]
              exact ha5
            exact ⟨_, _, t6, _, rfl, (bb4.new1 np).new1 nt6, (so4.new np).new nt6, ha6, (k5.trans (TK.new nt6)).ims hi, hm0.2, hm1.1, upd_same⟩
          · tm_at "go"
            exact ⟨z1, z2, t, _, rfl, bb4.new1 np, so4.new np, ha5, k5.ims hi, hz1, hz2, same_new np _ _ ht4⟩
        · refine iteF ?_
          exact ⟨z1, z2, t, _, rfl, bb4, so4, ha4, k4.ims hi, hz1, hz2, ht4⟩
      · rintro σ H4 ⟨x, y, t2, v5, rfl, b4, so4, ha4, hi4, hx, hy, ht2⟩
        have hoxy : Ok x ∧ Ok y := ⟨.of fun c h => (hx.2.2 c h).2, .of fun c h => (hy.2.2 c h).2⟩
        tm_at "go"
        refine ⟨qD (x, y), ps.map qD, Im.dp _ (qD_of (p := (x, y)) (SqT.of ht2)), .lst (SqL.of ha4) (Ims.dp _ hi4), shaped_q hoxy, shaped_qs hok, ?_⟩
        rw [any_q]
        refine ⟨_, rfl, ?_⟩
        refine ite2 (fun c2 => ?_) (fun c2 => ?_)
        · have hnm : (x, y) ∉ ps := fun e => by
            rw [decide_eq_true e] at c2
            exact absurd c2 (by decide)
          refine ⟨_, rfl, ?_⟩
          tm_at "s"
          refine ⟨_, rfl, _, _, _, rfl, rfl, ha4, small1000 (by omega), ?_⟩
          refine ⟨_, _, rfl, b4.new na, so.grow na so4, _, ps ++ [(x, y)], upd_same, ?_, ?_, ?_, ?_⟩
          · rw [List.map_append]
            exact (TK.lst ha4).ims (Ims.snoc hi4 (qD_of (p := (x, y)) (SqT.of ht2)))
          · rw [List.length_append]
            show ps.length + 1 ≤ i + 1
            omega
          · rw [List.nodup_append]
            exact ⟨hn, List.pairwise_singleton _ _, fun a ha b hb e => hnm (by
              rw [List.mem_singleton] at hb
              rw [← hb, ← e]
              exact ha)⟩
          · intro p hp
            rcases List.mem_append.mp hp with z | z
            · exact hc p z
            · rw [List.mem_singleton] at z
              rw [z]
              exact ⟨hx, hy⟩
        · exact ⟨_, _, rfl, b4, so4, vs, ps, ha4, hi4, by omega, hn, hc⟩
    · rintro σ H2 ⟨v1, v2, rfl, bx, sox, vs, ps, hax, hi, hl, hn, hc⟩
      refine ⟨_, rfl, a, vs, rfl, .inl ⟨SqL.of hax, fun u nu => ?_⟩⟩
      exact q ps _ _ (by omega) hn hc (.tup (SqT.of upd_same) ((TK.new nu).ims hi)) (bx.new1 nu) (sox.new nu)
end
end C
set_option Elab.async false
set_option linter.all false
set_option pp.maxSteps 1500
set_option maxRecDepth 100000
set_option maxHeartbeats 4000000
namespace C
open PySem PySem.Spec PyProof.Rows L2 Kx M TL
local macro_rules | `(tactic| tm_at "same") => `(tactic| first
  | assumption
  | exact L2.Same.refl _
  | exact L2.Same.upd (by tm_at "same") (by tm_at "free")
  | exact sameTransR (by assumption) (by tm_at "same"))
local macro_rules | `(tactic| tm_at "free") => `(tactic| first
  | assumption
  | exact sameFreeR (by assumption) (by tm_at "same"))
local macro_rules | `(tactic| tm_at "but") => `(tactic| first
  | assumption
  | exact But.refl _ _
  | exact But.transR (by assumption) (by tm_at "but")
  | exact But.upd
  | exact But.self (by tm_at "but")
  | exact But.new1 (by tm_at "but") (by assumption)
  | exact But.new (by tm_at "but") (by tm_at "free")
  | exact L2.Same.but (by assumption) _)
local macro_rules | `(tactic| tm_at "fact") => `(tactic| first
  | exact upd_same
  | assumption
  | exact SqL.of upd_same
  | exact SqT.of upd_same
  | exact SqL.of (by assumption)
  | exact SqT.of (by assumption)
  | exact But.lstR (by assumption) (by assumption) (by tm_at "but"))
local macro_rules | `(tactic| tm_at "cond") => `(tactic| first
  | rfl
  | assumption
  | decide
  | omega
  | exact ⟨by decide, by decide⟩
  | exact .inr ⟨by decide, by decide⟩
  | exact .inl ⟨by decide, by decide⟩
  | exact ⟨by decide, by decide, by decide⟩
  | exact cdivw (by assumption) (by assumption)
  | exact log2_ok (by assumption)
  | exact Or.inl ⟨rfl, _, SqL.of upd_same⟩
  | exact Or.inl ⟨rfl, _, SqL.of (by assumption)⟩
  | exact ⟨_, rfl⟩
  | exact Nat.le_of_ble_eq_true rfl
  | exact small1000 (by omega))
local macro_rules | `(tactic| tm_at "prop") => `(tactic| first
  | assumption
  | omega)
local macro_rules | `(tactic| tm_at "s") => `(tactic| first
  | refine ⟨_, rfl, ?_⟩
  | refine ⟨_, _, rfl, rfl, ?_⟩
  | refine ⟨_, _, _, rfl, rfl, (by tm_at "fact"), (by tm_at "cond"), ?_⟩
  | refine ⟨_, _, _, _, rfl, rfl, (by tm_at "fact"), rfl, ?_⟩
  | refine ⟨_, _, rfl, (by tm_at "fact"), ?_⟩
  | refine And.intro (by tm_at "cond") ?_
  | refine .inl ⟨_, rfl, ?_⟩
  | refine ⟨_, _, rfl, .inl (by tm_at "fact"), ?_⟩
  | refine dec_false (by tm_at "prop") ?_
  | refine dec_true (by tm_at "prop") ?_
  | refine decN_false (by tm_at "prop") ?_
  | refine decN_true (by tm_at "prop") ?_
  | refine iteT ?_
  | refine iteF ?_
  | refine ⟨_, _, rfl, ?_⟩)
local macro_rules | `(tactic| tm_at "go") => `(tactic| repeat tm_at "s")

section
variable {P : Program} {w : World} {K : PySem.W.Frag} {mg : Str → Option Value} {base : Heap} {aH aR : Addr}
/-! ### the rules -/
def spRules : Sp := fun vs H Q _ => vs = [] ∧ ∀ a H', Same H H' → H a = none → H' a = some (.lst (rules7.map V.str)) → Q (.ref a) H'
theorem sc__law_rules : FnScope ["first"] [] (defScope s__law_rules) := ⟨rfl, rfl, rfl, by decide +kernel, rfl, by decide +kernel, by decide +kernel⟩
theorem ok__law_rules {k : Nat} (D : Def K mg "_law_rules" "_law_rules" s__law_rules []) (B : Bi mg) : Cal P w K mg base CX0 (k + 1) "_law_rules" [] spRules := by
  refine D.cal fun f fd F => F.ok sc__law_rules (fun vs H Q E h => ?_) (fun cdv A outer s H vs Q E hr h => ?_)
  · obtain ⟨rfl, _⟩ := h
    rfl
  · obtain ⟨rfl, q⟩ := h
    have nd := sc__law_rules.nd
    refine ⟨_, (pss_cons (ps_set (i := 0) nd rfl (Or.inl rfl) (pe_lst (pa_cons pe_str (pa_cons pe_str (pa_cons pe_str (pa_cons pe_str pa_nil))))))
      (pss_one (ps_ret (pe_op op_cat (pv 0) (pe_lst (pa_cons pe_str (pa_cons pe_str (pa_cons pe_str pa_nil)))))))), ?_⟩
    tm_at "go"
    refine fun a na => ?_
    tm_at "go"
    refine fun b nb => ?_
    tm_at "go"
    refine ⟨a, b, [.str "lockstep", .str "pauses alone", .str "left begins", .str "right begins"], [.str "meet at whiles", .str "calls alone", .str "left first"], rfl, rfl, ?_, upd_same, by decide, fun c nc => ?_⟩
    · rw [upd_ne (ne_of_none upd_same nb), upd_same]
    · exact q c _ (by tm_at "same") (by tm_at "free") upd_same
/-! ### a drawn row -/
theorem ims_tup {K : PySem.W.Frag} {α : Type} {g : α → PyData} {H : Hp} {xs : List V} {fss : List (List α)} (h : Ims K H xs (fss.map fun fs => PyData.tuple (fs.map g))) {i : Nat} (hi : i < fss.length) : ∃ v, xs[i]? = some v ∧ Im K H v (.tuple (fss[i].map g)) :=
  Ims.get' h (i := i) (d := .tuple (fss[i].map g)) (by rw [List.getElem?_map, List.getElem?_eq_getElem hi]; rfl)

def spRow (K : PySem.W.Frag) : Sp := fun vs H Q _ => ∃ (st l : Addr), vs = [.ref st] ∧ StOk K H st l ∧ ∀ (r : M.Row) v H', r.Ok → Im K H' v (rD r) → But st H H' → StOk K H' st l → Q v H'
theorem sc__law_some_row : FnScope ["state", "forms", "k", "pairs", "rule", "claim"] ["state"] (defScope s__law_some_row) := ⟨rfl, rfl, rfl, by decide +kernel, rfl, by decide +kernel, by decide +kernel⟩
theorem ok__law_some_row {k : Nat} (D : Def K mg "_law_some_row" "_law_some_row" s__law_some_row ["state"]) (B : Bi mg)
    (c__law_one_of : Cal P w K mg base CX0 k "_law_one_of" ["state", "items"] (spOneOf K)) (c__law_any_word : Cal P w K mg base CX0 k "_law_any_word" ["state"] (spGen K Wd))
    (c__law_some_forms : Cal P w K mg base CX0 k "_law_some_forms" ["state"] (spFrms K)) (c__law_some_pairs : Cal P w K mg base CX0 k "_law_some_pairs" ["state"] (spPrs K))
    (c__law_rules : Cal P w K mg base CX0 k "_law_rules" [] spRules) : Cal P w K mg base CX0 (k + 1) "_law_some_row" ["state"] (spRow K) := by
  refine D.cal fun f fd F => F.ok sc__law_some_row (fun vs H Q E h => ?_) (fun cdv A outer s H vs Q E hr h => ?_)
  · obtain ⟨st, l, rfl, _⟩ := h
    rfl
  · obtain ⟨st, l, rfl, so, q⟩ := h
    have nd := sc__law_some_row.nd
    refine ⟨_, (pss_cons (ps_setLc (i := 1) (own := [("k", 2)]) rfl nd rfl rfl (sw_true rfl rfl rfl (by decide +kernel)) (pi_range1 (by rfl) B.range (pa_cons pe_int pa_nil)) (blkOk_by (own := [("k", 2)]) (N := ["state", "forms", "k", "pairs", "rule", "claim"]) (sc := defScope s__law_some_row) (by decide +kernel)) (fun _ _ _ _ _ => (pg_name (i := 2) nd rfl (Or.inl rfl))) (fun _ _ _ _ _ => pts_nil) (fun _ _ _ _ _ => (pe_cal c__law_some_forms (Room.mono hr (by omega)) (by rfl) (pa_cons (pv 0) pa_nil))))
      (pss_cons (ps_setLc (i := 3) (own := [("k", 2)]) rfl nd rfl rfl (sw_true rfl rfl rfl (by decide +kernel)) (pi_range1 (by rfl) B.range (pa_cons pe_int pa_nil)) (blkOk_by (own := [("k", 2)]) (N := ["state", "forms", "k", "pairs", "rule", "claim"]) (sc := defScope s__law_some_row) (by decide +kernel)) (fun _ _ _ _ _ => (pg_name (i := 2) nd rfl (Or.inl rfl))) (fun _ _ _ _ _ => pts_nil) (fun _ _ _ _ _ => (pe_cal c__law_some_pairs (Room.mono hr (by omega)) (by rfl) (pa_cons (pv 0) pa_nil))))
      (pss_cons (ps_set (i := 4) nd rfl (Or.inl rfl) (pe_cal c__law_one_of (Room.mono hr (by omega)) (by rfl) (pa_cons (pv 0) (pa_cons (pe_op op_cat (pe_cal0 c__law_rules (Room.mono hr (by omega)) (by rfl)) (pe_lst (pa_cons pe_str (pa_cons pe_str (pa_cons pe_str pa_nil))))) pa_nil))))
      (pss_cons (ps_set (i := 5) nd rfl (Or.inl rfl) (pe_tup (pa_cons (pe_cal c__law_any_word (Room.mono hr (by omega)) (by rfl) (pa_cons (pv 0) pa_nil)) (pa_cons (pe_cal c__law_any_word (Room.mono hr (by omega)) (by rfl) (pa_cons (pv 0) pa_nil)) (pa_cons (pe_ix ix_list (pv 1) pe_int (fun _ _ => rfl)) (pa_cons (pe_ix ix_list (pv 3) pe_int (fun _ _ => rfl)) (pa_cons (pe_ix ix_list (pv 1) pe_int (fun _ _ => rfl)) (pa_cons (pe_ix ix_list (pv 3) pe_int (fun _ _ => rfl)) pa_nil))))))))
      (pss_one (ps_ret (pe_tup (pa_cons (pv 5) (pa_cons (pe_ix ix_list (pv 1) pe_int (fun _ _ => rfl)) (pa_cons (pv 4) pa_nil)))))))))), ?_⟩
    tm_at "go"
    refine fun D nD => ?_
    have nsD := so.ne nD
    refine lc_it walk_range (fun i H' => But st H H' ∧ StOk K H' st l ∧ ∃ (vs : List V) (fss : List (List Form)), H' D = some (.lst vs) ∧ Ims K H' vs (fss.map fun fs => PyData.tuple (fs.map fD)) ∧ fss.length = i ∧ ∀ fs ∈ fss, fs.length ≤ 2 ∧ ∀ f ∈ fs, FOk f) ⟨(same_new nD).but st, so.new nD, [], [], upd_same, .nil, rfl, fun _ h => by cases h⟩ (fun _ _ _ _ => trivial) ?_ ?_
    · rintro i v Hx Hy hlt ⟨bx, sox, vs, fss, hDx, hi, hl, hc⟩ ⟨rfl, rfl⟩
      refine ⟨rfl, ?_⟩
      tm_at "go"
      refine fun fs v H2 hfl hf hv b2 so2 => ?_
      have hD2 : H2 D = some (.lst vs) := b2 _ _ nsD.symm hDx
      have hlv := hi.length
      rw [List.length_map] at hlv
      refine ⟨vs, hD2, small1000 (by omega), ?_⟩
      refine ⟨(bx.trans b2).new nD, so.grow nD so2, _, fss ++ [fs], upd_same, ?_, ?_, ?_⟩
      · rw [List.map_append]
        have t2 : TK H2 (upd H2 D (.lst (vs ++ [v]))) := TK.lst hD2
        exact Ims.snoc (((sox.tk b2).trans t2).ims hi) (t2.im hv)
      · rw [List.length_append, hl]
        rfl
      · intro p hp
        rcases List.mem_append.mp hp with y | y
        · exact hc p y
        · rw [List.mem_singleton] at y
          rw [y]
          exact ⟨hfl, hf⟩
    rintro H1 ⟨b1, so1, vs, fss, hD1, hi1, hl1, hc1⟩
    tm_at "go"
    refine fun G nG => ?_
    have nsG := so1.ne nG
    have nDG : D ≠ G := ne_of_none hD1 nG
    refine lc_it walk_range (fun i H' => But st H1 H' ∧ StOk K H' st l ∧ H' D = some (.lst vs) ∧ ∃ (ws : List V) (pss : List (List (Str × Str))), H' G = some (.lst ws) ∧ Ims K H' ws (pss.map fun fs => PyData.tuple (fs.map qD)) ∧ pss.length = i ∧ ∀ ps ∈ pss, ps.length ≤ 3 ∧ ps.Nodup ∧ ∀ p ∈ ps, Wd p.1 ∧ Wd p.2) ⟨(same_new nG).but st, so1.new nG, by rw [upd_ne nDG]; exact hD1, [], [], upd_same, .nil, rfl, fun _ h => by cases h⟩ (fun _ _ _ _ => trivial) ?_ ?_
    · rintro i v Hx Hy hlt ⟨bx, sox, hDx, ws, pss, hGx, hi, hl, hc⟩ ⟨rfl, rfl⟩
      refine ⟨rfl, ?_⟩
      tm_at "go"
      refine fun fs v H2 hfl hfn hf hv b2 so2 => ?_
      have hG2 : H2 G = some (.lst ws) := b2 _ _ nsG.symm hGx
      have hlv := hi.length
      rw [List.length_map] at hlv
      refine ⟨ws, hG2, small1000 (by omega), ?_⟩
      refine ⟨(bx.trans b2).new nG, so1.grow nG so2, by rw [upd_ne nDG]; exact b2 _ _ nsD.symm hDx, _, pss ++ [fs], upd_same, ?_, ?_, ?_⟩
      · rw [List.map_append]
        have t2 : TK H2 (upd H2 G (.lst (ws ++ [v]))) := TK.lst hG2
        exact Ims.snoc (((sox.tk b2).trans t2).ims hi) (t2.im hv)
      · rw [List.length_append, hl]
        rfl
      · intro p hp
        rcases List.mem_append.mp hp with y | y
        · exact hc p y
        · rw [List.mem_singleton] at y
          rw [y]
          exact ⟨hfl, hfn, hf⟩
    rintro H2 ⟨b2, so2, hD2, ws, pss, hG2, hi2, hl2, hc2⟩
    have hi1' := (so1.tk b2).ims hi1
    tm_at "go"
    refine fun ra H3 s3 nra hra => ?_
    tm_at "go"
    refine fun rb nrb => ?_
    refine ⟨ra, rb, rules7.map V.str, [.str "any", .str "any", .str "any"], rfl, rfl, ?_, upd_same, by decide, fun rc nrc => ?_⟩
    · rw [upd_ne (ne_of_none hra nrb)]
      exact hra
    refine ⟨st, l, rc, rules7 ++ [S "any", S "any", S "any"], rfl, ((so2.same s3).new nrb).new nrc, SqL.of upd_same, by decide, by decide, fun rule H4 hru b4 so4 => ?_⟩
    have b24 : But st H2 H4 := (((s3.but st).new1 nrb).new1 nrc).trans b4
    tm_at "go"
    refine fun za H5 hza b5 so5 => ?_
    tm_at "go"
    refine fun zb H6 hzb b6 so6 => ?_
    have b26 : But st H2 H6 := (b24.trans b5).trans b6
    have hD6 := b26 _ _ nsD.symm hD2
    have hG6 := b26 _ _ nsG.symm hG2
    have k6 : TK H2 H6 := so2.tk b26
    obtain ⟨v0, e0, i0⟩ := ims_tup (k6.ims hi1') (i := 0) (by omega)
    obtain ⟨v1, e1, i1⟩ := ims_tup (k6.ims hi1') (i := 1) (by omega)
    obtain ⟨v2, e2, i2⟩ := ims_tup (k6.ims hi1') (i := 2) (by omega)
    obtain ⟨u0, f0, j0⟩ := ims_tup (k6.ims hi2) (i := 0) (by omega)
    obtain ⟨u1, f1, j1⟩ := ims_tup (k6.ims hi2) (i := 1) (by omega)
    tm_at "go"
    refine ⟨_, _, _, _, rfl, rfl, SqL.of hD6, atI_nat (j := 0) e0, ?_⟩
    tm_at "go"
    refine ⟨_, _, _, _, rfl, rfl, SqL.of hG6, atI_nat (j := 0) f0, ?_⟩
    tm_at "go"
    refine ⟨_, _, _, _, rfl, rfl, SqL.of hD6, atI_nat (j := 1) e1, ?_⟩
    tm_at "go"
    refine ⟨_, _, _, _, rfl, rfl, SqL.of hG6, atI_nat (j := 1) f1, ?_⟩
    tm_at "go"
    refine fun t nt => ?_
    have hD7 : upd H6 t (.tup [.str za, .str zb, v0, u0, v1, u1]) D = some (.lst vs) := by
      rw [upd_ne (ne_of_none hD6 nt)]
      exact hD6
    tm_at "go"
    refine ⟨_, _, _, _, rfl, rfl, SqL.of hD7, atI_nat (j := 2) e2, ?_⟩
    tm_at "go"
    refine fun u nu => ?_
    have k7 := TK.new (o := .tup [.str za, .str zb, v0, u0, v1, u1]) nt
    have k8 := k7.trans (TK.new (o := .tup [.ref t, v2, .str rule]) nu)
    have c0 := hc1 _ (List.getElem_mem (show 0 < fss.length by omega))
    have c1 := hc1 _ (List.getElem_mem (show 1 < fss.length by omega))
    have c2 := hc1 _ (List.getElem_mem (show 2 < fss.length by omega))
    have d0 := hc2 _ (List.getElem_mem (show 0 < pss.length by omega))
    have d1 := hc2 _ (List.getElem_mem (show 1 < pss.length by omega))
    refine q ⟨za, zb, fss[0], pss[0], fss[1], pss[1], fss[2], rule⟩ _ _ ⟨hza, hzb, c0.1, c0.2, d0.1, d0.2.1, d0.2.2, c1.1, c1.2, d1.1, d1.2.1, d1.2.2, c2.1, c2.2, hru⟩ ?_ ((((b1.trans b2).trans b26).new1 nt).new1 nu) ((so6.new nt).new nu)
    refine .tup (SqT.of upd_same) (.cons (.tup (SqT.of (xs := [.str za, .str zb, v0, u0, v1, u1]) ?_) ?_) (.cons (k8.im i2) (.cons (.str _) .nil)))
    · rw [upd_ne (ne_of_none upd_same nu), upd_same]
    · exact .cons (.str _) (.cons (.str _) (.cons (k8.im i0) (.cons (k8.im j0) (.cons (k8.im i1) (.cons (k8.im j1) .nil)))))
end
end C
set_option Elab.async false
set_option linter.all false
set_option pp.maxSteps 1500
set_option maxRecDepth 100000
set_option maxHeartbeats 4000000
namespace C
open PySem PySem.Spec PyProof.Rows L2 Kx M TL
local macro_rules | `(tactic| tm_at "same") => `(tactic| first
  | assumption
  | exact L2.Same.refl _
  | exact L2.Same.upd (by tm_at "same") (by tm_at "free")
  | exact sameTransR (by assumption) (by tm_at "same"))
local macro_rules | `(tactic| tm_at "free") => `(tactic| first
  | assumption
  | exact sameFreeR (by assumption) (by tm_at "same"))
local macro_rules | `(tactic| tm_at "but") => `(tactic| first
  | assumption
  | exact But.refl _ _
  | exact But.transR (by assumption) (by tm_at "but")
  | exact But.upd
  | exact But.self (by tm_at "but")
  | exact But.new1 (by tm_at "but") (by assumption)
  | exact But.new (by tm_at "but") (by tm_at "free")
  | exact L2.Same.but (by assumption) _)
local macro_rules | `(tactic| tm_at "fact") => `(tactic| first
  | exact upd_same
  | assumption
  | exact SqL.of upd_same
  | exact SqT.of upd_same
  | exact SqL.of (by assumption)
  | exact SqT.of (by assumption)
  | exact But.lstR (by assumption) (by assumption) (by tm_at "but"))
local macro_rules | `(tactic| tm_at "cond") => `(tactic| first
  | rfl
  | assumption
  | decide
  | omega
  | exact ⟨by decide, by decide⟩
  | exact .inr ⟨by decide, by decide⟩
  | exact .inl ⟨by decide, by decide⟩
  | exact ⟨by decide, by decide, by decide⟩
  | exact cdivw (by assumption) (by assumption)
  | exact log2_ok (by assumption)
  | exact Or.inl ⟨rfl, _, SqL.of upd_same⟩
  | exact Or.inl ⟨rfl, _, SqL.of (by assumption)⟩
  | exact ⟨_, rfl⟩
  | exact Nat.le_of_ble_eq_true rfl
  | exact small1000 (by omega))
local macro_rules | `(tactic| tm_at "prop") => `(tactic| first
  | assumption
  | omega)
local macro_rules | `(tactic| tm_at "s") => `(tactic| first
  | refine ⟨_, rfl, ?_⟩
  | refine ⟨_, _, rfl, rfl, ?_⟩
  | refine ⟨_, _, _, rfl, rfl, (by tm_at "fact"), (by tm_at "cond"), ?_⟩
  | refine ⟨_, _, _, _, rfl, rfl, (by tm_at "fact"), rfl, ?_⟩
  | refine ⟨_, _, rfl, (by tm_at "fact"), ?_⟩
  | refine And.intro (by tm_at "cond") ?_
  | refine .inl ⟨_, rfl, ?_⟩
  | refine ⟨_, _, rfl, .inl (by tm_at "fact"), ?_⟩
  | refine dec_false (by tm_at "prop") ?_
  | refine dec_true (by tm_at "prop") ?_
  | refine decN_false (by tm_at "prop") ?_
  | refine decN_true (by tm_at "prop") ?_
  | refine iteT ?_
  | refine iteF ?_
  | refine ⟨_, _, rfl, ?_⟩)
local macro_rules | `(tactic| tm_at "go") => `(tactic| repeat tm_at "s")

section
variable {P : Program} {w : World} {K : PySem.W.Frag} {mg : Str → Option Value} {base : Heap} {aH aR : Addr}
/-! ### a form as the law writes it -/
def bD (p : Str × Int) : PyData := .tuple [.bool (decide (p.2 < 0)), .str (tm p.1 p.2.natAbs)]
theorem bD_inv {K : PySem.W.Frag} {H : Hp} {v : V} {p : Str × Int} (h : Im K H v (bD p)) : ∃ t, v = .ref t ∧ SqT K H t [.bl (decide (p.2 < 0)), .str (tm p.1 p.2.natAbs)] := by
  obtain ⟨t, ts, rfl, ht, hts⟩ := Im.tup_inv h
  obtain ⟨v3, r3, rfl, h3, hr3⟩ := Ims.cons_inv hts
  obtain ⟨v4, r4, rfl, h4, hr4⟩ := Ims.cons_inv hr3
  obtain rfl := Ims.nil_inv hr4
  obtain rfl := Im.bl_inv h3
  obtain rfl := Im.str_inv h4
  exact ⟨t, rfl, ht⟩
theorem bD_of {K : PySem.W.Frag} {H : Hp} {t : Addr} {p : Str × Int} (h : SqT K H t [.bl (decide (p.2 < 0)), .str (tm p.1 p.2.natAbs)]) : Im K H (.ref t) (bD p) := .tup h (.cons (.bl _) (.cons (.str _) .nil))
theorem shaped_bs {ps : List (Str × Int)} (h : ∀ p ∈ ps, POk p) : SeqAt.shaped (.list (ps.map bD)) = true := by
  have h1 : PyData.canLayAll0 (ps.map bD) = true := by
    induction ps with
    | nil =>
      unfold PyData.canLayAll0
      rfl
    | cons p r ih =>
      rw [List.map_cons]
      unfold PyData.canLayAll0
      rw [ih fun q hq => h q (List.mem_cons_of_mem _ hq)]
      have hk : M.Ok (tm p.1 p.2.natAbs) := .of fun c hc => by
        have big : ∀ d ∈ 42 :: (nh ++ dg), d ≤ 126 := by decide +kernel
        rcases tm_mem (h p (List.mem_cons_self ..)) c hc with z | z | z
        · exact big c (List.mem_cons_of_mem _ (List.mem_append_left _ z))
        · exact big c (List.mem_cons_of_mem _ (List.mem_append_right _ z))
        · rw [z]
          decide
      have h2 : PyData.canLay0 (bD p) = true := by
        unfold bD
        simp only [PyData.canLay0, PyData.canLayAll0]
        rw [show PyData.strOk (tm p.1 p.2.natAbs) = true from hk]
        rfl
      rw [h2]
      rfl
  have h2 : PyData.depthAll (ps.map bD) ≤ 3 := by
    clear h h1
    induction ps with
    | nil =>
      unfold PyData.depthAll
      exact Nat.zero_le _
    | cons p r ih =>
      rw [List.map_cons]
      unfold PyData.depthAll
      refine Nat.max_le.mpr ⟨?_, ih⟩
      unfold bD
      simp only [PyData.depth, PyData.depthAll]
      decide
  unfold SeqAt.shaped
  rw [show PyData.canLay0 (.list (ps.map bD)) = PyData.canLayAll0 (ps.map bD) by simp only [PyData.canLay0], h1]
  have h3 : PyData.depth (.list (ps.map bD)) = PyData.depthAll (ps.map bD) + 1 := by simp only [PyData.depth]
  rw [h3, decide_eq_true (by omega)]
  rfl
theorem eqv_bs_nil (ps : List (Str × Int)) : PyData.eqv (.list (ps.map bD)) (.list []) = decide (ps = []) := by
  cases ps with
  | nil => simp only [List.map_nil, PyData.eqv, PyData.eqvAll]; rfl
  | cons p r => simp only [List.map_cons, PyData.eqv, PyData.eqvAll]; rfl
theorem at_b {α : Type} (x y : α) (b : Bool) : atI [x, y] (if b = true then 1 else 0) = some (if b = true then y else x) := by
  cases b with
  | false => exact atI_nat (j := 0) rfl
  | true => exact atI_nat (j := 1) rfl
theorem abs_one {z : Int} : decide (V.int ((z.natAbs : Nat) : Int) = V.int 1) = decide (z.natAbs = 1) := by
  by_cases h : z.natAbs = 1
  · rw [h]
    rfl
  · rw [decide_eq_false h, decide_eq_false (fun e => h (by
      have := V.int.inj e
      omega))]
theorem sc__law_written : FnScope ["f", "parts", "name", "number", "text", "back", "term"] ["f"] (defScope s__law_written) := ⟨rfl, rfl, rfl, by decide +kernel, rfl, by decide +kernel, by decide +kernel⟩
theorem ok__law_written {k : Nat} (D : Def K mg "_law_written" "_law_written" s__law_written ["f"]) (B : Bi mg) : Cal P w K mg base CX0 (k + 1) "_law_written" ["f"] (spWriteForm K) := by
  refine D.cal fun f fd F => F.ok sc__law_written (fun vs H Q E h => ?_) (fun cdv A outer s H vs Q E hr h => ?_)
  · obtain ⟨v, f, rfl, _⟩ := h
    rfl
  · obtain ⟨v, g, rfl, hv, hg, q⟩ := h
    have nd := sc__law_written.nd
    obtain ⟨t, u, xs, rfl, ht, hu, hx⟩ := fD_inv hv
    have hxl := hx.length
    rw [List.length_map] at hxl
    have hgl := hg.len
    have hPO := terms_ok hg
    have htl := terms_len hg
    refine ⟨_, (pss_cons (ps_set (i := 1) nd rfl (Or.inl rfl) (pe_lst pa_nil))
      (pss_cons (ps_for PassesOwn.never rfl (pi_tup (pe_ix ix_tup (pv 0) pe_int (fun _ _ => rfl))) (pg_tup rfl (pgs_cons (pg_name (i := 2) nd rfl (Or.inl rfl)) (pgs_cons (pg_name (i := 3) nd rfl (Or.inl rfl)) pgs_nil)))
        (pss_one (ps_if (pt_cmpR op_eq (pe_callB call_abs (by rfl) B.abs (by decide +kernel) (pa_cons (pv 3) pa_nil)) pe_int (nomark _))
          (pss_one (ps_expr (pe_bm PySem.F.plainAttrs_list PySem.F.slot_list_append PySem.F.type_list_append mt_append (pv 1) (pa_cons (pe_tup (pa_cons (pe_cmpR op_lt (pv 3) pe_int (nomark _)) (pa_cons (pv 2) pa_nil))) pa_nil))))
          (pss_one (ps_expr (pe_bm PySem.F.plainAttrs_list PySem.F.slot_list_append PySem.F.type_list_append mt_append (pv 1) (pa_cons (pe_tup (pa_cons (pe_cmpR op_lt (pv 3) pe_int (nomark _)) (pa_cons (pe_op op_add_str (pe_op op_add_str (pe_callTy call_str_int (by rfl) B.str (by decide +kernel) (pa_cons (pe_callB call_abs (by rfl) B.abs (by decide +kernel) (pa_cons (pv 3) pa_nil)) pa_nil)) pe_str) (pv 2)) pa_nil))) pa_nil)))))))
      (C8.pss_cut (ps_if (PW.pt (pw_or (pt_cmpR op_ne (pe_ix ix_tup (pv 0) pe_int (fun _ _ => rfl)) pe_int (nomark _)) (pw_or1 (pt_cmpR (op_eqD hr.units) (pv 1) (pe_lst pa_nil) (nomark _)))))
        (pss_one (ps_expr (pe_bm PySem.F.plainAttrs_list PySem.F.slot_list_append PySem.F.type_list_append mt_append (pv 1) (pa_cons (pe_tup (pa_cons (pe_cmpR op_lt (pe_ix ix_tup (pv 0) pe_int (fun _ _ => rfl)) pe_int (nomark _)) (pa_cons (pe_callTy call_str_int (by rfl) B.str (by decide +kernel) (pa_cons (pe_callB call_abs (by rfl) B.abs (by decide +kernel) (pa_cons (pe_ix ix_tup (pv 0) pe_int (fun _ _ => rfl)) pa_nil)) pa_nil)) pa_nil))) pa_nil))))
        pss_nil)
      (pss_cons (ps_set (i := 4) nd rfl (Or.inl rfl) (pe_op op_add_str (pe_ix ix_list (pe_lst (pa_cons pe_str (pa_cons pe_str pa_nil))) (pe_callTy call_int1 (by rfl) B.int (by decide +kernel) (pa_cons (pe_ix ix_tup (pe_ix ix_list (pv 1) pe_int (fun _ _ => rfl)) pe_int (fun _ _ => rfl)) pa_nil)) (fun _ _ => rfl)) (pe_ix ix_tup (pe_ix ix_list (pv 1) pe_int (fun _ _ => rfl)) pe_int (fun _ _ => rfl))))
      (pss_cons (ps_for PassesOwn.never rfl (pi_list (pe_slice sl_list (pv 1) (po_some pe_int) po_none)) (pg_tup rfl (pgs_cons (pg_name (i := 5) nd rfl (Or.inl rfl)) (pgs_cons (pg_name (i := 6) nd rfl (Or.inl rfl)) pgs_nil)))
        (pss_one (ps_set (i := 4) nd rfl (Or.inl rfl) (pe_op op_add_str (pe_op op_add_str (pv 4) (pe_ix ix_list (pe_lst (pa_cons pe_str (pa_cons pe_str pa_nil))) (pe_callTy call_int1 (by rfl) B.int (by decide +kernel) (pa_cons (pv 5) pa_nil)) (fun _ _ => rfl))) (pv 6)))))
      (pss_one (ps_ret (pv 4)))))))), ?_⟩
    tm_at "go"
    refine fun l nl => ?_
    have s0 : Same H (upd H l (.lst [])) := by tm_at "same"
    have ht0 : SqT K (upd H l (.lst [])) t [.int g.1, .ref u] := s0.tk.tup ht
    have hu0 : SqT K (upd H l (.lst [])) u xs := s0.tk.tup hu
    tm_at "go"
    refine ⟨⟨_, hu0⟩, ?_⟩
    refine for_it walk_tup (fun i σ H' => ∃ v1 v2, σ = [some (.ref t), some (.ref l), v1, v2, none, none, none] ∧ Same H H' ∧ ∃ vs, H' l = some (.lst vs) ∧ Ims K H' vs ((g.2.take i).map bD)) ⟨_, _, rfl, s0, [], upd_same, by rw [List.take_zero]; exact .nil⟩ (fun i σ H' _ ⟨_, _, _, s1, _⟩ => s1.tk.tup hu) ?_ ?_
    · rintro i v σ H1 H2 hlt ⟨v1, v2, rfl, s1, vs, hl, hi⟩ ⟨rfl, hv⟩
      obtain ⟨p, hp, hpi⟩ := ims_at hx hv
      obtain ⟨t2, rfl, ht2⟩ := pD_inv (s1.tk.im hpi)
      have hpo : POk p := hPO p (by
        have hm := List.mem_of_getElem? hp
        unfold terms
        split
        · exact List.mem_append_left _ hm
        · exact hm)
      have hne : ¬ p.1 = Str.empty := (hg.nm p (List.mem_of_getElem? hp)).ne
      have hlv := hi.length
      rw [List.length_map, List.length_take] at hlv
      have html := tm_len hpo
      have add : ∀ t3, H2 t3 = none → ∃ v1 v2, [some (V.ref t), some (V.ref l), some (V.str p.1), some (V.int p.2), none, none, none] = [some (.ref t), some (.ref l), v1, v2, none, none, none] ∧ Same H (upd (upd H2 t3 (.tup [.bl (decide (p.2 < 0)), .str (tm p.1 p.2.natAbs)])) l (.lst (vs ++ [.ref t3]))) ∧ ∃ ws, upd (upd H2 t3 (.tup [.bl (decide (p.2 < 0)), .str (tm p.1 p.2.natAbs)])) l (.lst (vs ++ [.ref t3])) l = some (.lst ws) ∧ Ims K (upd (upd H2 t3 (.tup [.bl (decide (p.2 < 0)), .str (tm p.1 p.2.natAbs)])) l (.lst (vs ++ [.ref t3]))) ws ((g.2.take (i + 1)).map bD) := fun t3 nt3 => by
        have n3 : l ≠ t3 := ne_of_none hl nt3
        refine ⟨_, _, rfl, by tm_at "same", _, upd_same, ?_⟩
        rw [take_snoc hp, List.map_append]
        have k1 : TK H2 (upd H2 t3 (.tup [.bl (decide (p.2 < 0)), .str (tm p.1 p.2.natAbs)])) := TK.new nt3
        refine (TK.lst (xs := vs) (by rw [upd_ne n3]; exact hl)).ims (Ims.snoc (k1.ims hi) (bD_of (SqT.of upd_same)))
      refine ⟨_, _, rfl, ht2, rfl, ?_⟩
      have ab := abs_nat p.2
      tm_at "go"
      rw [ab, abs_one]
      refine ite2 (fun c => ?_) (fun c => ?_)
      · have c1 : p.2.natAbs = 1 := of_decide_eq_true c
        have e : tm p.1 p.2.natAbs = p.1 := by
          unfold tm
          rw [if_neg hne, if_pos c1]
        tm_at "go"
        refine fun t3 nt3 => ?_
        have hl3 : upd H2 t3 (.tup [.bl (decide (p.2 < 0)), .str p.1]) l = some (.lst vs) := by
          rw [upd_ne (ne_of_none hl nt3)]
          exact hl
        refine ⟨_, _, _, rfl, rfl, hl3, small1000 (by omega), ?_⟩
        have := add t3 nt3
        rw [e] at this
        exact this
      · have c1 : ¬ p.2.natAbs = 1 := fun z => c (decide_eq_true z)
        have e : tm p.1 p.2.natAbs = num p.2.natAbs ++ S "*" ++ p.1 := by
          unfold tm
          rw [if_neg hne, if_neg c1]
        tm_at "go"
        rw [ab]
        refine ⟨log2_ok hpo.2, ?_⟩
        have e2 : tm p.1 p.2.natAbs = Str.ofString (toString ((p.2.natAbs : Nat) : Int)) ++ S "*" ++ p.1 := e
        have hn : (Str.ofString (toString ((p.2.natAbs : Nat) : Int))).length ≤ 40 := num_len hpo.2
        have hnm := hpo.name_len
        clear e
        generalize Str.ofString (toString ((p.2.natAbs : Nat) : Int)) = z at hn e2 ⊢
        have h1 : (S "*").length = 1 := by decide +kernel
        have h2 : (z ++ S "*").length ≤ 41 := by
          rw [M.len_app, h1]
          omega
        tm_at "go"
        refine ⟨Nat.le_of_lt (small1000 (show (z ++ S "*").length + p.1.length ≤ 1000 by omega)), ?_⟩
        tm_at "go"
        refine fun t3 nt3 => ?_
        have hl3 : upd H2 t3 (.tup [.bl (decide (p.2 < 0)), .str (z ++ S "*" ++ p.1)]) l = some (.lst vs) := by
          rw [upd_ne (ne_of_none hl nt3)]
          exact hl
        refine ⟨_, _, _, rfl, rfl, hl3, small1000 (by omega), ?_⟩
        have := add t3 nt3
        rw [e2] at this
        exact this
    · rintro σ H1 ⟨v1, v2, rfl, s1, vs, hl, hi⟩
      rw [List.take_of_length_le (by omega)] at hi
      refine ⟨fun σ H' => ∃ vs v1 v2, σ = [some (.ref t), some (.ref l), v1, v2, none, none, none] ∧ Same H H' ∧ H' l = some (.lst vs) ∧ Ims K H' vs ((terms g).map bD), ?_, ?_⟩
      · have hbs : ∀ p ∈ g.2, POk p := fun p hp => hPO p (by
          unfold terms
          split
          · exact List.mem_append_left _ hp
          · exact hp)
        have hlv := hi.length
        rw [List.length_map] at hlv
        have hcst := hg.cst
        have ab := abs_nat g.1
        have ht1 : SqT K H1 t [.int g.1, .ref u] := s1.tk.tup ht
        have add : (g.1 ≠ 0 ∨ g.2 = []) → ∀ H2 t3, Same H1 H2 → H2 t3 = none → ∃ ws v3 v4, [some (V.ref t), some (V.ref l), v1, v2, none, none, none] = [some (.ref t), some (.ref l), v3, v4, none, none, none] ∧ Same H (upd (upd H2 t3 (.tup [.bl (decide (g.1 < 0)), .str (num g.1.natAbs)])) l (.lst (vs ++ [.ref t3]))) ∧ upd (upd H2 t3 (.tup [.bl (decide (g.1 < 0)), .str (num g.1.natAbs)])) l (.lst (vs ++ [.ref t3])) l = some (.lst ws) ∧ Ims K (upd (upd H2 t3 (.tup [.bl (decide (g.1 < 0)), .str (num g.1.natAbs)])) l (.lst (vs ++ [.ref t3]))) ws ((terms g).map bD) := fun hc H2 t3 s2 nt3 => by
          have hl2 := s2 _ _ hl
          have n3 : l ≠ t3 := ne_of_none hl2 nt3
          refine ⟨_, _, _, rfl, by tm_at "same", upd_same, ?_⟩
          unfold terms
          rw [if_pos hc, List.map_append]
          have k1 : TK H2 (upd H2 t3 (.tup [.bl (decide (g.1 < 0)), .str (num g.1.natAbs)])) := TK.new nt3
          exact (TK.lst (xs := vs) (by rw [upd_ne n3]; exact hl2)).ims (Ims.snoc (k1.ims (s2.tk.ims hi)) (bD_of (p := (Str.empty, g.1)) (SqT.of upd_same)))
        tm_at "go"
        refine ite2 (fun c => ?_) (fun c => ?_)
        · have c1 : g.1 ≠ 0 := fun z => by
            have := show (!decide (V.int g.1 = V.int 0)) = true from c
            rw [z] at this
            exact absurd this (by decide)
          refine iteT ?_
          tm_at "go"
          rw [ab]
          refine ⟨log2_ok hcst, ?_⟩
          tm_at "go"
          refine fun t3 nt3 => ?_
          have hl3 : upd H1 t3 (.tup [.bl (decide (g.1 < 0)), .str (num g.1.natAbs)]) l = some (.lst vs) := by
            rw [upd_ne (ne_of_none hl nt3)]
            exact hl
          refine ⟨_, _, _, rfl, rfl, hl3, small1000 (by omega), ?_⟩
          exact add (.inl c1) H1 t3 (Same.refl _) nt3
        · have c1 : ¬ g.1 ≠ 0 := fun z => c (by rw [decide_eq_false (fun e => z (V.int.inj e))]; rfl)
          tm_at "go"
          refine fun p np => ?_
          have sp : Same H1 (upd H1 p (.lst [])) := same_new np
          refine ⟨.list (g.2.map bD), .list [], .lst (SqL.of (sp _ _ hl)) (Ims.dp _ (sp.tk.ims hi)), .lst (SqL.of upd_same) .nil, shaped_bs hbs, by decide, ?_⟩
          rw [eqv_bs_nil]
          refine ⟨_, rfl, ?_⟩
          refine ite2 (fun c2 => ?_) (fun c2 => ?_)
          · have c3 : g.2 = [] := of_decide_eq_true c2
            have ht2 : SqT K (upd H1 p (.lst [])) t [.int g.1, .ref u] := sp.tk.tup ht1
            have hlp := sp _ _ hl
            tm_at "go"
            rw [ab]
            refine ⟨log2_ok hcst, ?_⟩
            tm_at "go"
            refine fun t3 nt3 => ?_
            have hl3 : upd (upd H1 p (.lst [])) t3 (.tup [.bl (decide (g.1 < 0)), .str (num g.1.natAbs)]) l = some (.lst vs) := by
              rw [upd_ne (ne_of_none (sp _ _ hl) nt3)]
              exact sp _ _ hl
            refine ⟨_, _, _, rfl, rfl, hl3, small1000 (by omega), ?_⟩
            exact add (.inr c3) _ t3 sp nt3
          · refine ⟨vs, _, _, rfl, by tm_at "same", sp _ _ hl, ?_⟩
            unfold terms
            rw [if_neg (fun z => z.elim c1 (fun e => c2 (decide_eq_true e)))]
            exact sp.tk.ims hi
      · rintro σ H2 ⟨vs, v1, v2, rfl, s2, hl, hi⟩
        have hlv := hi.length
        rw [List.length_map] at hlv
        have hbig : (10000 : Nat) ≤ sizeLine := by decide
        obtain ⟨p0, rest, hpr⟩ : ∃ p r, terms g = p :: r := by
          cases e : terms g with
          | nil => exact absurd e (terms_ne g)
          | cons p r => exact ⟨p, r, rfl⟩
        obtain ⟨w0, hw0, iw0⟩ := Ims.get' hi (i := 0) (d := bD p0) (by rw [hpr]; rfl)
        obtain ⟨t0, rfl, ht0⟩ := bD_inv iw0
        have hp0 := hPO p0 (by rw [hpr]; exact List.mem_cons_self ..)
        have htm0 := tm_len hp0
        have hsg0 := sg_len p0.2
        have e0 : atI vs 0 = some (.ref t0) := atI_nat (j := 0) hw0
        tm_at "go"
        refine fun a na => ?_
        have sa : Same H2 (upd H2 a (.lst [.str "", .str "-"])) := same_new na
        have hla := sa _ _ hl
        have hta := sa.tk.tup ht0
        have sgv : V.str (if decide (p0.2 < 0) = true then S "-" else S "") = V.str (sg p0.2) := by
          unfold sg
          by_cases c : p0.2 < 0
          · rw [if_pos c, if_pos (decide_eq_true c)]
          · rw [if_neg c, if_neg (by rw [decide_eq_false c]; decide)]
            rfl
        tm_at "go"
        refine ⟨_, _, _, _, rfl, rfl, SqL.of hla, e0, ?_⟩
        tm_at "go"
        refine .inr ⟨_, rfl, ?_⟩
        refine ⟨_, _, _, _, rfl, rfl, SqL.of upd_same, at_b (V.str (S "")) (V.str (S "-")) (decide (p0.2 < 0)), ?_⟩
        rw [show (if decide (p0.2 < 0) = true then V.str (S "-") else V.str (S "")) = V.str (sg p0.2) by rw [← sgv]; split <;> rfl]
        tm_at "go"
        refine ⟨_, _, _, _, rfl, rfl, SqL.of hla, e0, ?_⟩
        tm_at "go"
        have ecut : cutV vs (some 1) none = vs.drop 1 := cutV_from vs 1
        rw [ecut]
        refine fun p np => ⟨p, rfl, ⟨_, SqL.of upd_same⟩, ?_⟩
        have s3 : Same H2 (upd (upd H2 a (.lst [.str "", .str "-"])) p (.lst (vs.drop 1))) := by tm_at "same"
        have w1 : wterms ((terms g).take 1) = sg p0.2 ++ tm p0.1 p0.2.natAbs := by
          rw [hpr]
          exact wterms_one p0
        rw [← w1]
        clear w1
        have hp3 : upd (upd H2 a (.lst [.str "", .str "-"])) p (.lst (vs.drop 1)) p = some (.lst (vs.drop 1)) := upd_same
        generalize upd (upd H2 a (.lst [.str "", .str "-"])) p (.lst (vs.drop 1)) = H3 at s3 hp3 ⊢
        refine for_it walk_list (fun i σ H' => ∃ v5 v6, σ = [some (.ref t), some (.ref l), v1, v2, some (.str (wterms ((terms g).take (i + 1)))), v5, v6] ∧ Same H3 H') ⟨_, _, rfl, Same.refl _⟩ (fun i σ H' _ ⟨_, _, _, s4⟩ => SqL.of (s4 _ _ hp3)) ?_ ?_
        · rintro i v σ H4 H5 hlt ⟨v5, v6, rfl, s4⟩ ⟨rfl, hv⟩
          rw [List.length_drop] at hlt
          rw [List.getElem?_drop, Nat.add_comm 1 i] at hv
          obtain ⟨p, hp, hpi⟩ := ims_at hi hv
          obtain ⟨t2, rfl, ht2⟩ := bD_inv ((s3.trans s4).tk.im hpi)
          have hpo := hPO p (List.mem_of_getElem? hp)
          have hpre : ∀ p ∈ (terms g).take (i + 1), POk p := fun p hp => hPO p (List.mem_of_mem_take hp)
          have hwl := wterms_len hpre
          rw [List.length_take] at hwl
          have html := tm_len hpo
          have hspl := sp_len p.2
          have hne : (terms g).take (i + 1) ≠ [] := by
            rw [hpr]
            exact List.cons_ne_nil _ _
          rw [take_snoc hp, wterms_snoc _ _ hne]
          generalize wterms ((terms g).take (i + 1)) = T at hwl ⊢
          have spv : (if decide (p.2 < 0) = true then V.str (S " - ") else V.str (S " + ")) = V.str (sp p.2) := by
            unfold sp
            by_cases c : p.2 < 0
            · rw [if_pos c, if_pos (decide_eq_true c)]
            · rw [if_neg c, if_neg (by rw [decide_eq_false c]; decide)]
          refine ⟨_, _, rfl, ht2, rfl, ?_⟩
          tm_at "go"
          refine fun a2 na2 => ?_
          tm_at "go"
          refine .inr ⟨_, rfl, ?_⟩
          refine ⟨_, _, _, _, rfl, rfl, SqL.of upd_same, at_b (V.str (S " + ")) (V.str (S " - ")) (decide (p.2 < 0)), ?_⟩
          rw [spv]
          refine ⟨T, sp p.2, rfl, rfl, ?_, ?_⟩
          · omega
          tm_at "go"
          refine ⟨by rw [M.len_app]; omega, ?_⟩
          exact ⟨_, _, rfl, by tm_at "same"⟩
        · rintro σ H4 ⟨v5, v6, rfl, s4⟩
          rw [List.length_drop, List.take_of_length_le (by omega)]
          refine ⟨_, rfl, ?_⟩
          exact q _ ((s2.trans s3).trans s4)
end
end C
set_option Elab.async false
set_option linter.all false
set_option pp.maxSteps 1500
set_option maxRecDepth 100000
set_option maxHeartbeats 4000000
namespace C
open PySem PySem.Spec PyProof.Rows L2 Kx M TL
local macro_rules | `(tactic| tm_at "same") => `(tactic| first
  | assumption
  | exact L2.Same.refl _
  | exact L2.Same.upd (by tm_at "same") (by tm_at "free")
  | exact sameTransR (by assumption) (by tm_at "same"))
local macro_rules | `(tactic| tm_at "free") => `(tactic| first
  | assumption
  | exact sameFreeR (by assumption) (by tm_at "same"))
local macro_rules | `(tactic| tm_at "but") => `(tactic| first
  | assumption
  | exact But.refl _ _
  | exact But.transR (by assumption) (by tm_at "but")
  | exact But.upd
  | exact But.self (by tm_at "but")
  | exact But.new1 (by tm_at "but") (by assumption)
  | exact But.new (by tm_at "but") (by tm_at "free")
  | exact L2.Same.but (by assumption) _)
local macro_rules | `(tactic| tm_at "fact") => `(tactic| first
  | exact upd_same
  | assumption
  | exact SqL.of upd_same
  | exact SqT.of upd_same
  | exact SqL.of (by assumption)
  | exact SqT.of (by assumption)
  | exact But.lstR (by assumption) (by assumption) (by tm_at "but"))
local macro_rules | `(tactic| tm_at "cond") => `(tactic| first
  | rfl
  | assumption
  | decide
  | omega
  | exact ⟨by decide, by decide⟩
  | exact .inr ⟨by decide, by decide⟩
  | exact .inl ⟨by decide, by decide⟩
  | exact ⟨by decide, by decide, by decide⟩
  | exact cdivw (by assumption) (by assumption)
  | exact log2_ok (by assumption)
  | exact Or.inl ⟨rfl, _, SqL.of upd_same⟩
  | exact Or.inl ⟨rfl, _, SqL.of (by assumption)⟩
  | exact ⟨_, rfl⟩
  | exact Nat.le_of_ble_eq_true rfl
  | exact small1000 (by omega))
local macro_rules | `(tactic| tm_at "prop") => `(tactic| first
  | assumption
  | omega)
local macro_rules | `(tactic| tm_at "s") => `(tactic| first
  | refine ⟨_, rfl, ?_⟩
  | refine ⟨_, _, rfl, rfl, ?_⟩
  | refine ⟨_, _, _, rfl, rfl, (by tm_at "fact"), (by tm_at "cond"), ?_⟩
  | refine ⟨_, _, _, _, rfl, rfl, (by tm_at "fact"), rfl, ?_⟩
  | refine ⟨_, _, rfl, (by tm_at "fact"), ?_⟩
  | refine And.intro (by tm_at "cond") ?_
  | refine .inl ⟨_, rfl, ?_⟩
  | refine ⟨_, _, rfl, .inl (by tm_at "fact"), ?_⟩
  | refine dec_false (by tm_at "prop") ?_
  | refine dec_true (by tm_at "prop") ?_
  | refine decN_false (by tm_at "prop") ?_
  | refine decN_true (by tm_at "prop") ?_
  | refine iteT ?_
  | refine iteF ?_
  | refine ⟨_, _, rfl, ?_⟩)
local macro_rules | `(tactic| tm_at "go") => `(tactic| repeat tm_at "s")

section
variable {P : Program} {w : World} {K : PySem.W.Frag} {mg : Str → Option Value} {base : Heap} {aH aR : Addr}
/-! ### the lines of a row, as words -/
inductive Wls (K : PySem.W.Frag) (H : Hp) : List V → List (List Str) → Prop
  | nil : Wls K H [] []
  | cons {b : Addr} {ws : List Str} {vs : List V} {W : List (List Str)} : ws ≠ [] → SqL K H b (ws.map V.str) → Wls K H vs W → Wls K H (.ref b :: vs) (ws :: W)
theorem Wls.append {K : PySem.W.Frag} {H : Hp} : ∀ {vs ws : List V} {W X : List (List Str)}, Wls K H vs W → Wls K H ws X → Wls K H (vs ++ ws) (W ++ X)
  | _, _, _, _, .nil, h => h
  | _, _, _, _, .cons n a b, h => .cons n a (Wls.append b h)
theorem Wls.same {K : PySem.W.Frag} {H H' : Hp} (s : Same H H') : ∀ {vs : List V} {W : List (List Str)}, Wls K H vs W → Wls K H' vs W
  | _, _, .nil => .nil
  | _, _, .cons n a b => .cons n (s.seq a) (Wls.same s b)
theorem Wls.but {K : PySem.W.Frag} {H H' : Hp} {st l : Addr} (o : StOk K H st l) (s : But st H H') : ∀ {vs : List V} {W : List (List Str)}, Wls K H vs W → Wls K H' vs W
  | _, _, .nil => .nil
  | _, _, .cons n a b => .cons n (o.but_strs s a) (Wls.but o s b)
theorem Wls.length {K : PySem.W.Frag} {H : Hp} : ∀ {vs : List V} {W : List (List Str)}, Wls K H vs W → vs.length = W.length
  | _, _, .nil => rfl
  | _, _, .cons _ a b => by rw [List.length_cons, List.length_cons, Wls.length b]
theorem Wls.get {K : PySem.W.Frag} {H : Hp} : ∀ {vs : List V} {W : List (List Str)}, Wls K H vs W → ∀ {i : Nat} {v : V}, vs[i]? = some v → ∃ b ws, v = .ref b ∧ W[i]? = some ws ∧ SqL K H b (ws.map V.str)
  | _, _, .nil, _, _, e => by simp at e
  | _, _, .cons _ a b, 0, _, e => by
    cases e
    exact ⟨_, _, rfl, rfl, a⟩
  | _, _, .cons _ a b, i + 1, _, e => Wls.get b (i := i) e
theorem Wls.refs {K : PySem.W.Frag} {H : Hp} : ∀ {vs : List V} {W : List (List Str)}, Wls K H vs W → ∀ y ∈ vs, ∃ b, y = V.ref b
  | _, _, .nil, _, h => by cases h
  | _, _, .cons _ a b, y, h => by
    rcases List.mem_cons.mp h with e | e
    · exact ⟨_, e⟩
    · exact Wls.refs b y e
/-- a list of references changes -/
theorem Wls.butL {K : PySem.W.Frag} {H H' : Hp} {D : Addr} {ys : List V} (hD : H D = some (.lst ys)) (hy : ∀ y ∈ ys, ∃ b, y = V.ref b) (s : But D H H') : ∀ {vs : List V} {W : List (List Str)}, Wls K H vs W → Wls K H' vs W
  | _, _, .nil => .nil
  | _, _, .cons (b := b) (ws := ws) n a c => .cons n (by
      rcases a with (h | ⟨o, h⟩) | h
      · refine .inl (.inl (s _ _ (fun e => ?_) h))
        subst e
        rw [hD] at h
        injection h with h
        injection h with h
        cases ws with
        | nil => exact n rfl
        | cons w r =>
          obtain ⟨_, e⟩ := hy (.str w) (by rw [h]; exact List.mem_cons_self ..)
          cases e
      · refine .inl (.inr ⟨o, s _ _ (fun e => ?_) h⟩)
        subst e
        rw [hD] at h
        cases h
      · exact .inr h) (Wls.butL hD hy s c)
def fW (hd : Str) (f : Form) : List Str := hd :: wd f
def pW (hd : Str) (p : Str × Str) : List Str := [hd, p.1, p.2]
def rowW (r : M.Row) : List (List Str) :=
  [[S "claim", r.a, S "with", r.b]] ++ r.gs.map (fW (S "given")) ++ r.ss.map (pW (S "same")) ++ r.as.map (fW (S "ask")) ++ r.ks.map (pW (S "keep")) ++ r.hs.map (fW (S "hint")) ++ (if r.rule = S "any" then [] else [S "walk" :: Txt.split r.rule (S " ")]) ++ [[S "end"]]
def spLines (K : PySem.W.Frag) : Sp := fun vs H Q _ => ∃ (v : V) (r : M.Row), vs = [v] ∧ Im K H v (rD r) ∧ r.Ok ∧ ∀ a ws H', Same H H' → H a = none → H' a = some (.lst ws) → Wls K H' ws (rowW r) → Q (.ref a) H'
theorem sc__law_row_lines : FnScope ["row", "claim", "hints", "rule", "lines", "f", "a", "b"] ["row"] (defScope s__law_row_lines) := ⟨rfl, rfl, rfl, by decide +kernel, rfl, by decide +kernel, by decide +kernel⟩
theorem ok__law_row_lines {k : Nat} (D : Def K mg "_law_row_lines" "_law_row_lines" s__law_row_lines ["row"]) (B : Bi mg) (c__law_written : Cal P w K mg base CX0 k "_law_written" ["f"] (spWriteForm K)) : Cal P w K mg base CX0 (k + 1) "_law_row_lines" ["row"] (spLines K) := by
  refine D.cal fun f fd F => F.ok sc__law_row_lines (fun vs H Q E h => ?_) (fun cdv A outer s H vs Q E hr h => ?_)
  · obtain ⟨v, f, rfl, _⟩ := h
    rfl
  · obtain ⟨v, r, rfl, hv, ok, q⟩ := h
    have nd := sc__law_row_lines.nd
    obtain ⟨t, ts, rfl, ht, hts⟩ := Im.tup_inv hv
    obtain ⟨v1, r1, rfl, h1, hr1⟩ := Ims.cons_inv hts
    obtain ⟨v2, r2, rfl, h2, hr2⟩ := Ims.cons_inv hr1
    obtain ⟨v3, r3, rfl, h3, hr3⟩ := Ims.cons_inv hr2
    obtain rfl := Ims.nil_inv hr3
    obtain rfl := Im.str_inv h3
    obtain ⟨u2, hs, rfl, hu2, ihs⟩ := Im.tup_inv h2
    obtain ⟨tc, cs, rfl, htc, hcs⟩ := Im.tup_inv h1
    obtain ⟨c1, q1, rfl, i1, hq1⟩ := Ims.cons_inv hcs
    obtain ⟨c2, q2, rfl, i2, hq2⟩ := Ims.cons_inv hq1
    obtain ⟨c3, q3, rfl, i3, hq3⟩ := Ims.cons_inv hq2
    obtain ⟨c4, q4, rfl, i4, hq4⟩ := Ims.cons_inv hq3
    obtain ⟨c5, q5, rfl, i5, hq5⟩ := Ims.cons_inv hq4
    obtain ⟨c6, q6, rfl, i6, hq6⟩ := Ims.cons_inv hq5
    obtain rfl := Ims.nil_inv hq6
    obtain rfl := Im.str_inv i1
    obtain rfl := Im.str_inv i2
    obtain ⟨a3, l3, rfl, ha3, il3⟩ := Im.tup_inv i3
    obtain ⟨a4, l4, rfl, ha4, il4⟩ := Im.tup_inv i4
    obtain ⟨a5, l5, rfl, ha5, il5⟩ := Im.tup_inv i5
    obtain ⟨a6, l6, rfl, ha6, il6⟩ := Im.tup_inv i6
    clear hv hts hr1 hr2 hr3 h1 h2 hcs hq1 hq2 hq3 hq4 hq5 hq6 i3 i4 i5 i6 i1 i2 h3
    refine ⟨_, (pss_cons (ps_asg (pv 0) (pg_tup rfl (pgs_cons (pg_name (i := 1) nd rfl (Or.inl rfl)) (pgs_cons (pg_name (i := 2) nd rfl (Or.inl rfl)) (pgs_cons (pg_name (i := 3) nd rfl (Or.inl rfl)) pgs_nil)))))
      (pss_cons (ps_set (i := 4) nd rfl (Or.inl rfl) (pe_lst (pa_cons (pe_lst (pa_cons pe_str (pa_cons (pe_ix ix_tup (pv 1) pe_int (fun _ _ => rfl)) (pa_cons pe_str (pa_cons (pe_ix ix_tup (pv 1) pe_int (fun _ _ => rfl)) pa_nil))))) pa_nil)))
      (C8.pss_cut (ps_set (i := 4) nd rfl (Or.inl rfl) (pe_op op_cat (pv 4) (pe_lc (own := [("f", 5)]) (by rfl) nd (pi_tup (pe_ix ix_tup (pv 1) pe_int (fun _ _ => rfl))) (blkOk_by (own := [("f", 5)]) (N := ["row", "claim", "hints", "rule", "lines", "f", "a", "b"]) (sc := defScope s__law_row_lines) (by decide +kernel)) (fun _ _ _ _ _ => (pg_name (i := 5) nd rfl (Or.inl rfl))) (fun _ _ _ _ _ => pts_nil) (fun _ _ _ _ _ => (pe_op op_cat (pe_lst (pa_cons pe_str pa_nil)) (pe_split (pe_cal c__law_written (Room.mono hr (by omega)) (by rfl) (pa_cons (pv 5) pa_nil)) pe_str))))))
      (C8.pss_cut (ps_set (i := 4) nd rfl (Or.inl rfl) (pe_op op_cat (pv 4) (pe_lc (own := [("a", 6), ("b", 7)]) (by rfl) nd (pi_tup (pe_ix ix_tup (pv 1) pe_int (fun _ _ => rfl))) (blkOk_by (own := [("a", 6), ("b", 7)]) (N := ["row", "claim", "hints", "rule", "lines", "f", "a", "b"]) (sc := defScope s__law_row_lines) (by decide +kernel)) (fun _ _ _ _ _ => (pg_tupK (K := K) (n := 2) rfl rfl (pgs_cons (pg_name (i := 6) nd rfl (Or.inl rfl)) (pgs_cons (pg_name (i := 7) nd rfl (Or.inl rfl)) pgs_nil)))) (fun _ _ _ _ _ => pts_nil) (fun _ _ _ _ _ => (pe_lst (pa_cons pe_str (pa_cons (pv 6) (pa_cons (pv 7) pa_nil))))))))
      (C8.pss_cut (ps_set (i := 4) nd rfl (Or.inl rfl) (pe_op op_cat (pv 4) (pe_lc (own := [("f", 5)]) (by rfl) nd (pi_tup (pe_ix ix_tup (pv 1) pe_int (fun _ _ => rfl))) (blkOk_by (own := [("f", 5)]) (N := ["row", "claim", "hints", "rule", "lines", "f", "a", "b"]) (sc := defScope s__law_row_lines) (by decide +kernel)) (fun _ _ _ _ _ => (pg_name (i := 5) nd rfl (Or.inl rfl))) (fun _ _ _ _ _ => pts_nil) (fun _ _ _ _ _ => (pe_op op_cat (pe_lst (pa_cons pe_str pa_nil)) (pe_split (pe_cal c__law_written (Room.mono hr (by omega)) (by rfl) (pa_cons (pv 5) pa_nil)) pe_str))))))
      (C8.pss_cut (ps_set (i := 4) nd rfl (Or.inl rfl) (pe_op op_cat (pv 4) (pe_lc (own := [("a", 6), ("b", 7)]) (by rfl) nd (pi_tup (pe_ix ix_tup (pv 1) pe_int (fun _ _ => rfl))) (blkOk_by (own := [("a", 6), ("b", 7)]) (N := ["row", "claim", "hints", "rule", "lines", "f", "a", "b"]) (sc := defScope s__law_row_lines) (by decide +kernel)) (fun _ _ _ _ _ => (pg_tupK (K := K) (n := 2) rfl rfl (pgs_cons (pg_name (i := 6) nd rfl (Or.inl rfl)) (pgs_cons (pg_name (i := 7) nd rfl (Or.inl rfl)) pgs_nil)))) (fun _ _ _ _ _ => pts_nil) (fun _ _ _ _ _ => (pe_lst (pa_cons pe_str (pa_cons (pv 6) (pa_cons (pv 7) pa_nil))))))))
      (C8.pss_cut (ps_set (i := 4) nd rfl (Or.inl rfl) (pe_op op_cat (pv 4) (pe_lc (own := [("f", 5)]) (by rfl) nd (pi_tup (pv 2)) (blkOk_by (own := [("f", 5)]) (N := ["row", "claim", "hints", "rule", "lines", "f", "a", "b"]) (sc := defScope s__law_row_lines) (by decide +kernel)) (fun _ _ _ _ _ => (pg_name (i := 5) nd rfl (Or.inl rfl))) (fun _ _ _ _ _ => pts_nil) (fun _ _ _ _ _ => (pe_op op_cat (pe_lst (pa_cons pe_str pa_nil)) (pe_split (pe_cal c__law_written (Room.mono hr (by omega)) (by rfl) (pa_cons (pv 5) pa_nil)) pe_str))))))
      (C8.pss_cut (ps_if (pt_cmpR op_ne (pv 3) pe_str (nomark _))
        (pss_one (ps_expr (pe_bm PySem.F.plainAttrs_list PySem.F.slot_list_append PySem.F.type_list_append mt_append (pv 4) (pa_cons (pe_op op_cat (pe_lst (pa_cons pe_str pa_nil)) (pe_split (pv 3) pe_str)) pa_nil))))
        pss_nil)
      (pss_one (ps_ret (pe_op op_cat (pv 4) (pe_lst (pa_cons (pe_lst (pa_cons pe_str pa_nil)) pa_nil))))))))))))), ?_⟩
    refine ⟨_, rfl, _, _, rfl, ht, rfl, ?_⟩
    tm_at "go"
    refine fun b nb => ?_
    tm_at "go"
    refine fun a na => ?_
    have s1 : Same H (upd (upd H b (.lst [.str (S "claim"), .str r.a, .str (S "with"), .str r.b])) a (.lst [.ref b])) := by tm_at "same"
    have hw : Wls K (upd (upd H b (.lst [.str (S "claim"), .str r.a, .str (S "with"), .str r.b])) a (.lst [.ref b])) [.ref b] [[S "claim", r.a, S "with", r.b]] := by
      refine .cons (List.cons_ne_nil _ _) (SqL.of (xs := [.str (S "claim"), .str r.a, .str (S "with"), .str r.b]) ?_) .nil
      rw [upd_ne (ne_of_none upd_same na), upd_same]
    have ha : upd (upd H b (.lst [.str (S "claim"), .str r.a, .str (S "with"), .str r.b])) a (.lst [.ref b]) a = some (.lst [.ref b]) := upd_same
    replace na : H a = none := by tm_at "free"
    generalize upd (upd H b (.lst [.str (S "claim"), .str r.a, .str (S "with"), .str r.b])) a (.lst [.ref b]) = H1 at s1 hw ha ⊢
    generalize [V.ref b] = vs at hw ha
    refine ⟨fun σ H' => ∃ a vs x5 x6 x7, σ = [some (.ref t), some (.ref tc), some (.ref u2), some (.str r.rule), some (.ref a), x5, x6, x7] ∧ Same H H' ∧ H a = none ∧ H' a = some (.lst vs) ∧ Wls K H' vs ([[S "claim", r.a, S "with", r.b]] ++ r.gs.map (fW (S "given"))), ?_, ?_⟩
    · have hlv := hw.length
      have hll := il3.length
      rw [List.length_map] at hll
      have okl := ok.gl
      have htc1 := s1.tk.tup htc
      have hu1 := s1.tk.tup ha3
      tm_at "go"
      refine ⟨⟨_, hu1⟩, fun D nD => ?_⟩
      have naD : a ≠ D := ne_of_none ha nD
      refine lc_it walk_tup (fun i H' => Same H1 H' ∧ ∃ ws, H' D = some (.lst ws) ∧ Wls K H' ws ((r.gs.take i).map (fW (S "given")))) ⟨same_new nD, [], upd_same, by rw [List.take_zero]; exact .nil⟩ (fun i H' _ ⟨s, _⟩ => s.tk.tup hu1) ?_ ?_
      · rintro i v Hx Hy hlt ⟨sx, ws, hDx, hws⟩ ⟨rfl, hv⟩
        have hwl := hws.length
        rw [List.length_map, List.length_take] at hwl
        obtain ⟨f, hf, him⟩ := ims_at il3 hv
        have hfo := ok.g f (List.mem_of_getElem? hf)
        have himy := (s1.trans sx).tk.im him
        refine ⟨rfl, ?_⟩
        tm_at "go"
        refine fun p np => ?_
        have sp : Same Hy (upd Hy p (.lst [.str (S "given")])) := same_new np
        tm_at "go"
        refine ⟨_, f, rfl, sp.tk.im himy, hfo, fun H5 s5 => ?_⟩
        tm_at "go"
        refine ⟨Nat.le_trans (Nat.add_le_add_right (wr_len hfo) 2) (by decide), ?_⟩
        rw [wr_split hfo]
        refine fun p2 np2 => ?_
        have hp5 : H5 p = some (.lst [.str (S "given")]) := s5 _ _ upd_same
        refine ⟨p, p2, [.str (S "given")], (wd f).map V.str, rfl, rfl, ?_, upd_same, ?_, fun p3 np3 => ?_⟩
        · rw [upd_ne (ne_of_none hp5 np2)]
          exact hp5
        · rw [List.length_map, List.length_singleton]
          have := wd_count hfo
          exact Nat.le_of_lt (small1000 (by omega))
        have sa : Same Hy (upd (upd H5 p2 (.lst ((wd f).map V.str))) p3 (.lst ([.str (S "given")] ++ (wd f).map V.str))) := by tm_at "same"
        have hDa := sa _ _ hDx
        refine ⟨ws, hDa, small1000 (by omega), by tm_at "same", _, upd_same, ?_⟩
        rw [take_snoc hf, List.map_append]
        exact Wls.butL hDa (hws.refs) But.upd (Wls.append (hws.same sa) (Wls.cons (b := p3) (ws := fW (S "given") f) (List.cons_ne_nil _ _) (SqL.of upd_same) .nil))
      · rintro H2 ⟨s2, ws, hD2, hws⟩
        have hwl := hws.length
        rw [List.length_map, List.length_take] at hwl
        rw [List.take_of_length_le (by omega)] at hws
        have hl8 : vs.length ≤ 100 := by
          have o1 := ok.gl; have o2 := ok.sl; have o3 := ok.al; have o4 := ok.kl; have o5 := ok.hl
          rw [hlv]
          simp only [List.length_append, List.length_map, List.length_singleton, List.length_cons, List.length_nil]
          omega
        refine ⟨a, D, vs, ws, rfl, rfl, s2 _ _ ha, hD2, Nat.le_of_lt (small1000 (by omega)), fun a2 na2 => ?_⟩
        exact ⟨a2, _, _, _, _, rfl, by tm_at "same", by tm_at "free", upd_same, Wls.append (hw.same (by tm_at "same")) (hws.same (same_new na2))⟩
    rintro σ H1 ⟨a, vs, x5, x6, x7, rfl, s1, na, ha, hw⟩
    refine ⟨fun σ H' => ∃ a vs x5 x6 x7, σ = [some (.ref t), some (.ref tc), some (.ref u2), some (.str r.rule), some (.ref a), x5, x6, x7] ∧ Same H H' ∧ H a = none ∧ H' a = some (.lst vs) ∧ Wls K H' vs ([[S "claim", r.a, S "with", r.b]] ++ r.gs.map (fW (S "given")) ++ r.ss.map (pW (S "same"))), ?_, ?_⟩
    · have hlv := hw.length
      have hll := il4.length
      rw [List.length_map] at hll
      have okl := ok.sl
      have htc1 := s1.tk.tup htc
      have hu1 := s1.tk.tup ha4
      tm_at "go"
      refine ⟨⟨_, hu1⟩, fun D nD => ?_⟩
      have naD : a ≠ D := ne_of_none ha nD
      refine lc_it walk_tup (fun i H' => Same H1 H' ∧ ∃ ws, H' D = some (.lst ws) ∧ Wls K H' ws ((r.ss.take i).map (pW (S "same")))) ⟨same_new nD, [], upd_same, by rw [List.take_zero]; exact .nil⟩ (fun i H' _ ⟨s, _⟩ => s.tk.tup hu1) ?_ ?_
      · rintro i v Hx Hy hlt ⟨sx, ws, hDx, hws⟩ ⟨rfl, hv⟩
        have hwl := hws.length
        rw [List.length_map, List.length_take] at hwl
        obtain ⟨pr, hf, him⟩ := ims_at il4 hv
        have himy := (s1.trans sx).tk.im him
        obtain ⟨tp, rfl, htp⟩ := qD_inv himy
        refine ⟨_, _, rfl, htp, rfl, ?_⟩
        tm_at "go"
        refine fun p3 np3 => ?_
        have sa : Same Hy (upd Hy p3 (.lst [.str (S "same"), .str pr.1, .str pr.2])) := same_new np3
        have hDa := sa _ _ hDx
        refine ⟨ws, hDa, small1000 (by omega), by tm_at "same", _, upd_same, ?_⟩
        rw [take_snoc hf, List.map_append]
        exact Wls.butL hDa (hws.refs) But.upd (Wls.append (hws.same sa) (Wls.cons (b := p3) (ws := pW (S "same") pr) (List.cons_ne_nil _ _) (SqL.of upd_same) .nil))
      · rintro H2 ⟨s2, ws, hD2, hws⟩
        have hwl := hws.length
        rw [List.length_map, List.length_take] at hwl
        rw [List.take_of_length_le (by omega)] at hws
        have hl8 : vs.length ≤ 100 := by
          have o1 := ok.gl; have o2 := ok.sl; have o3 := ok.al; have o4 := ok.kl; have o5 := ok.hl
          rw [hlv]
          simp only [List.length_append, List.length_map, List.length_singleton, List.length_cons, List.length_nil]
          omega
        refine ⟨a, D, vs, ws, rfl, rfl, s2 _ _ ha, hD2, Nat.le_of_lt (small1000 (by omega)), fun a2 na2 => ?_⟩
        exact ⟨a2, _, _, _, _, rfl, by tm_at "same", by tm_at "free", upd_same, Wls.append (hw.same (by tm_at "same")) (hws.same (same_new na2))⟩
    rintro σ H1 ⟨a, vs, x5, x6, x7, rfl, s1, na, ha, hw⟩
    refine ⟨fun σ H' => ∃ a vs x5 x6 x7, σ = [some (.ref t), some (.ref tc), some (.ref u2), some (.str r.rule), some (.ref a), x5, x6, x7] ∧ Same H H' ∧ H a = none ∧ H' a = some (.lst vs) ∧ Wls K H' vs ([[S "claim", r.a, S "with", r.b]] ++ r.gs.map (fW (S "given")) ++ r.ss.map (pW (S "same")) ++ r.as.map (fW (S "ask"))), ?_, ?_⟩
    · have hlv := hw.length
      have hll := il5.length
      rw [List.length_map] at hll
      have okl := ok.al
      have htc1 := s1.tk.tup htc
      have hu1 := s1.tk.tup ha5
      tm_at "go"
      refine ⟨⟨_, hu1⟩, fun D nD => ?_⟩
      have naD : a ≠ D := ne_of_none ha nD
      refine lc_it walk_tup (fun i H' => Same H1 H' ∧ ∃ ws, H' D = some (.lst ws) ∧ Wls K H' ws ((r.as.take i).map (fW (S "ask")))) ⟨same_new nD, [], upd_same, by rw [List.take_zero]; exact .nil⟩ (fun i H' _ ⟨s, _⟩ => s.tk.tup hu1) ?_ ?_
      · rintro i v Hx Hy hlt ⟨sx, ws, hDx, hws⟩ ⟨rfl, hv⟩
        have hwl := hws.length
        rw [List.length_map, List.length_take] at hwl
        obtain ⟨f, hf, him⟩ := ims_at il5 hv
        have hfo := ok.a' f (List.mem_of_getElem? hf)
        have himy := (s1.trans sx).tk.im him
        refine ⟨rfl, ?_⟩
        tm_at "go"
        refine fun p np => ?_
        have sp : Same Hy (upd Hy p (.lst [.str (S "ask")])) := same_new np
        tm_at "go"
        refine ⟨_, f, rfl, sp.tk.im himy, hfo, fun H5 s5 => ?_⟩
        tm_at "go"
        refine ⟨Nat.le_trans (Nat.add_le_add_right (wr_len hfo) 2) (by decide), ?_⟩
        rw [wr_split hfo]
        refine fun p2 np2 => ?_
        have hp5 : H5 p = some (.lst [.str (S "ask")]) := s5 _ _ upd_same
        refine ⟨p, p2, [.str (S "ask")], (wd f).map V.str, rfl, rfl, ?_, upd_same, ?_, fun p3 np3 => ?_⟩
        · rw [upd_ne (ne_of_none hp5 np2)]
          exact hp5
        · rw [List.length_map, List.length_singleton]
          have := wd_count hfo
          exact Nat.le_of_lt (small1000 (by omega))
        have sa : Same Hy (upd (upd H5 p2 (.lst ((wd f).map V.str))) p3 (.lst ([.str (S "ask")] ++ (wd f).map V.str))) := by tm_at "same"
        have hDa := sa _ _ hDx
        refine ⟨ws, hDa, small1000 (by omega), by tm_at "same", _, upd_same, ?_⟩
        rw [take_snoc hf, List.map_append]
        exact Wls.butL hDa (hws.refs) But.upd (Wls.append (hws.same sa) (Wls.cons (b := p3) (ws := fW (S "ask") f) (List.cons_ne_nil _ _) (SqL.of upd_same) .nil))
      · rintro H2 ⟨s2, ws, hD2, hws⟩
        have hwl := hws.length
        rw [List.length_map, List.length_take] at hwl
        rw [List.take_of_length_le (by omega)] at hws
        have hl8 : vs.length ≤ 100 := by
          have o1 := ok.gl; have o2 := ok.sl; have o3 := ok.al; have o4 := ok.kl; have o5 := ok.hl
          rw [hlv]
          simp only [List.length_append, List.length_map, List.length_singleton, List.length_cons, List.length_nil]
          omega
        refine ⟨a, D, vs, ws, rfl, rfl, s2 _ _ ha, hD2, Nat.le_of_lt (small1000 (by omega)), fun a2 na2 => ?_⟩
        exact ⟨a2, _, _, _, _, rfl, by tm_at "same", by tm_at "free", upd_same, Wls.append (hw.same (by tm_at "same")) (hws.same (same_new na2))⟩
    rintro σ H1 ⟨a, vs, x5, x6, x7, rfl, s1, na, ha, hw⟩
    refine ⟨fun σ H' => ∃ a vs x5 x6 x7, σ = [some (.ref t), some (.ref tc), some (.ref u2), some (.str r.rule), some (.ref a), x5, x6, x7] ∧ Same H H' ∧ H a = none ∧ H' a = some (.lst vs) ∧ Wls K H' vs ([[S "claim", r.a, S "with", r.b]] ++ r.gs.map (fW (S "given")) ++ r.ss.map (pW (S "same")) ++ r.as.map (fW (S "ask")) ++ r.ks.map (pW (S "keep"))), ?_, ?_⟩
    · have hlv := hw.length
      have hll := il6.length
      rw [List.length_map] at hll
      have okl := ok.kl
      have htc1 := s1.tk.tup htc
      have hu1 := s1.tk.tup ha6
      tm_at "go"
      refine ⟨⟨_, hu1⟩, fun D nD => ?_⟩
      have naD : a ≠ D := ne_of_none ha nD
      refine lc_it walk_tup (fun i H' => Same H1 H' ∧ ∃ ws, H' D = some (.lst ws) ∧ Wls K H' ws ((r.ks.take i).map (pW (S "keep")))) ⟨same_new nD, [], upd_same, by rw [List.take_zero]; exact .nil⟩ (fun i H' _ ⟨s, _⟩ => s.tk.tup hu1) ?_ ?_
      · rintro i v Hx Hy hlt ⟨sx, ws, hDx, hws⟩ ⟨rfl, hv⟩
        have hwl := hws.length
        rw [List.length_map, List.length_take] at hwl
        obtain ⟨pr, hf, him⟩ := ims_at il6 hv
        have himy := (s1.trans sx).tk.im him
        obtain ⟨tp, rfl, htp⟩ := qD_inv himy
        refine ⟨_, _, rfl, htp, rfl, ?_⟩
        tm_at "go"
        refine fun p3 np3 => ?_
        have sa : Same Hy (upd Hy p3 (.lst [.str (S "keep"), .str pr.1, .str pr.2])) := same_new np3
        have hDa := sa _ _ hDx
        refine ⟨ws, hDa, small1000 (by omega), by tm_at "same", _, upd_same, ?_⟩
        rw [take_snoc hf, List.map_append]
        exact Wls.butL hDa (hws.refs) But.upd (Wls.append (hws.same sa) (Wls.cons (b := p3) (ws := pW (S "keep") pr) (List.cons_ne_nil _ _) (SqL.of upd_same) .nil))
      · rintro H2 ⟨s2, ws, hD2, hws⟩
        have hwl := hws.length
        rw [List.length_map, List.length_take] at hwl
        rw [List.take_of_length_le (by omega)] at hws
        have hl8 : vs.length ≤ 100 := by
          have o1 := ok.gl; have o2 := ok.sl; have o3 := ok.al; have o4 := ok.kl; have o5 := ok.hl
          rw [hlv]
          simp only [List.length_append, List.length_map, List.length_singleton, List.length_cons, List.length_nil]
          omega
        refine ⟨a, D, vs, ws, rfl, rfl, s2 _ _ ha, hD2, Nat.le_of_lt (small1000 (by omega)), fun a2 na2 => ?_⟩
        exact ⟨a2, _, _, _, _, rfl, by tm_at "same", by tm_at "free", upd_same, Wls.append (hw.same (by tm_at "same")) (hws.same (same_new na2))⟩
    rintro σ H1 ⟨a, vs, x5, x6, x7, rfl, s1, na, ha, hw⟩
    refine ⟨fun σ H' => ∃ a vs x5 x6 x7, σ = [some (.ref t), some (.ref tc), some (.ref u2), some (.str r.rule), some (.ref a), x5, x6, x7] ∧ Same H H' ∧ H a = none ∧ H' a = some (.lst vs) ∧ Wls K H' vs ([[S "claim", r.a, S "with", r.b]] ++ r.gs.map (fW (S "given")) ++ r.ss.map (pW (S "same")) ++ r.as.map (fW (S "ask")) ++ r.ks.map (pW (S "keep")) ++ r.hs.map (fW (S "hint"))), ?_, ?_⟩
    · have hlv := hw.length
      have hll := ihs.length
      rw [List.length_map] at hll
      have okl := ok.hl
      have htc1 := s1.tk.tup htc
      have hu1 := s1.tk.tup hu2
      tm_at "go"
      refine ⟨⟨_, hu1⟩, fun D nD => ?_⟩
      have naD : a ≠ D := ne_of_none ha nD
      refine lc_it walk_tup (fun i H' => Same H1 H' ∧ ∃ ws, H' D = some (.lst ws) ∧ Wls K H' ws ((r.hs.take i).map (fW (S "hint")))) ⟨same_new nD, [], upd_same, by rw [List.take_zero]; exact .nil⟩ (fun i H' _ ⟨s, _⟩ => s.tk.tup hu1) ?_ ?_
      · rintro i v Hx Hy hlt ⟨sx, ws, hDx, hws⟩ ⟨rfl, hv⟩
        have hwl := hws.length
        rw [List.length_map, List.length_take] at hwl
        obtain ⟨f, hf, him⟩ := ims_at ihs hv
        have hfo := ok.h f (List.mem_of_getElem? hf)
        have himy := (s1.trans sx).tk.im him
        refine ⟨rfl, ?_⟩
        tm_at "go"
        refine fun p np => ?_
        have sp : Same Hy (upd Hy p (.lst [.str (S "hint")])) := same_new np
        tm_at "go"
        refine ⟨_, f, rfl, sp.tk.im himy, hfo, fun H5 s5 => ?_⟩
        tm_at "go"
        refine ⟨Nat.le_trans (Nat.add_le_add_right (wr_len hfo) 2) (by decide), ?_⟩
        rw [wr_split hfo]
        refine fun p2 np2 => ?_
        have hp5 : H5 p = some (.lst [.str (S "hint")]) := s5 _ _ upd_same
        refine ⟨p, p2, [.str (S "hint")], (wd f).map V.str, rfl, rfl, ?_, upd_same, ?_, fun p3 np3 => ?_⟩
        · rw [upd_ne (ne_of_none hp5 np2)]
          exact hp5
        · rw [List.length_map, List.length_singleton]
          have := wd_count hfo
          exact Nat.le_of_lt (small1000 (by omega))
        have sa : Same Hy (upd (upd H5 p2 (.lst ((wd f).map V.str))) p3 (.lst ([.str (S "hint")] ++ (wd f).map V.str))) := by tm_at "same"
        have hDa := sa _ _ hDx
        refine ⟨ws, hDa, small1000 (by omega), by tm_at "same", _, upd_same, ?_⟩
        rw [take_snoc hf, List.map_append]
        exact Wls.butL hDa (hws.refs) But.upd (Wls.append (hws.same sa) (Wls.cons (b := p3) (ws := fW (S "hint") f) (List.cons_ne_nil _ _) (SqL.of upd_same) .nil))
      · rintro H2 ⟨s2, ws, hD2, hws⟩
        have hwl := hws.length
        rw [List.length_map, List.length_take] at hwl
        rw [List.take_of_length_le (by omega)] at hws
        have hl8 : vs.length ≤ 100 := by
          have o1 := ok.gl; have o2 := ok.sl; have o3 := ok.al; have o4 := ok.kl; have o5 := ok.hl
          rw [hlv]
          simp only [List.length_append, List.length_map, List.length_singleton, List.length_cons, List.length_nil]
          omega
        refine ⟨a, D, vs, ws, rfl, rfl, s2 _ _ ha, hD2, Nat.le_of_lt (small1000 (by omega)), fun a2 na2 => ?_⟩
        exact ⟨a2, _, _, _, _, rfl, by tm_at "same", by tm_at "free", upd_same, Wls.append (hw.same (by tm_at "same")) (hws.same (same_new na2))⟩
    rintro σ H1 ⟨a, vs, x5, x6, x7, rfl, s1, na, ha, hw⟩
    have hr0 : ∀ z ∈ rules7 ++ [S "any", S "any", S "any"], z.length ≤ 20 ∧ (Txt.split z (S " ")).length ≤ 5 := by decide +kernel
    obtain ⟨hrl, hrs⟩ := hr0 _ ok.ru
    have hlv := hw.length
    have hl8 : vs.length ≤ 100 := by
      have o1 := ok.gl; have o2 := ok.sl; have o3 := ok.al; have o4 := ok.kl; have o5 := ok.hl
      rw [hlv]
      simp only [List.length_append, List.length_map, List.length_singleton, List.length_cons, List.length_nil]
      omega
    refine ⟨fun σ H' => ∃ vs, σ = [some (.ref t), some (.ref tc), some (.ref u2), some (.str r.rule), some (.ref a), x5, x6, x7] ∧ vs.length ≤ 101 ∧ Same H H' ∧ H' a = some (.lst vs) ∧ Wls K H' vs ([[S "claim", r.a, S "with", r.b]] ++ r.gs.map (fW (S "given")) ++ r.ss.map (pW (S "same")) ++ r.as.map (fW (S "ask")) ++ r.ks.map (pW (S "keep")) ++ r.hs.map (fW (S "hint")) ++ (if r.rule = S "any" then [] else [S "walk" :: Txt.split r.rule (S " ")])), ?_, ?_⟩
    · tm_at "go"
      refine ite2 (fun c => ?_) (fun c => ?_)
      · have c1 : ¬ r.rule = S "any" := fun z => by
          rw [decide_eq_true (congrArg V.str z)] at c
          exact absurd c (by decide)
        tm_at "go"
        refine fun p np => ?_
        tm_at "go"
        refine fun p2 np2 => ?_
        have hp : upd H1 p (.lst [.str (S "walk")]) p = some (.lst [.str (S "walk")]) := upd_same
        refine ⟨p, p2, [.str (S "walk")], (Txt.split r.rule (S " ")).map V.str, rfl, rfl, ?_, upd_same, ?_, fun p3 np3 => ?_⟩
        · rw [upd_ne (ne_of_none hp np2)]
          exact hp
        · rw [List.length_map, List.length_singleton]
          exact Nat.le_of_lt (small1000 (by omega))
        have sa : Same H1 (upd (upd (upd H1 p (.lst [.str (S "walk")])) p2 (.lst ((Txt.split r.rule (S " ")).map V.str))) p3 (.lst ([.str (S "walk")] ++ (Txt.split r.rule (S " ")).map V.str))) := by tm_at "same"
        have ha3 := sa _ _ ha
        refine ⟨a, vs, .ref p3, rfl, rfl, ha3, small1000 (by omega), ?_⟩
        refine ⟨_, rfl, by rw [List.length_append, List.length_singleton]; omega, (s1.trans sa).upd na, upd_same, ?_⟩
        rw [if_neg c1]
        exact Wls.butL ha3 (hw.refs) But.upd (Wls.append (hw.same sa) (Wls.cons (b := p3) (ws := S "walk" :: Txt.split r.rule (S " ")) (List.cons_ne_nil _ _) (SqL.of upd_same) .nil))
      · have c1 : r.rule = S "any" := by
          by_cases z : r.rule = S "any"
          · exact z
          · exact absurd (show (!decide (V.str r.rule = V.str (S "any"))) = true by rw [decide_eq_false (fun e => z (V.str.inj e))]; rfl) c
        refine ⟨vs, rfl, by omega, s1, ha, ?_⟩
        rw [if_pos c1, List.append_nil]
        exact hw
    · rintro σ H2 ⟨vs2, rfl, hl2, s2, ha2, hw2⟩
      tm_at "go"
      refine fun p np => ?_
      tm_at "go"
      refine fun p2 np2 => ?_
      have sp : Same H2 (upd (upd H2 p (.lst [.str (S "end")])) p2 (.lst [.ref p])) := by tm_at "same"
      refine ⟨a, p2, vs2, [.ref p], rfl, rfl, sp _ _ ha2, upd_same, ?_, fun p3 np3 => ?_⟩
      · rw [List.length_singleton]
        exact Nat.le_of_lt (small1000 (by omega))
      have sp3 : Same H2 (upd (upd (upd H2 p (.lst [.str (S "end")])) p2 (.lst [.ref p])) p3 (.lst (vs2 ++ [.ref p]))) := by tm_at "same"
      have hpe : upd (upd (upd H2 p (.lst [.str (S "end")])) p2 (.lst [.ref p])) p3 (.lst (vs2 ++ [.ref p])) p = some (.lst [.str (S "end")]) := by
        have h1 : upd H2 p (.lst [.str (S "end")]) p = some (.lst [.str (S "end")]) := upd_same
        have h2 : upd (upd H2 p (.lst [.str (S "end")])) p2 (.lst [.ref p]) p = some (.lst [.str (S "end")]) := by
          rw [upd_ne (ne_of_none h1 np2)]
          exact h1
        rw [upd_ne (ne_of_none h2 np3)]
        exact h2
      refine q p3 _ _ (s2.trans sp3) ?_ upd_same ?_
      · exact sameFreeR (sameFreeR np3 (by tm_at "same")) s2
      · exact Wls.append (hw2.same sp3) (Wls.cons (b := p) (ws := [S "end"]) (List.cons_ne_nil _ _) (SqL.of hpe) .nil)
end
end C
set_option Elab.async false
set_option linter.all false
set_option maxRecDepth 100000
set_option maxHeartbeats 4000000
/-! Q2: blanks between words; lines that hold words. -/
namespace M
open PySem PySem.Spec PyProof.Rows L2 Kx TL
theorem mul_blank (n : Nat) : tl (Txt.mul (S " ") (n : Int)) = List.replicate n 32 := by
  unfold Txt.mul
  by_cases h0 : n = 0
  · subst h0
    rfl
  rw [if_neg (by omega)]
  by_cases h1 : n = 1
  · subst h1
    exact (by decide +kernel : tl (S " ") = [32])
  · rw [if_neg (by
      have a : ((n : Int) == 1) = false := by
        rw [beq_eq_false_iff_ne]
        omega
      have b : ((S " ").length == 0) = false := by decide +kernel
      rw [a, b]
      decide)]
    have key : ∀ (m : Nat) (acc : Array Nat), ((List.replicate m (S " ").cps).foldl (· ++ ·) acc).toList = acc.toList ++ List.replicate m 32 := by
      intro m
      induction m with
      | zero =>
        intro acc
        exact (List.append_nil _).symm
      | succ m ih =>
        intro acc
        rw [List.replicate_succ, List.foldl_cons, ih, Array.toList_append, List.replicate_succ, List.append_assoc]
        rfl
    have := key n #[]
    exact this
theorem mul_ok {n : Nat} (h : n ≤ 1000) : MulOk (S " ") (n : Int) := by
  have e : (S " ").length = 1 := by decide +kernel
  have e63 : (2 : Int) ^ 63 = 9223372036854775808 := by decide
  refine ⟨?_, fun h1 h2 => ?_, fun h1 h2 => ?_⟩
  · rw [decide_eq_false (by rw [e63]; omega), decide_eq_false (by rw [e63]; omega)]
    rfl
  · rw [e, e63]
    have : (1 : Int) ≤ (9223372036854775808 - 1) / (n : Int) := Int.le_ediv_of_mul_le (by omega) (by omega)
    omega
  · rw [e, Nat.one_mul, Int.toNat_natCast]
    show decide (n > sizeLine) = false
    have : (1000 : Nat) ≤ sizeLine := by decide
    exact decide_eq_false (by omega)
theorem wfold_blanks : ∀ (n : Nat) (pre : List (List Nat)) (u : List Nat), (List.replicate n 32).foldl wstep (pre, u) = if n = 0 then (pre, u) else (wfin (pre, u), [])
  | 0, _, _ => rfl
  | n + 1, pre, u => by
    rw [List.replicate_succ, List.foldl_cons, if_neg (by omega)]
    have e : wstep (pre, u) 32 = (wfin (pre, u), []) := by
      have a : wstep (pre, u) 32 = (if u = [] then (pre, u) else (pre ++ [u], [])) := if_pos sp32
      rw [a]
      unfold wfin
      by_cases h : u = []
      · rw [if_pos h, if_pos h, h]
      · rw [if_neg h, if_neg h]
    rw [e, wfold_blanks n]
    have e2 : wfin (wfin (pre, u), []) = wfin (pre, u) := if_pos rfl
    by_cases h : n = 0
    · rw [if_pos h]
    · rw [if_neg h, e2]
/-- a text whose words so far are W; nothing is under way where z holds -/
structure Spc (T : Str) (W : List Str) (z : Prop) : Prop where
  st : ∃ pre u, (tl T).foldl wstep ([], []) = (pre, u) ∧ wfin (pre, u) = W.map tl ∧ (z → u = [])
  nl : 10 ∉ tl T
theorem Spc.mono {T : Str} {W : List Str} {z y : Prop} (h : Spc T W z) (q : y → z) : Spc T W y := by
  obtain ⟨⟨pre, u, e, f, g⟩, nl⟩ := h
  exact ⟨⟨pre, u, e, f, fun k => g (q k)⟩, nl⟩
theorem Spc.words {T : Str} {W : List Str} {z : Prop} (h : Spc T W z) : Txt.words T = W := by
  obtain ⟨pre, u, e, f, _⟩ := h.st
  have g := words_tl T
  rw [e, f] at g
  have inj : ∀ {l m : List Str}, l.map tl = m.map tl → l = m := by
    intro l
    induction l with
    | nil =>
      intro m h
      cases m with
      | nil => rfl
      | cons _ _ => cases h
    | cons a r ih =>
      intro m h
      cases m with
      | nil => cases h
      | cons b s =>
        rw [List.map_cons, List.map_cons] at h
        injection h with h1 h2
        rw [ext_tl h1, ih h2]
  exact inj g
theorem blank_free (n : Nat) : 10 ∉ List.replicate n 32 := fun h => by
  have := (List.mem_replicate.mp h).2
  omega
theorem Spc.start (n : Nat) (z : Prop) : Spc (Txt.mul (S " ") (n : Int)) [] z := by
  refine ⟨?_, by rw [mul_blank]; exact blank_free n⟩
  rw [mul_blank, wfold_blanks]
  by_cases h : n = 0
  · rw [if_pos h]
    exact ⟨_, _, rfl, rfl, fun _ => rfl⟩
  · rw [if_neg h]
    exact ⟨_, _, rfl, rfl, fun _ => rfl⟩
theorem Spc.blanks {T : Str} {W : List Str} {z : Prop} (h : Spc T W z) (n : Nat) (y : Prop) (hy : y → z ∨ n ≠ 0) : Spc (T ++ Txt.mul (S " ") (n : Int)) W y := by
  obtain ⟨⟨pre, u, e, f, g⟩, nl⟩ := h
  refine ⟨?_, ?_⟩
  · rw [tl_append, mul_blank, List.foldl_append, e, wfold_blanks]
    by_cases h : n = 0
    · rw [if_pos h]
      exact ⟨_, _, rfl, f, fun q => (hy q).elim g fun n => absurd h n⟩
    · rw [if_neg h]
      exact ⟨_, _, rfl, (show wfin (wfin (pre, u), []) = W.map tl from (if_pos rfl : wfin (wfin (pre, u), []) = wfin (pre, u)).trans f), fun _ => rfl⟩
  · rw [tl_append, mul_blank]
    exact fun m => (List.mem_append.mp m).elim nl (blank_free n)
theorem Spc.word {T : Str} {W : List Str} {x : Str} (h : Spc T W True) (hx : Clean x) : Spc (T ++ x) (W ++ [x]) False := by
  obtain ⟨⟨pre, u, e, f, g⟩, nl⟩ := h
  obtain rfl := g trivial
  have f2 : pre = W.map tl := (show wfin (pre, []) = pre from if_pos rfl).symm.trans f
  refine ⟨?_, ?_⟩
  · rw [tl_append, List.foldl_append, e, wfold_word _ _ _ hx.2, List.nil_append]
    refine ⟨_, _, rfl, ?_, fun q => q.elim⟩
    rw [List.map_append, ← f2]
    exact if_neg hx.1
  · rw [tl_append]
    exact fun m => (List.mem_append.mp m).elim nl (hx.no sp10)
/-! ### lines that hold words -/
structure Lay (ls : List Str) (W : List (List Str)) : Prop where
  ws : (ls.map Txt.words).filter (fun w => !w.isEmpty) = W
  nl : ∀ x ∈ ls, 10 ∉ tl x
  len : ∀ x ∈ ls, x.length ≤ 20000
theorem Lay.nil : Lay [] [] := ⟨rfl, fun _ h => (by cases h), fun _ h => (by cases h)⟩
theorem Lay.append {ls ms : List Str} {W X : List (List Str)} (a : Lay ls W) (b : Lay ms X) : Lay (ls ++ ms) (W ++ X) := by
  refine ⟨?_, fun x h => ?_, fun x h => ?_⟩
  · rw [List.map_append, List.filter_append, a.ws, b.ws]
  · exact (List.mem_append.mp h).elim (a.nl x) (b.nl x)
  · exact (List.mem_append.mp h).elim (a.len x) (b.len x)
theorem Lay.one {T : Str} {ws : List Str} (hw : Txt.words T = ws) (hn : 10 ∉ tl T) (hl : T.length ≤ 20000) (h0 : ws ≠ []) : Lay [T] [ws] := by
  refine ⟨?_, fun x h => ?_, fun x h => ?_⟩
  · rw [List.map_singleton, hw, List.filter_cons_of_pos]
    · rfl
    · cases ws with
      | nil => exact absurd rfl h0
      | cons _ _ => rfl
  · rw [List.mem_singleton.mp h]
    exact hn
  · rw [List.mem_singleton.mp h]
    exact hl
theorem Lay.blank {T : Str} (hw : Txt.words T = []) (hn : 10 ∉ tl T) (hl : T.length ≤ 20000) : Lay [T] [] := by
  refine ⟨?_, fun x h => ?_, fun x h => ?_⟩
  · rw [List.map_singleton, hw]
    rfl
  · rw [List.mem_singleton.mp h]
    exact hn
  · rw [List.mem_singleton.mp h]
    exact hl
theorem len_blank (n : Nat) : (Txt.mul (S " ") (n : Int)).length = n := by
  rw [len_tl, mul_blank, List.length_replicate]
theorem Lay.blanks {n : Nat} (h : n ≤ 1000) : Lay [Txt.mul (S " ") (n : Int)] [] :=
  .blank (Spc.start n True).words (Spc.start n True).nl (by rw [len_blank]; omega)
/-- words of a line -/
structure WOk (ws : List Str) : Prop where
  cl : ∀ x ∈ ws, Clean x ∧ x.length ≤ 142
  le : ws.length ≤ 102
end M
set_option Elab.async false
set_option linter.all false
set_option pp.maxSteps 1500
set_option maxRecDepth 100000
set_option maxHeartbeats 4000000
namespace C
open PySem PySem.Spec PyProof.Rows L2 Kx M TL
local macro_rules | `(tactic| tm_at "same") => `(tactic| first
  | assumption
  | exact L2.Same.refl _
  | exact L2.Same.upd (by tm_at "same") (by tm_at "free")
  | exact sameTransR (by assumption) (by tm_at "same"))
local macro_rules | `(tactic| tm_at "free") => `(tactic| first
  | assumption
  | exact sameFreeR (by assumption) (by tm_at "same"))
local macro_rules | `(tactic| tm_at "but") => `(tactic| first
  | assumption
  | exact But.refl _ _
  | exact But.transR (by assumption) (by tm_at "but")
  | exact But.upd
  | exact But.self (by tm_at "but")
  | exact But.new1 (by tm_at "but") (by assumption)
  | exact But.new (by tm_at "but") (by tm_at "free")
  | exact L2.Same.but (by assumption) _)
local macro_rules | `(tactic| tm_at "fact") => `(tactic| first
  | exact upd_same
  | assumption
  | exact SqL.of upd_same
  | exact SqT.of upd_same
  | exact SqL.of (by assumption)
  | exact SqT.of (by assumption)
  | exact But.lstR (by assumption) (by assumption) (by tm_at "but"))
local macro_rules | `(tactic| tm_at "cond") => `(tactic| first
  | rfl
  | assumption
  | decide
  | omega
  | exact ⟨by decide, by decide⟩
  | exact .inr ⟨by decide, by decide⟩
  | exact .inl ⟨by decide, by decide⟩
  | exact ⟨by decide, by decide, by decide⟩
  | exact cdivw (by assumption) (by assumption)
  | exact log2_ok (by assumption)
  | exact Or.inl ⟨rfl, _, SqL.of upd_same⟩
  | exact Or.inl ⟨rfl, _, SqL.of (by assumption)⟩
  | exact ⟨_, rfl⟩
  | exact Nat.le_of_ble_eq_true rfl
  | exact small1000 (by omega))
local macro_rules | `(tactic| tm_at "prop") => `(tactic| first
  | assumption
  | omega)
local macro_rules | `(tactic| tm_at "s") => `(tactic| first
  | refine ⟨_, rfl, ?_⟩
  | refine ⟨_, _, rfl, rfl, ?_⟩
  | refine ⟨_, _, _, rfl, rfl, (by tm_at "fact"), (by tm_at "cond"), ?_⟩
  | refine ⟨_, _, _, _, rfl, rfl, (by tm_at "fact"), rfl, ?_⟩
  | refine ⟨_, _, rfl, (by tm_at "fact"), ?_⟩
  | refine And.intro (by tm_at "cond") ?_
  | refine .inl ⟨_, rfl, ?_⟩
  | refine ⟨_, _, rfl, .inl (by tm_at "fact"), ?_⟩
  | refine dec_false (by tm_at "prop") ?_
  | refine dec_true (by tm_at "prop") ?_
  | refine decN_false (by tm_at "prop") ?_
  | refine decN_true (by tm_at "prop") ?_
  | refine iteT ?_
  | refine iteF ?_
  | refine ⟨_, _, rfl, ?_⟩)
local macro_rules | `(tactic| tm_at "go") => `(tactic| repeat tm_at "s")

section
variable {P : Program} {w : World} {K : PySem.W.Frag} {mg : Str → Option Value} {base : Heap} {aH aR : Addr}
/-! ### a class that is called -/
structure KDef (K : PySem.W.Frag) (Cl : Addr) (qual : Str) (st : Stmt) (ps : List Str) : Prop where
  ex : ∃ (f : Addr) (fd : FuncData), Fun K "__init__" qual st f fd ∧ Mk K Cl f ∧ Binds K fd ps []
structure KCal (P : Program) (w : World) (K : PySem.W.Frag) (mg : Str → Option Value) (base : Heap) (CX : CXT) (k : Nat) (Cl : Addr) (ps : List Str) (sp : Sp) : Prop where
  ex : ∃ (f : Addr) (fd : FuncData), FnOk P w K mg base CX k f fd ps sp ∧ Mk K Cl f ∧ Binds K fd ps []
theorem KCal.mono {j k : Nat} {CX : CXT} {Cl : Addr} {ps : List Str} {sp : Sp} (c : KCal P w K mg base CX j Cl ps sp) (h : j ≤ k) : KCal P w K mg base CX k Cl ps sp := by
  obtain ⟨f, fd, a, b, d⟩ := c.ex
  exact ⟨f, fd, a.mono h, b, d⟩
theorem KDef.cal {CX : CXT} {k : Nat} {Cl : Addr} {qual : Str} {st : Stmt} {ps : List Str} {sp : Sp} (D : KDef K Cl qual st ps)
    (h : ∀ f fd, Fun K "__init__" qual st f fd → FnOk P w K mg base CX k f fd ps sp) : KCal P w K mg base CX k Cl ps sp := by
  obtain ⟨f, fd, a, b, c⟩ := D.ex
  exact ⟨f, fd, h f fd a, b, c⟩
theorem pe_kcal {X : Cx} {k : Nat} {x : Str} {Cl : Addr} {ps : List Str} {sp : Sp} {p pos : Pos} (c : KCal X.prog X.w X.K X.mg X.base CX0 k Cl ps sp) (hr : Room (k + 1) X.A) (hg : Gl X x) (hm : X.mg x = some (.ref Cl))
    (hdb : (x == ("__debug__" : Str)) = false := by decide) : PE X (.Call (.Name x p) [] [] pos) (tMake Cl sp [] E0 tNil) := by
  obtain ⟨f, fd, F, M, b⟩ := c.ex
  exact pe_make0 M F hr hg hm b .nil pass0 hdb
/-! ### the reader in the heap -/
def heads6 : List Str := [S "given", S "same", S "ask", S "keep", S "hint", S "walk"]
def partKV (ads : List Addr) : List (Key × V) := (heads6.zip ads).map fun p => (Sum.inr p.1, V.ref p.2)
structure RS where
  rows : List PyData
  names : Option (Str × Str)
  cont : List (List PyData)
  stage : Int
def nmV : Option (Str × Str) → List V
  | none => []
  | some p => [.str p.1, .str p.2]
def nmD : Option (Str × Str) → List PyData
  | none => []
  | some p => [.str p.1, .str p.2]
theorem nm_ims {K : PySem.W.Frag} {H : Hp} : ∀ n : Option (Str × Str), Ims K H (nmV n) (nmD n)
  | none => .nil
  | some p => .cons (.str _) (.cons (.str _) .nil)
def flds (a b c d : V) : List (Str × V) := [(S "found", a), (S "names", b), (S "parts", c), (S "stage", d)]
theorem sk {f g : Str} {v x : V} {r : List (Str × V)} (h : ¬ g = f) : putF f v ((g, x) :: r) = (g, x) :: putF f v r := if_neg h
theorem ht {f : Str} {v x : V} {r : List (Str × V)} : putF f v ((f, x) :: r) = (f, v) :: r := if_pos rfl
theorem n12 : ¬ S "found" = S "names" := by decide +kernel
theorem n13 : ¬ S "found" = S "parts" := by decide +kernel
theorem n14 : ¬ S "found" = S "stage" := by decide +kernel
theorem n23 : ¬ S "names" = S "parts" := by decide +kernel
theorem n24 : ¬ S "names" = S "stage" := by decide +kernel
theorem n34 : ¬ S "parts" = S "stage" := by decide +kernel
theorem pf2 (a b : V) : putF (S "names") b [(S "found", a)] = [(S "found", a), (S "names", b)] := sk n12
theorem pf3 (a b c : V) : putF (S "parts") c [(S "found", a), (S "names", b)] = [(S "found", a), (S "names", b), (S "parts", c)] := by rw [sk n13, sk n23] <;> rfl
theorem pf4 (a b c d : V) : putF (S "stage") d [(S "found", a), (S "names", b), (S "parts", c)] = flds a b c d := by rw [sk n14, sk n24, sk n34] <;> rfl
theorem pu2 (a b c d v : V) : putF (S "names") v (flds a b c d) = flds a v c d := by
  unfold flds
  rw [sk n12, ht]
theorem pu3 (a b c d v : V) : putF (S "parts") v (flds a b c d) = flds a b v d := by
  unfold flds
  rw [sk n13, sk n23, ht]
theorem pu4 (a b c d v : V) : putF (S "stage") v (flds a b c d) = flds a b c v := by
  unfold flds
  rw [sk n14, sk n24, sk n34, ht]
theorem lk {f g : Str} {x : V} {r : List (Str × V)} (h : ¬ g = f) : ((g, x) :: r).lookup f = r.lookup f := by
  have hb : (f == g) = false := beq_eq_false_iff_ne.mpr fun e => h e.symm
  simp only [List.lookup, hb]
theorem lh {f : Str} {x : V} {r : List (Str × V)} : ((f, x) :: r).lookup f = some x := by
  have hb : (f == f) = true := beq_iff_eq.mpr rfl
  simp only [List.lookup, hb]
theorem lk1 (a b c d : V) : (flds a b c d).lookup (S "found") = some a := lh
theorem lk2 (a b c d : V) : (flds a b c d).lookup (S "names") = some b := by
  unfold flds
  rw [lk n12, lh]
theorem lk3 (a b c d : V) : (flds a b c d).lookup (S "parts") = some c := by
  unfold flds
  rw [lk n13, lk n23, lh]
theorem lk4 (a b c d : V) : (flds a b c d).lookup (S "stage") = some d := by
  unfold flds
  rw [lk n14, lk n24, lk n34, lh]
/-- the reader rd stands in H; all of H0 is left as it is -/
structure RdIn (K : PySem.W.Frag) (Cl rd : Addr) (H0 H : Hp) (s : RS) (dx lf tn d : Addr) (vs : List V) (ads : List Addr) : Prop where
  same : Same H0 H
  ins : H rd = some (.ins Cl dx (flds (.ref lf) (.ref tn) (.ref d) (.int s.stage)))
  n0 : H0 rd = none
  lst : H lf = some (.lst vs)
  nl : H0 lf = none
  rows : Ims K H vs s.rows
  nms : SqT K H tn (nmV s.names)
  prt : H d = some (.dK (partKV ads))
  len : ads.length = s.cont.length
  six : s.names ≠ none → s.cont.length = 6
  nd : ads.Nodup
  lf_ads : lf ∉ ads
  na : ∀ a ∈ ads, H0 a = none
  at_ : ∀ (i : Nat) (a : Addr) (ds : List PyData), ads[i]? = some a → s.cont[i]? = some ds → ∃ ws, H a = some (.lst ws) ∧ Ims K H ws ds
def RdAt (K : PySem.W.Frag) (Cl rd : Addr) (H0 H : Hp) (s : RS) : Prop := ∃ dx lf tn d vs ads, RdIn K Cl rd H0 H s dx lf tn d vs ads
structure Rk (K : PySem.W.Frag) (Cl : Addr) : Prop where
  cl : Cls K Cl
  nF : NoAttr K Cl "found"
  nN : NoAttr K Cl "names"
  nP : NoAttr K Cl "parts"
  nS : NoAttr K Cl "stage"
def s0 : RS := ⟨[], none, [], -1⟩
def spInit (K : PySem.W.Frag) (Cl : Addr) : Sp := fun vs H Q _ => ∃ (rd dx : Addr) (H0 : Hp), vs = [.ref rd] ∧ H rd = some (.ins Cl dx []) ∧ Same H0 H ∧ H0 rd = none ∧ ∀ H', RdAt K Cl rd H0 H' s0 → Q .non H'
theorem sc_ClaimReader___init__ : FnScope ["self"] ["self"] (defScope s_ClaimReader___init__) := ⟨rfl, rfl, rfl, by decide +kernel, rfl, by decide +kernel, by decide +kernel⟩
theorem ok_init {k : Nat} {Cl : Addr} (D : KDef K Cl "ClaimReader.__init__" s_ClaimReader___init__ ["self"]) (R : Rk K Cl) : KCal P w K mg base CX0 (k + 1) Cl ["self"] (spInit K Cl) := by
  refine D.cal fun f fd F => F.ok sc_ClaimReader___init__ (fun vs H Q E h => ?_) (fun cdv A outer s H vs Q E hr h => ?_)
  · obtain ⟨rd, dx, H0, rfl, _⟩ := h
    rfl
  · obtain ⟨rd, dx, H0, rfl, hrd, sm, n0, q⟩ := h
    have nd := sc_ClaimReader___init__.nd
    refine ⟨_, (pss_cons (ps_fld (pv 0) (pe_lst pa_nil) rfl)
      (pss_cons (ps_fld (pv 0) (pe_tup pa_nil) rfl)
      (pss_cons (ps_fld (pv 0) pe_dnewK rfl)
      (pss_one (ps_fld (pv 0) (pe_un un_neg pe_int) rfl))))), ?_⟩
    tm_at "go"
    refine fun lf nlf => ?_
    have hrd1 : upd H lf (.lst []) rd = some (.ins Cl dx []) := by
      rw [upd_ne (ne_of_none hrd nlf)]
      exact hrd
    refine ⟨_, rfl, rd, Cl, dx, [], rfl, hrd1, R.cl, R.nF, by decide, ?_⟩
    tm_at "go"
    refine fun tn ntn => ?_
    have hrd2 : upd (upd (upd H lf (.lst [])) rd (.ins Cl dx [(S "found", .ref lf)])) tn (.tup []) rd = some (.ins Cl dx [(S "found", .ref lf)]) := by
      rw [upd_ne (ne_of_none upd_same ntn), upd_same]
    refine ⟨_, rfl, rd, Cl, dx, _, rfl, hrd2, R.cl, R.nN, Nat.le_of_ble_eq_true rfl, ?_⟩
    rw [pf2]
    refine fun d ndd => ?_
    have hrd3 : upd (upd (upd (upd (upd H lf (.lst [])) rd (.ins Cl dx [(S "found", .ref lf)])) tn (.tup [])) rd (.ins Cl dx [(S "found", .ref lf), (S "names", .ref tn)])) d (.dK []) rd = some (.ins Cl dx [(S "found", .ref lf), (S "names", .ref tn)]) := by
      rw [upd_ne (ne_of_none upd_same ndd), upd_same]
    refine ⟨_, rfl, rd, Cl, dx, _, rfl, hrd3, R.cl, R.nP, Nat.le_of_ble_eq_true rfl, ?_⟩
    rw [pf3]
    tm_at "go"
    refine ⟨rd, Cl, dx, _, rfl, upd_same, R.cl, R.nS, Nat.le_of_ble_eq_true rfl, ?_⟩
    rw [pf4]
    have ne1 : rd ≠ lf := ne_of_none hrd nlf
    have hl2 : upd (upd H lf (.lst [])) rd (.ins Cl dx [(S "found", .ref lf)]) lf = some (.lst []) := by
      rw [upd_ne ne1.symm, upd_same]
    have ne2 : lf ≠ tn := ne_of_none hl2 ntn
    have ne3 : rd ≠ tn := ne_of_none upd_same ntn
    have hl3 : upd (upd (upd (upd H lf (.lst [])) rd (.ins Cl dx [(S "found", .ref lf)])) tn (.tup [])) rd (.ins Cl dx [(S "found", .ref lf), (S "names", .ref tn)]) lf = some (.lst []) := by
      rw [upd_ne ne1.symm, upd_ne ne2]
      exact hl2
    have ht3 : upd (upd (upd (upd H lf (.lst [])) rd (.ins Cl dx [(S "found", .ref lf)])) tn (.tup [])) rd (.ins Cl dx [(S "found", .ref lf), (S "names", .ref tn)]) tn = some (.tup []) := by
      rw [upd_ne ne3.symm, upd_same]
    have ne4 : lf ≠ d := ne_of_none hl3 ndd
    have ne5 : tn ≠ d := ne_of_none ht3 ndd
    have ne6 : rd ≠ d := ne_of_none upd_same ndd
    refine q _ ⟨dx, lf, tn, d, [], [], ?_, upd_same, n0, ?_, by tm_at "free", .nil, SqT.of ?_, ?_, rfl, fun z => absurd rfl z, List.nodup_nil, fun z => (by cases z), fun a z => (by cases z), fun i a ds z => (by cases z)⟩
    · tm_at "same"
    · rw [upd_ne ne1.symm, upd_ne ne1.symm, upd_ne ne4]
      exact hl3
    · rw [upd_ne ne3.symm, upd_ne ne3.symm, upd_ne ne5]
      exact ht3
    · rw [upd_ne ne6.symm, upd_ne ne6.symm, upd_same]
      rfl
end
end C
set_option Elab.async false
set_option linter.all false
set_option pp.maxSteps 1500
set_option maxRecDepth 100000
set_option maxHeartbeats 4000000
namespace C
open PySem PySem.Spec PyProof.Rows L2 Kx M TL
local macro_rules | `(tactic| tm_at "same") => `(tactic| first
  | assumption
  | exact L2.Same.refl _
  | exact L2.Same.upd (by tm_at "same") (by tm_at "free")
  | exact sameTransR (by assumption) (by tm_at "same"))
local macro_rules | `(tactic| tm_at "free") => `(tactic| first
  | assumption
  | exact sameFreeR (by assumption) (by tm_at "same"))
local macro_rules | `(tactic| tm_at "but") => `(tactic| first
  | assumption
  | exact But.refl _ _
  | exact But.transR (by assumption) (by tm_at "but")
  | exact But.upd
  | exact But.self (by tm_at "but")
  | exact But.new1 (by tm_at "but") (by assumption)
  | exact But.new (by tm_at "but") (by tm_at "free")
  | exact L2.Same.but (by assumption) _)
local macro_rules | `(tactic| tm_at "fact") => `(tactic| first
  | exact upd_same
  | assumption
  | exact SqL.of upd_same
  | exact SqT.of upd_same
  | exact SqL.of (by assumption)
  | exact SqT.of (by assumption)
  | exact But.lstR (by assumption) (by assumption) (by tm_at "but"))
local macro_rules | `(tactic| tm_at "cond") => `(tactic| first
  | rfl
  | assumption
  | decide
  | omega
  | exact ⟨by decide, by decide⟩
  | exact .inr ⟨by decide, by decide⟩
  | exact .inl ⟨by decide, by decide⟩
  | exact ⟨by decide, by decide, by decide⟩
  | exact cdivw (by assumption) (by assumption)
  | exact log2_ok (by assumption)
  | exact Or.inl ⟨rfl, _, SqL.of upd_same⟩
  | exact Or.inl ⟨rfl, _, SqL.of (by assumption)⟩
  | exact ⟨_, rfl⟩
  | exact Nat.le_of_ble_eq_true rfl
  | exact small1000 (by omega))
local macro_rules | `(tactic| tm_at "prop") => `(tactic| first
  | assumption
  | omega)
local macro_rules | `(tactic| tm_at "s") => `(tactic| first
  | refine ⟨_, rfl, ?_⟩
  | refine ⟨_, _, rfl, rfl, ?_⟩
  | refine ⟨_, _, _, rfl, rfl, (by tm_at "fact"), (by tm_at "cond"), ?_⟩
  | refine ⟨_, _, _, _, rfl, rfl, (by tm_at "fact"), rfl, ?_⟩
  | refine ⟨_, _, rfl, (by tm_at "fact"), ?_⟩
  | refine And.intro (by tm_at "cond") ?_
  | refine .inl ⟨_, rfl, ?_⟩
  | refine ⟨_, _, rfl, .inl (by tm_at "fact"), ?_⟩
  | refine dec_false (by tm_at "prop") ?_
  | refine dec_true (by tm_at "prop") ?_
  | refine decN_false (by tm_at "prop") ?_
  | refine decN_true (by tm_at "prop") ?_
  | refine iteT ?_
  | refine iteF ?_
  | refine ⟨_, _, rfl, ?_⟩)
local macro_rules | `(tactic| tm_at "go") => `(tactic| repeat tm_at "s")

section
variable {P : Program} {w : World} {K : PySem.W.Frag} {mg : Str → Option Value} {base : Heap} {aH aR : Addr}
/-- a dict comprehension over a walk: Pv by the turn and the heap (the new dict at D within) -/
theorem dc_it {J : It} {n : Nat} {G' : Hp → Prop} {Y : Nat → Hp → V → Hp → Prop} (wk : Walk J n G' Y) {g : TG} {tt : TT} {tk tv : TE} {vs : List Nat} {σ : L2.St} {H1 : Hp} {D : Addr} {Qd : Hp → Prop} (Pv : Nat → Hp → Prop) (h0 : Pv 0 (upd H1 D (.dK []))) (hG : ∀ i H, i ≤ n → Pv i H → G' H)
    (hs : ∀ i x H H', i < n → Pv i H → Y i H x H' → g x (wipe σ vs) H' fun σ2 H2 => wipe σ2 vs = wipe σ vs ∧ tt σ2 H2 fun b H3 =>
      if b = true then tk σ2 H3 fun y H4 => tv σ2 H4 fun z H5 => ∃ kvs k, y = kV k ∧ H5 D = some (.dK kvs) ∧ kvs.length < sizeLine ∧ Pv (i + 1) (upd H5 D (.dK (putK kvs k z))) else Pv (i + 1) H3) (hd : ∀ H, Pv n H → Qd H) :
    ∃ W : Nat → Nat → Hp → Prop, (∃ m, W 0 m (upd H1 D (.dK []))) ∧ ∀ i m H, W i m H →
      (J.stop i H ∧ Qd H) ∨ (J.go i H ∧ ∃ Nx : Hp → Prop, (∀ H', Nx H' → ∃ m', m' < m ∧ W (i + 1) m' H') ∧ ∀ x H', J.yld i H x H' → g x (wipe σ vs) H' fun σ2 H2 => wipe σ2 vs = wipe σ vs ∧ tt σ2 H2 fun b H3 =>
        if b = true then tk σ2 H3 fun y H4 => tv σ2 H4 fun z H5 => ∃ kvs k, y = kV k ∧ H5 D = some (.dK kvs) ∧ kvs.length < sizeLine ∧ Nx (upd H5 D (.dK (putK kvs k z))) else Nx H3) := by
  refine ⟨fun i m H => m = n - i ∧ i ≤ n ∧ Pv i H, ⟨n, by simp, Nat.zero_le _, h0⟩, ?_⟩
  rintro i m H ⟨rfl, hi, p⟩
  have q := hG i H hi p
  by_cases hlt : i < n
  · refine .inr ⟨wk.goes i H hlt q, Pv (i + 1), fun H' p' => ⟨n - (i + 1), by omega, rfl, hlt, p'⟩, fun x H' y => hs i x H H' hlt p (wk.yields i H x H' hlt q y)⟩
  · have e : i = n := by omega
    subst e
    exact .inl ⟨wk.stops H q, hd H p⟩
theorem eqv_nil : PyData.eqv (.tuple []) (.tuple []) = true := by
  simp only [PyData.eqv, PyData.eqvAll]
theorem zip_snoc {α β : Type} : ∀ (l : List α) (as : List β) (x : β) (y : α), l[as.length]? = some y → l.zip (as ++ [x]) = l.zip as ++ [(y, x)]
  | [], _, _, _, h => by simp at h
  | a :: l, [], x, y, h => by
    cases h
    cases l <;> rfl
  | a :: l, b :: as, x, y, h => by
    rw [List.cons_append, List.zip_cons_cons, List.zip_cons_cons, zip_snoc l as x y h]
    rfl
theorem heads_nodup : heads6.Nodup := by decide +kernel
theorem part_put {as : List Addr} {x : Addr} {h : Str} (e : heads6[as.length]? = some h) : putK (partKV as) (Sum.inr h) (.ref x) = partKV (as ++ [x]) := by
  unfold partKV
  rw [zip_snoc _ _ _ _ e, List.map_append]
  unfold putK
  rw [if_neg]
  · rfl
  · intro z
    obtain ⟨kv, h1, h2⟩ := List.any_eq_true.mp z
    obtain ⟨p, h3, rfl⟩ := List.mem_map.mp h1
    have h4 : p.1 = h := Sum.inr.inj (of_decide_eq_true h2)
    obtain ⟨i, hi, h5⟩ := List.getElem_of_mem h3
    rw [List.length_zip] at hi
    have h6 : heads6[i]? = some h := by
      rw [← h4, ← h5, List.getElem_zip, List.getElem?_eq_getElem]
    have h7 := nd_ix heads_nodup e h6
    omega
/-! ### take_head -/
def spHead (K : PySem.W.Frag) (Cl : Addr) : Sp := fun vs H Q _ => ∃ (rd wl : Addr) (H0 : Hp) (s : RS) (a b : Str), vs = [.ref rd, .ref wl] ∧ RdAt K Cl rd H0 H s ∧ SqL K H wl [.str (S "claim"), .str a, .str (S "with"), .str b] ∧ s.names = none ∧
  ∀ H', RdAt K Cl rd H0 H' ⟨s.rows, some (a, b), List.replicate 6 [], 0⟩ → Q (.bl true) H'
theorem sc_ClaimReader_take_head : FnScope ["self", "words", "head"] ["self", "words"] (defScope s_ClaimReader_take_head) := ⟨rfl, rfl, rfl, by decide +kernel, rfl, by decide +kernel, by decide +kernel⟩
theorem ok_head {k : Nat} {Cl : Addr} (D : MDef K Cl "take_head" "ClaimReader.take_head" s_ClaimReader_take_head ["self", "words"]) (R : Rk K Cl) (B : Bi mg) (G : Gb K mg aH aR) : MCal P w K mg base CX0 (k + 1) Cl "take_head" ["self", "words"] (spHead K Cl) := by
  refine D.cal fun f fd F => F.ok sc_ClaimReader_take_head (fun vs H Q E h => ?_) (fun cdv A outer s H vs Q E hr h => ?_)
  · obtain ⟨rd, wl, H0, s, a, b, rfl, _⟩ := h
    rfl
  · obtain ⟨rd, wl, H0, r, a, b, rfl, ⟨dx, lf, tn, d, vs, ads, I⟩, hw, hn, q⟩ := h
    have nd := sc_ClaimReader_take_head.nd
    have hins := I.ins
    have hnm := I.nms
    rw [hn] at hnm
    refine ⟨_, (pss_cons (ps_if (PW.pt (pw_or (pt_cmpR (op_neD hr.units) (pe_fld (pv 0) rfl) (pe_tup pa_nil) (nomark _)) (pw_or (pt_cmpR op_ne (pe_callB call_len_seq (by rfl) B.len (by decide +kernel) (pa_cons (pv 1) pa_nil)) pe_int (nomark _)) (pw_or1 (pt_cmpR op_ne (pe_ix ix_list (pv 1) pe_int (fun _ _ => rfl)) pe_str (nomark _))))))
        (pss_one (ps_ret pe_bl))
        pss_nil)
      (pss_cons (ps_fld (pv 0) (pe_tup (pa_cons (pe_ix ix_list (pv 1) pe_int (fun _ _ => rfl)) (pa_cons (pe_ix ix_list (pv 1) pe_int (fun _ _ => rfl)) pa_nil))) rfl)
      (pss_cons (ps_fld (pv 0) (pe_dc (own := [("head", 2)]) (by rfl) nd (pi_tup (pe_globR (by rfl) G.HEADS)) (blkOk_by (own := [("head", 2)]) (N := ["self", "words", "head"]) (sc := defScope s_ClaimReader_take_head) (by decide +kernel)) (fun _ _ _ _ _ => (pg_name (i := 2) nd rfl (Or.inl rfl))) (fun _ _ _ _ _ => pts_nil) (fun _ _ _ _ _ => (pv 2)) (fun _ _ _ _ _ => (pe_lst pa_nil))) rfl)
      (pss_cons (ps_fld (pv 0) pe_int rfl)
      (pss_one (ps_ret pe_bl)))))), ?_⟩
    refine ⟨_, rfl, rd, Cl, dx, _, _, rfl, hins, R.cl, R.nN, lk2 _ _ _ _, ?_⟩
    tm_at "go"
    refine fun p np => ?_
    have s1 : Same H (upd H p (.tup [])) := same_new np
    have hins1 := s1 _ _ hins
    have hw1 := s1.seq hw
    refine ⟨.tuple [], .tuple [], .tup (s1.tk.tup hnm) .nil, .tup (SqT.of upd_same) .nil, by decide, by decide, ?_⟩
    rw [eqv_nil]
    refine ⟨_, rfl, ?_⟩
    refine iteF ?_
    refine ⟨_, rfl, wl, _, rfl, .inl hw1, ?_⟩
    generalize upd H p (.tup []) = H1 at s1 hins1 hw1 ⊢
    tm_at "go"
    refine fun tn2 ntn2 => ?_
    have hins2 : upd H1 tn2 (.tup [.str a, .str b]) rd = some (.ins Cl dx (flds (.ref lf) (.ref tn) (.ref d) (.int r.stage))) := by
      rw [upd_ne (ne_of_none hins1 ntn2)]
      exact hins1
    refine ⟨_, rfl, rd, Cl, dx, _, rfl, hins2, R.cl, R.nN, Nat.le_of_ble_eq_true rfl, ?_⟩
    rw [pu2]
    have hins3 : upd (upd H1 tn2 (.tup [.str a, .str b])) rd (.ins Cl dx (flds (.ref lf) (.ref tn2) (.ref d) (.int r.stage))) rd = some (.ins Cl dx (flds (.ref lf) (.ref tn2) (.ref d) (.int r.stage))) := upd_same
    have hnt3 : upd (upd H1 tn2 (.tup [.str a, .str b])) rd (.ins Cl dx (flds (.ref lf) (.ref tn2) (.ref d) (.int r.stage))) tn2 = some (.tup [.str a, .str b]) := by
      rw [upd_ne (ne_of_none hins1 ntn2).symm, upd_same]
    have b13 : But rd H1 (upd (upd H1 tn2 (.tup [.str a, .str b])) rd (.ins Cl dx (flds (.ref lf) (.ref tn2) (.ref d) (.int r.stage)))) := ((same_new ntn2).but rd).self
    have k13 : TK H1 (upd (upd H1 tn2 (.tup [.str a, .str b])) rd (.ins Cl dx (flds (.ref lf) (.ref tn2) (.ref d) (.int r.stage)))) := (TK.new ntn2).trans (TK.ins hins2)
    generalize upd (upd H1 tn2 (.tup [.str a, .str b])) rd (.ins Cl dx (flds (.ref lf) (.ref tn2) (.ref d) (.int r.stage))) = H3 at hins3 hnt3 b13 k13 ⊢
    refine ⟨aH, rfl, ⟨_, G.tH _⟩, fun D nD => ?_⟩
    refine dc_it walk_tup (fun i H' => Same H3 H' ∧ ∃ as : List Addr, as.length = i ∧ H' D = some (.dK (partKV as)) ∧ as.Nodup ∧ ∀ x ∈ as, H3 x = none ∧ x ≠ D ∧ H' x = some (.lst [])) ⟨same_new nD, [], rfl, upd_same, List.nodup_nil, fun _ h => (by cases h)⟩ (fun _ H' _ _ => G.tH H') ?_ ?_
    · rintro i v Hx Hy hlt ⟨sx, as, hl, hD, hnd, hx⟩ ⟨rfl, hv⟩
      have hv2 : (heads6.map V.str)[i]? = some v := hv
      obtain ⟨h, hh, rfl⟩ : ∃ h, heads6[i]? = some h ∧ V.str h = v := by
        rw [List.getElem?_map] at hv2
        cases e : heads6[i]? with
        | none => rw [e] at hv2; cases hv2
        | some z => rw [e] at hv2; exact ⟨z, rfl, Option.some.inj hv2⟩
      refine ⟨rfl, ?_⟩
      tm_at "go"
      refine fun x nx => ?_
      have nDx : D ≠ x := ne_of_none hD nx
      have hi6 : i < 6 := hlt
      have hpl : (partKV as).length < sizeLine := by
        unfold partKV
        rw [List.length_map, List.length_zip]
        exact small1000 (by omega)
      refine ⟨partKV as, Sum.inr h, rfl, by rw [upd_ne nDx]; exact hD, hpl, by tm_at "same", as ++ [x], by rw [List.length_append, hl]; rfl, ?_, ?_, ?_⟩
      · rw [part_put (by rw [hl]; exact hh), upd_same]
      · rw [List.nodup_append]
        refine ⟨hnd, List.pairwise_singleton _ _, fun y hy z hz e => ?_⟩
        rw [List.mem_singleton] at hz
        rw [← hz, ← e, (hx y hy).2.2] at nx
        cases nx
      · intro y hy
        rcases List.mem_append.mp hy with z | z
        · obtain ⟨h1, h2, h3⟩ := hx y z
          refine ⟨h1, h2, ?_⟩
          rw [upd_ne h2, upd_ne (ne_of_none h3 nx)]
          exact h3
        · rw [List.mem_singleton] at z
          subst z
          refine ⟨sx.free nx, nDx.symm, ?_⟩
          rw [upd_ne nDx.symm, upd_same]
    · rintro H4 ⟨s4, as, hl, hD, hnd, hx⟩
      refine ⟨_, rfl, rd, Cl, dx, _, rfl, s4 _ _ hins3, R.cl, R.nP, Nat.le_of_ble_eq_true rfl, ?_⟩
      rw [pu3]
      refine ⟨_, rfl, rd, Cl, dx, _, rfl, upd_same, R.cl, R.nS, Nat.le_of_ble_eq_true rfl, ?_⟩
      rw [pu4]
      have fr : ∀ b o, b ≠ rd → H b = some o → H4 b = some o := fun b o nb e => s4 _ _ (b13 _ _ nb (s1 _ _ e))
      have n0 : ∀ b o, H0 b = some o → b ≠ rd := fun b o e z => by
        rw [z, I.n0] at e
        cases e
      have nlr : lf ≠ rd := fun z => by
        have := I.lst
        rw [z, hins] at this
        cases this
      have ntr : tn2 ≠ rd := fun z => by
        rw [z, hins3] at hnt3
        cases hnt3
      have nDr : D ≠ rd := fun z => by
        rw [z, hins3] at nD
        cases nD
      have h3l := b13 _ _ nlr (s1 _ _ I.lst)
      have hins4 := s4 _ _ hins3
      have k : TK H (upd (upd H4 rd (.ins Cl dx (flds (.ref lf) (.ref tn2) (.ref D) (.int r.stage)))) rd (.ins Cl dx (flds (.ref lf) (.ref tn2) (.ref D) (.int 0)))) :=
        s1.tk.trans (k13.trans (s4.tk.trans ((TK.ins hins4).trans (TK.ins upd_same))))
      refine q _ ⟨dx, lf, tn2, D, vs, as, ?_, upd_same, I.n0, ?_, I.nl, k.ims I.rows, SqT.of ?_, ?_, hl, fun _ => rfl, hnd, ?_, ?_, ?_⟩
      · intro b o e
        have nb := n0 b o e
        rw [upd_ne nb, upd_ne nb]
        exact fr b o nb (I.same _ _ e)
      · rw [upd_ne nlr, upd_ne nlr]
        exact s4 _ _ h3l
      · rw [upd_ne ntr, upd_ne ntr]
        exact s4 _ _ hnt3
      · rw [upd_ne nDr, upd_ne nDr]
        exact hD
      · intro z
        have := (hx lf z).1
        rw [h3l] at this
        cases this
      · intro y hy
        cases e : H0 y with
        | none => rfl
        | some o =>
          have := b13 _ _ (n0 y o e) (s1 _ _ (I.same _ _ e))
          rw [(hx y hy).1] at this
          cases this
      · intro i y ds e1 e2
        have hm := List.mem_of_getElem? e1
        have h2 : ds = [] := by
          have := List.mem_of_getElem? e2
          exact (List.mem_replicate.mp this).2
        subst h2
        have nyr : y ≠ rd := fun z => by
          have := (hx y hm).1
          rw [z, hins3] at this
          cases this
        refine ⟨[], ?_, .nil⟩
        rw [upd_ne nyr, upd_ne nyr]
        exact (hx y hm).2.2
end
end C
set_option Elab.async false
set_option linter.all false
set_option pp.maxSteps 1500
set_option maxRecDepth 100000
set_option maxHeartbeats 4000000
namespace C
open PySem PySem.Spec PyProof.Rows L2 Kx M TL
local macro_rules | `(tactic| tm_at "same") => `(tactic| first
  | assumption
  | exact L2.Same.refl _
  | exact L2.Same.upd (by tm_at "same") (by tm_at "free")
  | exact sameTransR (by assumption) (by tm_at "same"))
local macro_rules | `(tactic| tm_at "free") => `(tactic| first
  | assumption
  | exact sameFreeR (by assumption) (by tm_at "same"))
local macro_rules | `(tactic| tm_at "but") => `(tactic| first
  | assumption
  | exact But.refl _ _
  | exact But.transR (by assumption) (by tm_at "but")
  | exact But.upd
  | exact But.self (by tm_at "but")
  | exact But.new1 (by tm_at "but") (by assumption)
  | exact But.new (by tm_at "but") (by tm_at "free")
  | exact L2.Same.but (by assumption) _)
local macro_rules | `(tactic| tm_at "fact") => `(tactic| first
  | exact upd_same
  | assumption
  | exact SqL.of upd_same
  | exact SqT.of upd_same
  | exact SqL.of (by assumption)
  | exact SqT.of (by assumption)
  | exact But.lstR (by assumption) (by assumption) (by tm_at "but"))
local macro_rules | `(tactic| tm_at "cond") => `(tactic| first
  | rfl
  | assumption
  | decide
  | omega
  | exact ⟨by decide, by decide⟩
  | exact .inr ⟨by decide, by decide⟩
  | exact .inl ⟨by decide, by decide⟩
  | exact ⟨by decide, by decide, by decide⟩
  | exact cdivw (by assumption) (by assumption)
  | exact log2_ok (by assumption)
  | exact Or.inl ⟨rfl, _, SqL.of upd_same⟩
  | exact Or.inl ⟨rfl, _, SqL.of (by assumption)⟩
  | exact ⟨_, rfl⟩
  | exact Nat.le_of_ble_eq_true rfl
  | exact small1000 (by omega))
local macro_rules | `(tactic| tm_at "prop") => `(tactic| first
  | assumption
  | omega)
local macro_rules | `(tactic| tm_at "s") => `(tactic| first
  | refine ⟨_, rfl, ?_⟩
  | refine ⟨_, _, rfl, rfl, ?_⟩
  | refine ⟨_, _, _, rfl, rfl, (by tm_at "fact"), (by tm_at "cond"), ?_⟩
  | refine ⟨_, _, _, _, rfl, rfl, (by tm_at "fact"), rfl, ?_⟩
  | refine ⟨_, _, rfl, (by tm_at "fact"), ?_⟩
  | refine And.intro (by tm_at "cond") ?_
  | refine .inl ⟨_, rfl, ?_⟩
  | refine ⟨_, _, rfl, .inl (by tm_at "fact"), ?_⟩
  | refine dec_false (by tm_at "prop") ?_
  | refine dec_true (by tm_at "prop") ?_
  | refine decN_false (by tm_at "prop") ?_
  | refine decN_true (by tm_at "prop") ?_
  | refine iteT ?_
  | refine iteF ?_
  | refine ⟨_, _, rfl, ?_⟩)
local macro_rules | `(tactic| tm_at "go") => `(tactic| repeat tm_at "s")

section
variable {P : Program} {w : World} {K : PySem.W.Frag} {mg : Str → Option Value} {base : Heap} {aH aR : Addr}
/-! ### a part is added -/
theorem RdIn.push {K : PySem.W.Frag} {Cl rd : Addr} {H0 H H2 : Hp} {s : RS} {dx lf tn d : Addr} {vs : List V} {ads : List Addr} (I : RdIn K Cl rd H0 H s dx lf tn d vs ads) {j : Nat} {a : Addr} {ws : List V} {ds : List PyData} {dd : PyData} {v : V} {st : Int}
    (ha : ads[j]? = some a) (hc : s.cont[j]? = some ds) (s2 : Same (upd H rd (.ins Cl dx (flds (.ref lf) (.ref tn) (.ref d) (.int st)))) H2) (hw : H2 a = some (.lst ws)) (iw : Ims K H2 ws ds) (iv : Im K H2 v dd) :
    RdAt K Cl rd H0 (upd H2 a (.lst (ws ++ [v]))) ⟨s.rows, s.names, s.cont.set j (ds ++ [dd]), st⟩ := by
  have hrd2 : H2 rd = some (.ins Cl dx (flds (.ref lf) (.ref tn) (.ref d) (.int st))) := s2 _ _ upd_same
  have ham := List.mem_of_getElem? ha
  have har : rd ≠ a := fun z => by
    rw [z, hw] at hrd2
    cases hrd2
  have hal : lf ≠ a := fun z => I.lf_ads (by rw [z]; exact ham)
  have fr : ∀ b o, b ≠ rd → H b = some o → H2 b = some o := fun b o nb e => s2 _ _ (by rw [upd_ne nb]; exact e)
  have k02 : TK H H2 := (TK.ins I.ins).trans s2.tk
  have k : TK H2 (upd H2 a (.lst (ws ++ [v]))) := TK.lst hw
  have nlr : lf ≠ rd := fun z => by
    have := I.lst
    rw [z, I.ins] at this
    cases this
  have ndr : d ≠ rd := fun z => by
    have := I.prt
    rw [z, I.ins] at this
    cases this
  have hd2 := fr _ _ ndr I.prt
  have hda : d ≠ a := fun z => by
    rw [z, hw] at hd2
    cases hd2
  refine ⟨dx, lf, tn, d, vs, ads, ?_, ?_, I.n0, ?_, I.nl, (k02.trans k).ims I.rows, (k02.trans k).tup I.nms, ?_, ?_, ?_, I.nd, I.lf_ads, I.na, ?_⟩
  · intro b o e
    have nb : b ≠ rd := fun z => by
      rw [z, I.n0] at e
      cases e
    have nba : b ≠ a := fun z => by
      rw [z, I.na a ham] at e
      cases e
    rw [upd_ne nba]
    exact fr _ _ nb (I.same _ _ e)
  · rw [upd_ne har]
    exact hrd2
  · rw [upd_ne hal]
    exact fr _ _ nlr I.lst
  · rw [upd_ne hda]
    exact hd2
  · rw [I.len]
    exact (List.length_set ..).symm
  · intro z
    show (s.cont.set j (ds ++ [dd])).length = 6
    rw [List.length_set]
    exact I.six z
  · intro i y es e1 e2
    by_cases hij : i = j
    · subst hij
      rw [ha] at e1
      cases e1
      have e3 : (s.cont.set i (ds ++ [dd]))[i]? = some (ds ++ [dd]) := by
        have hlt : i < s.cont.length := (List.getElem?_eq_some_iff.mp hc).1
        rw [List.getElem?_set_self hlt]
      rw [e3] at e2
      cases e2
      exact ⟨_, upd_same, k.ims (Ims.snoc iw iv)⟩
    · have e3 : (s.cont.set j (ds ++ [dd]))[i]? = s.cont[i]? := List.getElem?_set_ne (fun z => hij z.symm)
      rw [e3] at e2
      obtain ⟨us, h1, h2⟩ := I.at_ i y es e1 e2
      have nya : y ≠ a := fun z => hij (by
        rw [z] at e1
        exact nd_ix I.nd e1 ha)
      have nyr : y ≠ rd := fun z => by
        rw [z, I.ins] at h1
        cases h1
      refine ⟨us, ?_, (k02.trans k).ims h2⟩
      rw [upd_ne nya]
      exact fr _ _ nyr h1
inductive Prt : RS → List Str → RS → Prop
  | pair {s : RS} {j : Nat} {hd x y : Str} {ps : List (Str × Str)} : s.names ≠ none → (j = 1 ∧ hd = S "same" ∨ j = 3 ∧ hd = S "keep") → s.stage ≤ (j : Int) → s.cont[j]? = some (ps.map qD) → ps.length ≤ 100 → (x, y) ∉ ps → Ok x ∧ Ok y → (∀ p ∈ ps, Ok p.1 ∧ Ok p.2) →
      Prt s [hd, x, y] ⟨s.rows, s.names, s.cont.set j (ps.map qD ++ [qD (x, y)]), (j : Int)⟩
  | form {s : RS} {j : Nat} {hd : Str} {f : M.Form} {ds : List PyData} : s.names ≠ none → (j = 0 ∧ hd = S "given" ∨ j = 2 ∧ hd = S "ask" ∨ j = 4 ∧ hd = S "hint") → s.stage ≤ (j : Int) → s.cont[j]? = some ds → ds.length ≤ 100 → FOk f →
      Prt s (hd :: wd f) ⟨s.rows, s.names, s.cont.set j (ds ++ [fD f]), (j : Int)⟩
  | walk {s : RS} {r : Str} : s.names ≠ none → s.stage ≤ (5 : Int) → s.cont[5]? = some [] → r ∈ rules7 → Prt s (S "walk" :: Txt.split r (S " ")) ⟨s.rows, s.names, s.cont.set 5 ([] ++ [.str r]), (5 : Int)⟩
end
end C
set_option Elab.async false
set_option linter.all false
set_option pp.maxSteps 1500
set_option maxRecDepth 100000
set_option maxHeartbeats 4000000
namespace C
open PySem PySem.Spec PyProof.Rows L2 Kx M TL
local macro_rules | `(tactic| tm_at "same") => `(tactic| first
  | assumption
  | exact L2.Same.refl _
  | exact L2.Same.upd (by tm_at "same") (by tm_at "free")
  | exact sameTransR (by assumption) (by tm_at "same"))
local macro_rules | `(tactic| tm_at "free") => `(tactic| first
  | assumption
  | exact sameFreeR (by assumption) (by tm_at "same"))
local macro_rules | `(tactic| tm_at "but") => `(tactic| first
  | assumption
  | exact But.refl _ _
  | exact But.transR (by assumption) (by tm_at "but")
  | exact But.upd
  | exact But.self (by tm_at "but")
  | exact But.new1 (by tm_at "but") (by assumption)
  | exact But.new (by tm_at "but") (by tm_at "free")
  | exact L2.Same.but (by assumption) _)
local macro_rules | `(tactic| tm_at "fact") => `(tactic| first
  | exact upd_same
  | assumption
  | exact SqL.of upd_same
  | exact SqT.of upd_same
  | exact SqL.of (by assumption)
  | exact SqT.of (by assumption)
  | exact But.lstR (by assumption) (by assumption) (by tm_at "but"))
local macro_rules | `(tactic| tm_at "cond") => `(tactic| first
  | rfl
  | assumption
  | decide
  | omega
  | exact ⟨by decide, by decide⟩
  | exact .inr ⟨by decide, by decide⟩
  | exact .inl ⟨by decide, by decide⟩
  | exact ⟨by decide, by decide, by decide⟩
  | exact cdivw (by assumption) (by assumption)
  | exact log2_ok (by assumption)
  | exact Or.inl ⟨rfl, _, SqL.of upd_same⟩
  | exact Or.inl ⟨rfl, _, SqL.of (by assumption)⟩
  | exact ⟨_, rfl⟩
  | exact Nat.le_of_ble_eq_true rfl
  | exact small1000 (by omega))
local macro_rules | `(tactic| tm_at "prop") => `(tactic| first
  | assumption
  | omega)
local macro_rules | `(tactic| tm_at "s") => `(tactic| first
  | refine ⟨_, rfl, ?_⟩
  | refine ⟨_, _, rfl, rfl, ?_⟩
  | refine ⟨_, _, _, rfl, rfl, (by tm_at "fact"), (by tm_at "cond"), ?_⟩
  | refine ⟨_, _, _, _, rfl, rfl, (by tm_at "fact"), rfl, ?_⟩
  | refine ⟨_, _, rfl, (by tm_at "fact"), ?_⟩
  | refine And.intro (by tm_at "cond") ?_
  | refine .inl ⟨_, rfl, ?_⟩
  | refine ⟨_, _, rfl, .inl (by tm_at "fact"), ?_⟩
  | refine dec_false (by tm_at "prop") ?_
  | refine dec_true (by tm_at "prop") ?_
  | refine decN_false (by tm_at "prop") ?_
  | refine decN_true (by tm_at "prop") ?_
  | refine iteT ?_
  | refine iteF ?_
  | refine ⟨_, _, rfl, ?_⟩)
local macro_rules | `(tactic| tm_at "go") => `(tactic| repeat tm_at "s")

section
variable {P : Program} {w : World} {K : PySem.W.Frag} {mg : Str → Option Value} {base : Heap} {aH aR : Addr}
theorem ps_try0 {X : Cx} {x : Str} {c : Value} {body suite : List Stmt} {b₀ : Stmt} {np pos pos' : Pos} {t t2 : TS} (hs : X.stack = X.env :: X.outer) (hf : X.env.frame = some X.env.locals) (hc : Names X x c)
    (hb : ∀ (W : WX) (pn : List (Addr × Obj)) (xe : Value → Shared → Prop), Takes (X.tr pn xe) W → PassesOwn (model X.prog X.w) X.A X.env xe → PSs (X.tr pn xe) body t)
    (hsu : ∀ (a : Addr) (oe : Obj) (cls : Value) (d : Option Addr) (pn : List (Addr × Obj)), Zc cls d oe → (∃ vs, oe.data = .fields vs) → PSs (X.suite a ((a, oe) :: pn)) (b₀ :: suite) t2) :
    PS X (.Try body [.ExceptHandler (some (.Name x np)) none (b₀ :: suite) pos'] [] [] pos) t :=
  ps_try_only (tb := fun _ => t) (ts := fun _ _ _ => t2) (Wout := fun _ _ _ _ => False) hs hf hc takes0 hb hsu
theorem pe_fldK {X : Cx} {K : PySem.W.Frag} {e : Expr} {f : Str} {ta : TE} {pos : Pos} (h : X.K = K) (he : PE X e ta) (hb : attributeBase e f X.env (eval e X.env) = eval e X.env) : PE X (.Attribute e f pos) (tFld K ta f) := by
  subst h
  exact pe_fld he hb
theorem pe_bmK {X : Cx} {K : PySem.W.Frag} {o e : Expr} {es : List Expr} {to : TE} {t : TA} {T : String} {name : Str} {id : String} {r : V → List V → Hp → VK → Prop} {apos cpos : Pos} (h : X.K = K) (pa : PlainAttrs T) (slot : Slot T name id) (hty : typeOf (.builtin id) = pure (.type "method_descriptor")) (hm : MtR X id r) (ho : PE X o to) (ha : PA X (e :: es) t)
    (hbase : attributeBase o name X.env (eval o X.env) = eval o X.env := by rfl)
    (hfew : ((backTo cpos (starEach (e :: es) X.env)).all (fun x => !x.1) && (backToKw cpos (keywordEach [] X.env)).all (fun x => x.1.isSome)
      && decide ((e :: es).length + ([] : List Keyword).length + (if ([] : List Keyword).isEmpty then 0 else 1) < 30)) = true := by rfl)
    (hline : (apos.endLine == cpos.line) = true := by rfl) (hs : starEach (e :: es) X.env = (false, eval e X.env) :: starEach es X.env := by rfl) (hplain : (backTo cpos (starEach es X.env)).any (·.1) = false := by rfl) :
    PE X (.Call (.Attribute o name apos) (e :: es) [] cpos) (tBM K T r to t) := by
  subst h
  exact pe_bm pa slot hty hm ho ha hbase hfew hline hs hplain
theorem val_zip : ∀ (l : List Str) (as : List Addr) (j : Nat) (h : Str) (a : Addr), l.Nodup → l[j]? = some h → as[j]? = some a → valV ((l.zip as).map fun p => ((Sum.inr p.1 : Key), V.ref p.2)) (Sum.inr h : Key) = some (.ref a)
  | [], _, _, _, _, _, e, _ => by simp at e
  | _ :: _, [], _, _, _, _, _, e => by simp at e
  | x :: l, b :: as, 0, h, a, _, e1, e2 => by
    cases e1
    cases e2
    exact valV_pos rfl
  | x :: l, b :: as, j + 1, h, a, hn, e1, e2 => by
    obtain ⟨h1, h2⟩ := List.nodup_cons.mp hn
    have hm : h ∈ l := List.mem_of_getElem? (show l[j]? = some h from e1)
    refine (valV_neg (fun z => h1 (by rw [show x = h from Sum.inr.inj z]; exact hm))).trans ?_
    exact val_zip l as j h a h2 e1 e2
theorem part_get {ads : List Addr} {j : Nat} {h : Str} {a : Addr} (e1 : heads6[j]? = some h) (e2 : ads[j]? = some a) : valV (partKV ads) (Sum.inr h : Key) = some (.ref a) := val_zip _ _ _ _ _ heads_nodup e1 e2
/-! ### take_part -/
def spPart (K : PySem.W.Frag) (Cl : Addr) : Sp := fun vs H Q _ => ∃ (rd wl : Addr) (H0 : Hp) (s s' : RS) (ws : List Str), vs = [.ref rd, .ref wl] ∧ RdAt K Cl rd H0 H s ∧ H wl = some (.lst (ws.map V.str)) ∧ Prt s ws s' ∧
  ∀ H', RdAt K Cl rd H0 H' s' → Q (.bl true) H'
theorem idx_ok {j : Nat} {hd : Str} (e : heads6[j]? = some hd) : ∀ m, m < j → heads6[m]? ≠ some hd := fun m hm h => by
  have := nd_ix heads_nodup e h
  omega
theorem sc_ClaimReader_take_part : FnScope ["self", "words", "place", "rule"] ["self", "words"] (defScope s_ClaimReader_take_part) := ⟨rfl, rfl, rfl, by decide +kernel, rfl, by decide +kernel, by decide +kernel⟩
theorem ok_part {k : Nat} {Cl cBT : Addr} (D : MDef K Cl "take_part" "ClaimReader.take_part" s_ClaimReader_take_part ["self", "words"]) (R : Rk K Cl) (B : Bi mg) (G : Gb K mg aH aR) (gBT : mg "BadText" = some (.ref cBT)) (yH : ∃ o, K.lookup aH = some o ∧ o.cls = .type "tuple" ∧ o.dict = none)
    (c_read_form : Cal P w K mg base CX0 k "read_form" ["text"] (spReadForm K)) : MCal P w K mg base CX0 (k + 1) Cl "take_part" ["self", "words"] (spPart K Cl) := by
  refine D.cal fun f fd F => F.ok sc_ClaimReader_take_part (fun vs H Q E h => ?_) (fun cdv A outer s H vs Q E hr h => ?_)
  · obtain ⟨rd, wl, H0, s, s', ws, rfl, _⟩ := h
    rfl
  · obtain ⟨rd, wl, H0, r, r', ws, rfl, ⟨dx, lf, tn, d, vs, ads, I⟩, hw, hp, q⟩ := h
    have nd := sc_ClaimReader_take_part.nd
    have hins := I.ins
    refine ⟨_, (pss_cons (ps_set (i := 2) nd rfl (Or.inl rfl) (pe_bm PySem.F.plainAttrs_tuple PySem.F.slot_tuple_index PySem.F.type_tuple_index mt_tup_index (pe_globR (by rfl) G.HEADS) (pa_cons (pe_ix ix_list (pv 1) pe_int (fun _ _ => rfl)) pa_nil)))
      (pss_cons (ps_if (pt_cmpR op_lt (pv 2) (pe_fld (pv 0) rfl) (nomark _))
        (pss_one (ps_ret pe_bl))
        pss_nil)
      (pss_cons (ps_fld (pv 0) (pv 2) rfl)
      (pss_cons (ps_if (pt_cmpR op_in_seq (pe_ix ix_list (pv 1) pe_int (fun _ _ => rfl)) (pe_tup (pa_cons pe_str (pa_cons pe_str pa_nil))) (by rfl))
        (pss_cons (ps_if (PW.pt (pw_or (pt_cmpR op_ne (pe_callB call_len_seq (by rfl) B.len (by decide +kernel) (pa_cons (pv 1) pa_nil)) pe_int (nomark _)) (pw_or1 (pt_cmpR (op_inD (in_room hr)) (pe_tup (pa_cons (pe_ix ix_list (pv 1) pe_int (fun _ _ => rfl)) (pa_cons (pe_ix ix_list (pv 1) pe_int (fun _ _ => rfl)) pa_nil))) (pe_dget (hu_of hr) (pe_fld (pv 0) rfl) (pe_ix ix_list (pv 1) pe_int (fun _ _ => rfl)) (fun _ _ => rfl)) (by rfl)))))
          (pss_one (ps_ret pe_bl))
          pss_nil)
        (pss_cons (ps_expr (pe_bm PySem.F.plainAttrs_list PySem.F.slot_list_append PySem.F.type_list_append mt_append (pe_dget (hu_of hr) (pe_fld (pv 0) rfl) (pe_ix ix_list (pv 1) pe_int (fun _ _ => rfl)) (fun _ _ => rfl)) (pa_cons (pe_tup (pa_cons (pe_ix ix_list (pv 1) pe_int (fun _ _ => rfl)) (pa_cons (pe_ix ix_list (pv 1) pe_int (fun _ _ => rfl)) pa_nil))) pa_nil)))
        (pss_one (ps_ret pe_bl))))
        pss_nil)
      (pss_cons (ps_if (pt_cmpR op_eq (pe_ix ix_list (pv 1) pe_int (fun _ _ => rfl)) pe_str (nomark _))
        (pss_cons (ps_set (i := 3) nd rfl (Or.inl rfl) (pe_join pe_str (pe_slice sl_list (pv 1) (po_some pe_int) po_none)))
        (pss_cons (ps_if (PW.pt (pw_or (pt_cmpR op_notIn_seq (pv 3) (pe_globR (by rfl) G.RULES) (by rfl)) (pw_or1 (pt_truth (pe_dget (hu_of hr) (pe_fld (pv 0) rfl) pe_str (fun _ _ => rfl)) (by intro _; rfl)))))
          (pss_one (ps_ret pe_bl))
          pss_nil)
        (pss_cons (ps_expr (pe_bm PySem.F.plainAttrs_list PySem.F.slot_list_append PySem.F.type_list_append mt_append (pe_dget (hu_of hr) (pe_fld (pv 0) rfl) pe_str (fun _ _ => rfl)) (pa_cons (pv 3) pa_nil)))
        (pss_one (ps_ret pe_bl)))))
        pss_nil)
      (pss_cons (ps_try0 rfl rfl ⟨rfl, by decide, .inl gBT⟩ (fun W pn xe tk _ => (pss_one (ps_expr (pe_bmK (K := K) rfl PySem.F.plainAttrs_list PySem.F.slot_list_append PySem.F.type_list_append mt_append (pe_dget (hu_of hr) (pe_fldK (K := K) rfl (pv 0) rfl) (pe_ix (ix_listK (K := K) rfl) (pv 1) pe_int (fun _ _ => rfl)) (fun _ _ => rfl)) (pa_cons (pe_cal c_read_form (Room.mono hr (by omega)) (by rfl) (pa_cons (pe_joinK (K := K) rfl pe_str (pe_slice (sl_listK (K := K) rfl) (pv 1) (po_some pe_int) po_none)) pa_nil)) pa_nil))))) (fun a oe cls d pn _ _ => (pss_one (ps_ret pe_bl))))
      (pss_one (ps_ret pe_bl)))))))), ?_⟩
    have pre : ∃ hd rest j, ws = hd :: rest ∧ heads6[j]? = some hd ∧ j ≤ 5 ∧ r.stage ≤ ((j : Nat) : Int) := by
      cases hp with
      | pair _ e h2 => rcases e with ⟨rfl, rfl⟩ | ⟨rfl, rfl⟩ <;> exact ⟨_, _, _, rfl, rfl, by decide, h2⟩
      | form _ e h2 => rcases e with ⟨rfl, rfl⟩ | ⟨rfl, rfl⟩ | ⟨rfl, rfl⟩ <;> exact ⟨_, _, _, rfl, rfl, by decide, h2⟩
      | walk _ h2 => exact ⟨_, _, 5, rfl, rfl, by decide, h2⟩
    obtain ⟨hd, rest, j, rfl, hj, hj5, hst⟩ := pre
    have e0 : atI ((hd :: rest).map V.str) 0 = some (V.str hd) := atI_nat (j := 0) rfl
    refine ⟨.inr (.inl ⟨rfl, yH⟩), ?_⟩
    refine ⟨_, rfl, wl, _, _, _, rfl, rfl, SqL.of hw, e0, ?_⟩
    refine ⟨aH, heads6, hd, j, rfl, rfl, G.tH _, hj, idx_ok hj, ?_⟩
    refine ⟨_, rfl, ?_⟩
    refine ⟨_, rfl, rd, Cl, dx, _, _, rfl, hins, R.cl, R.nS, lk4 _ _ _ _, ?_⟩
    tm_at "go"
    refine ⟨rd, Cl, dx, _, rfl, hins, R.cl, R.nS, Nat.le_of_ble_eq_true rfl, ?_⟩
    rw [pu4]
    have nwr : wl ≠ rd := fun z => by
      rw [z, hins] at hw
      cases hw
    have hw1 : upd H rd (.ins Cl dx (flds (.ref lf) (.ref tn) (.ref d) (.int ((j : Nat) : Int)))) wl = some (.lst ((hd :: rest).map V.str)) := by
      rw [upd_ne nwr]
      exact hw
    have hins1 : upd H rd (.ins Cl dx (flds (.ref lf) (.ref tn) (.ref d) (.int ((j : Nat) : Int)))) rd = some (.ins Cl dx (flds (.ref lf) (.ref tn) (.ref d) (.int ((j : Nat) : Int)))) := upd_same
    have s11 : Same (upd H rd (.ins Cl dx (flds (.ref lf) (.ref tn) (.ref d) (.int ((j : Nat) : Int))))) (upd H rd (.ins Cl dx (flds (.ref lf) (.ref tn) (.ref d) (.int ((j : Nat) : Int))))) := Same.refl _
    have k1 : TK H (upd H rd (.ins Cl dx (flds (.ref lf) (.ref tn) (.ref d) (.int ((j : Nat) : Int))))) := TK.ins hins
    have fr : ∀ b o, b ≠ rd → H b = some o → upd H rd (.ins Cl dx (flds (.ref lf) (.ref tn) (.ref d) (.int ((j : Nat) : Int)))) b = some o := fun b o nb e => by
      rw [upd_ne nb]
      exact e
    have push := fun (a : Addr) (ws : List V) (ds : List PyData) (dd : PyData) (v : V) (H2 : Hp) => I.push (H2 := H2) (j := j) (a := a) (ws := ws) (ds := ds) (dd := dd) (v := v) (st := ((j : Nat) : Int))
    generalize upd H rd (.ins Cl dx (flds (.ref lf) (.ref tn) (.ref d) (.int ((j : Nat) : Int)))) = H1 at hw1 hins1 s11 k1 fr push ⊢
    refine ⟨_, rfl, wl, _, _, _, rfl, rfl, SqL.of hw1, e0, ?_⟩
    tm_at "go"
    refine fun p np => ?_
    have sp : Same H1 (upd H1 p (.tup [.str (S "same"), .str (S "keep")])) := same_new np
    refine ⟨p, [.str (S "same"), .str (S "keep")], rfl, .inr (SqT.of upd_same), rfl, rfl, ?_⟩
    refine ⟨_, rfl, ?_⟩
    have hw2 := sp _ _ hw1
    have hins2 := sp _ _ hins1
    generalize upd H1 p (.tup [.str (S "same"), .str (S "keep")]) = H2 at sp hw2 hins2 ⊢
    cases hp with
    | pair hn e h2 hc hl hnm hxy hps =>
      rename_i jj x y ps
      obtain rfl : jj = j := by
        rcases e with ⟨rfl, rfl⟩ | ⟨rfl, rfl⟩
        · exact nd_ix heads_nodup (i := 1) (j := j) (x := S "same") rfl hj
        · exact nd_ix heads_nodup (i := 3) (j := j) (x := S "keep") rfl hj
      have hin : L2.inV (V.str hd) [V.str (S "same"), V.str (S "keep")] = true := by
        rcases e with ⟨_, rfl⟩ | ⟨_, rfl⟩ <;> decide +kernel
      have e1 : atI ([hd, x, y].map V.str) 1 = some (V.str x) := atI_nat (j := 1) rfl
      have e2 : atI ([hd, x, y].map V.str) 2 = some (V.str y) := atI_nat (j := 2) rfl
      rw [show (if false = true then !L2.inV (V.str hd) [V.str (S "same"), V.str (S "keep")] else L2.inV (V.str hd) [V.str (S "same"), V.str (S "keep")]) = true by rw [if_neg Bool.false_ne_true]; exact hin]
      refine iteT ?_
      tm_at "go"
      refine fun t nt => ?_
      have st : Same H2 (upd H2 t (.tup [.str x, .str y])) := same_new nt
      have hw3 := st _ _ hw2
      have hins3 := st _ _ hins2
      have ht3 : upd H2 t (.tup [.str x, .str y]) t = some (.tup [.str x, .str y]) := upd_same
      have s13 := sp.trans st
      generalize upd H2 t (.tup [.str x, .str y]) = H3 at st hw3 hins3 ht3 s13 ⊢
      refine ⟨_, rfl, rd, Cl, dx, _, _, rfl, hins3, R.cl, R.nP, lk3 _ _ _ _, ?_⟩
      refine ⟨_, rfl, wl, _, _, _, rfl, rfl, SqL.of hw3, e0, ?_⟩
      have ndr : d ≠ rd := fun z => by
        have := I.prt
        rw [z, I.ins] at this
        cases this
      have hd3 := s13 _ _ (fr _ _ ndr I.prt)
      have hjl : jj < ads.length := by
        rw [I.len]
        exact (List.getElem?_eq_some_iff.mp hc).1
      have ha : ads[jj]? = some ads[jj] := List.getElem?_eq_getElem hjl
      obtain ⟨us, hus, ius⟩ := I.at_ jj _ _ ha hc
      have nar : ads[jj] ≠ rd := fun z => by
        rw [z, hins] at hus
        cases hus
      have hus3 := s13 _ _ (fr _ _ nar hus)
      have ius3 := s13.tk.ims (k1.ims ius)
      have hul := ius.length
      rw [List.length_map] at hul
      have dg : DGet H3 d (.str hd) (some (.ref ads[jj])) := by
        rw [← part_get hj ha]
        exact DGet.k (k := Sum.inr hd) hd3
      refine ⟨d, .ref ads[jj], rfl, dg, ?_⟩
      refine ⟨qD (x, y), ps.map qD, Im.dp _ (qD_of (p := (x, y)) (SqT.of ht3)), .lst (SqL.of hus3) (Ims.dp _ ius3), shaped_q hxy, shaped_qs hps, ?_⟩
      rw [any_q, decide_eq_false hnm]
      refine ⟨_, rfl, ?_⟩
      refine iteF ?_
      refine ⟨_, rfl, rd, Cl, dx, _, _, rfl, hins3, R.cl, R.nP, lk3 _ _ _ _, ?_⟩
      refine ⟨_, rfl, wl, _, _, _, rfl, rfl, SqL.of hw3, e0, ?_⟩
      refine ⟨d, .ref ads[jj], rfl, dg, ?_⟩
      refine ⟨.inl ⟨rfl, _, SqL.of hus3⟩, ?_⟩
      tm_at "go"
      refine fun t2 nt2 => ?_
      have s4 : Same H3 (upd H3 t2 (.tup [.str x, .str y])) := same_new nt2
      refine ⟨ads[jj], us, .ref t2, rfl, rfl, s4 _ _ hus3, small1000 (by omega), ?_⟩
      exact q _ (push ads[jj] us (ps.map qD) (qD (x, y)) (.ref t2) _ ha hc (s13.trans s4) (s4 _ _ hus3) (s4.tk.ims ius3) (qD_of (p := (x, y)) (SqT.of upd_same)))
    | form hn e h2 hc hl hf =>
      rename_i jj f ds
      obtain rfl : jj = j := by
        rcases e with ⟨rfl, rfl⟩ | ⟨rfl, rfl⟩ | ⟨rfl, rfl⟩
        · exact nd_ix heads_nodup (i := 0) (j := j) (x := S "given") rfl hj
        · exact nd_ix heads_nodup (i := 2) (j := j) (x := S "ask") rfl hj
        · exact nd_ix heads_nodup (i := 4) (j := j) (x := S "hint") rfl hj
      have hin : L2.inV (V.str hd) [V.str (S "same"), V.str (S "keep")] = false := by
        rcases e with ⟨_, rfl⟩ | ⟨_, rfl⟩ | ⟨_, rfl⟩ <;> decide +kernel
      have hnw : ¬ V.str hd = V.str (S "walk") := by
        rcases e with ⟨_, rfl⟩ | ⟨_, rfl⟩ | ⟨_, rfl⟩ <;> decide +kernel
      rw [show (if false = true then !L2.inV (V.str hd) [V.str (S "same"), V.str (S "keep")] else L2.inV (V.str hd) [V.str (S "same"), V.str (S "keep")]) = false by rw [if_neg Bool.false_ne_true]; exact hin]
      refine iteF ?_
      refine ⟨_, rfl, wl, _, _, _, rfl, rfl, SqL.of hw2, e0, ?_⟩
      tm_at "s"
      rw [decide_eq_false hnw]
      refine ⟨_, rfl, ?_⟩
      refine iteF ?_
      have ndr : d ≠ rd := fun z => by
        have := I.prt
        rw [z, I.ins] at this
        cases this
      have hd3 := sp _ _ (fr _ _ ndr I.prt)
      have hjl : jj < ads.length := by
        rw [I.len]
        exact (List.getElem?_eq_some_iff.mp hc).1
      have ha : ads[jj]? = some ads[jj] := List.getElem?_eq_getElem hjl
      obtain ⟨us, hus, ius⟩ := I.at_ jj _ _ ha hc
      have nar : ads[jj] ≠ rd := fun z => by
        rw [z, hins] at hus
        cases hus
      have hus3 := sp _ _ (fr _ _ nar hus)
      have ius3 := sp.tk.ims (k1.ims ius)
      have hul := ius.length
      have dg : DGet H2 d (.str hd) (some (.ref ads[jj])) := by
        rw [← part_get hj ha]
        exact DGet.k (k := Sum.inr hd) hd3
      refine ⟨_, rfl, rd, Cl, dx, _, _, rfl, hins2, R.cl, R.nP, lk3 _ _ _ _, ?_⟩
      refine ⟨_, rfl, wl, _, _, _, rfl, rfl, SqL.of hw2, e0, ?_⟩
      refine ⟨d, .ref ads[jj], rfl, dg, ?_⟩
      refine ⟨.inl ⟨rfl, _, SqL.of hus3⟩, ?_⟩
      tm_at "go"
      refine fun p3 np3 => ?_
      have ecut : cutV ((hd :: wd f).map V.str) (some 1) none = (wd f).map V.str := cutV_from _ 1
      rw [ecut]
      have hwc := wd_count hf
      have hws := sum_le (wd_lens hf)
      refine ⟨S " ", p3, wd f, rfl, rfl, .inl (SqL.of upd_same), ?_, ?_⟩
      · have : (S " ").length = 1 := by decide +kernel
        rw [this]
        omega
      rw [← wr_join]
      have s3 : Same H2 (upd H2 p3 (.lst ((wd f).map V.str))) := same_new np3
      refine ⟨f, rfl, hf, fun v H4 s4 iv => ?_⟩
      have s24 := s3.trans s4
      refine ⟨ads[jj], us, v, rfl, rfl, s24 _ _ hus3, small1000 (by omega), ?_⟩
      exact q _ (push ads[jj] us ds (fD f) v _ ha hc (sp.trans s24) (s24 _ _ hus3) (s24.tk.ims ius3) iv)
    | walk hn h2 hc hr =>
      rename_i rl
      obtain rfl : j = 5 := nd_ix heads_nodup (i := j) (j := 5) (x := S "walk") hj rfl
      have hin : L2.inV (V.str (S "walk")) [V.str (S "same"), V.str (S "keep")] = false := by decide +kernel
      rw [show (if false = true then !L2.inV (V.str (S "walk")) [V.str (S "same"), V.str (S "keep")] else L2.inV (V.str (S "walk")) [V.str (S "same"), V.str (S "keep")]) = false by rw [if_neg Bool.false_ne_true]; exact hin]
      refine iteF ?_
      refine ⟨_, rfl, wl, _, _, _, rfl, rfl, SqL.of hw2, e0, ?_⟩
      tm_at "go"
      refine fun p3 np3 => ?_
      have hru : ∀ z ∈ rules7, (Txt.split z (S " ")).length ≤ 5 ∧ ((Txt.split z (S " ")).map (·.length)).sum ≤ 30 ∧ Txt.join (S " ") (Txt.split z (S " ")) = z := by decide +kernel
      obtain ⟨q1, q2, q3⟩ := hru rl hr
      have ecut : cutV ((S "walk" :: Txt.split rl (S " ")).map V.str) (some 1) none = (Txt.split rl (S " ")).map V.str := cutV_from _ 1
      rw [ecut]
      refine ⟨S " ", p3, Txt.split rl (S " "), rfl, rfl, .inl (SqL.of upd_same), ?_, ?_⟩
      · have : (S " ").length = 1 := by decide +kernel
        rw [this]
        omega
      rw [q3]
      have s3 : Same H2 (upd H2 p3 (.lst ((Txt.split rl (S " ")).map V.str))) := same_new np3
      have hins3 := s3 _ _ hins2
      have s13 := sp.trans s3
      generalize upd H2 p3 (.lst ((Txt.split rl (S " ")).map V.str)) = H3 at s3 hins3 s13 ⊢
      have hnin : L2.inV (V.str rl) (rules7.map V.str) = true := by
        have : ∀ z ∈ rules7, L2.inV (V.str z) (rules7.map V.str) = true := by decide +kernel
        exact this rl hr
      refine ⟨_, rfl, aR, rules7.map V.str, rfl, .inr (G.tR _), rfl, rfl, ?_⟩
      rw [show (if true = true then !L2.inV (V.str rl) (rules7.map V.str) else L2.inV (V.str rl) (rules7.map V.str)) = false by rw [if_pos rfl, hnin]; rfl]
      refine ⟨_, rfl, ?_⟩
      refine iteF ?_
      have ndr : d ≠ rd := fun z => by
        have := I.prt
        rw [z, I.ins] at this
        cases this
      have hd3 := s13 _ _ (fr _ _ ndr I.prt)
      have hjl : 5 < ads.length := by
        rw [I.len]
        exact (List.getElem?_eq_some_iff.mp hc).1
      have ha : ads[5]? = some ads[5] := List.getElem?_eq_getElem hjl
      obtain ⟨us, hus, ius⟩ := I.at_ 5 _ _ ha hc
      obtain rfl := Ims.nil_inv ius
      have nar : ads[5] ≠ rd := fun z => by
        rw [z, hins] at hus
        cases hus
      have hus3 := s13 _ _ (fr _ _ nar hus)
      have dg : DGet H3 d (.str (S "walk")) (some (.ref ads[5])) := by
        rw [← part_get hj ha]
        exact DGet.k (k := Sum.inr (S "walk")) hd3
      refine ⟨_, rfl, rd, Cl, dx, _, _, rfl, hins3, R.cl, R.nP, lk3 _ _ _ _, ?_⟩
      refine ⟨d, .ref ads[5], rfl, dg, ?_⟩
      refine ⟨false, .inl ⟨[], SqL.of hus3, rfl⟩, ?_⟩
      refine iteF ?_
      refine ⟨_, rfl, rd, Cl, dx, _, _, rfl, hins3, R.cl, R.nP, lk3 _ _ _ _, ?_⟩
      refine ⟨d, .ref ads[5], rfl, dg, ?_⟩
      refine ⟨.inl ⟨rfl, _, SqL.of hus3⟩, ?_⟩
      refine ⟨_, rfl, ?_⟩
      refine ⟨ads[5], [], .str rl, rfl, rfl, hus3, by decide, ?_⟩
      exact q _ (push ads[5] [] [] (.str rl) (.str rl) _ ha hc s13 hus3 .nil (.str _))
end
end C
set_option Elab.async false
set_option linter.all false
set_option pp.maxSteps 1500
set_option maxRecDepth 100000
set_option maxHeartbeats 4000000
namespace C
open PySem PySem.Spec PyProof.Rows L2 Kx M TL
local macro_rules | `(tactic| tm_at "same") => `(tactic| first
  | assumption
  | exact L2.Same.refl _
  | exact L2.Same.upd (by tm_at "same") (by tm_at "free")
  | exact sameTransR (by assumption) (by tm_at "same"))
local macro_rules | `(tactic| tm_at "free") => `(tactic| first
  | assumption
  | exact sameFreeR (by assumption) (by tm_at "same"))
local macro_rules | `(tactic| tm_at "but") => `(tactic| first
  | assumption
  | exact But.refl _ _
  | exact But.transR (by assumption) (by tm_at "but")
  | exact But.upd
  | exact But.self (by tm_at "but")
  | exact But.new1 (by tm_at "but") (by assumption)
  | exact But.new (by tm_at "but") (by tm_at "free")
  | exact L2.Same.but (by assumption) _)
local macro_rules | `(tactic| tm_at "fact") => `(tactic| first
  | exact upd_same
  | assumption
  | exact SqL.of upd_same
  | exact SqT.of upd_same
  | exact SqL.of (by assumption)
  | exact SqT.of (by assumption)
  | exact But.lstR (by assumption) (by assumption) (by tm_at "but"))
local macro_rules | `(tactic| tm_at "cond") => `(tactic| first
  | rfl
  | assumption
  | decide
  | omega
  | exact ⟨by decide, by decide⟩
  | exact .inr ⟨by decide, by decide⟩
  | exact .inl ⟨by decide, by decide⟩
  | exact ⟨by decide, by decide, by decide⟩
  | exact cdivw (by assumption) (by assumption)
  | exact log2_ok (by assumption)
  | exact Or.inl ⟨rfl, _, SqL.of upd_same⟩
  | exact Or.inl ⟨rfl, _, SqL.of (by assumption)⟩
  | exact ⟨_, rfl⟩
  | exact Nat.le_of_ble_eq_true rfl
  | exact small1000 (by omega))
local macro_rules | `(tactic| tm_at "prop") => `(tactic| first
  | assumption
  | omega)
local macro_rules | `(tactic| tm_at "s") => `(tactic| first
  | refine ⟨_, rfl, ?_⟩
  | refine ⟨_, _, rfl, rfl, ?_⟩
  | refine ⟨_, _, _, rfl, rfl, (by tm_at "fact"), (by tm_at "cond"), ?_⟩
  | refine ⟨_, _, _, _, rfl, rfl, (by tm_at "fact"), rfl, ?_⟩
  | refine ⟨_, _, rfl, (by tm_at "fact"), ?_⟩
  | refine And.intro (by tm_at "cond") ?_
  | refine .inl ⟨_, rfl, ?_⟩
  | refine ⟨_, _, rfl, .inl (by tm_at "fact"), ?_⟩
  | refine dec_false (by tm_at "prop") ?_
  | refine dec_true (by tm_at "prop") ?_
  | refine decN_false (by tm_at "prop") ?_
  | refine decN_true (by tm_at "prop") ?_
  | refine iteT ?_
  | refine iteF ?_
  | refine ⟨_, _, rfl, ?_⟩)
local macro_rules | `(tactic| tm_at "go") => `(tactic| repeat tm_at "s")

section
variable {P : Program} {w : World} {K : PySem.W.Frag} {mg : Str → Option Value} {base : Heap} {aH aR : Addr}
/-! ### take_end -/
def spEnd (K : PySem.W.Frag) (Cl : Addr) : Sp := fun vs H Q _ => ∃ (rd : Addr) (H0 : Hp) (s : RS) (a b : Str) (c0 c1 c2 c3 c4 : List PyData) (rl : Str) (c5 : List PyData), vs = [.ref rd] ∧ RdAt K Cl rd H0 H s ∧ s.names = some (a, b) ∧ s.cont = [c0, c1, c2, c3, c4, c5] ∧ (c5 = [] ∧ rl = S "any" ∨ c5 = [.str rl]) ∧
  (∀ c ∈ s.cont, c.length ≤ 100) ∧ s.rows.length ≤ 100 ∧
  ∀ H', RdAt K Cl rd H0 H' ⟨s.rows ++ [.tuple [.tuple [.str a, .str b, .tuple c0, .tuple c1, .tuple c2, .tuple c3], .tuple c4, .str rl]], none, s.cont, s.stage⟩ → Q .non H'
theorem RdIn.done {K : PySem.W.Frag} {Cl rd : Addr} {H0 H H2 H3 : Hp} {s : RS} {dx lf tn d tn2 : Addr} {vs : List V} {ads : List Addr} (I : RdIn K Cl rd H0 H s dx lf tn d vs ads) {v : V} {dd : PyData}
    (s2 : Same H H2) (iv : Im K H2 v dd) (s3 : Same (upd H2 lf (.lst (vs ++ [v]))) H3) (ht : H3 tn2 = some (.tup [])) :
    RdAt K Cl rd H0 (upd H3 rd (.ins Cl dx (flds (.ref lf) (.ref tn2) (.ref d) (.int s.stage)))) ⟨s.rows ++ [dd], none, s.cont, s.stage⟩ := by
  have hlr : lf ≠ rd := fun z => by
    have := I.lst
    rw [z, I.ins] at this
    cases this
  have hdr : d ≠ rd := fun z => by
    have := I.prt
    rw [z, I.ins] at this
    cases this
  have hdl : d ≠ lf := fun z => by
    have := I.prt
    rw [z, I.lst] at this
    cases this
  have fr : ∀ b o, b ≠ lf → H b = some o → H3 b = some o := fun b o n e => s3 _ _ (by rw [upd_ne n]; exact s2 _ _ e)
  have hrd3 := fr _ _ hlr.symm I.ins
  have hlf3 : H3 lf = some (.lst (vs ++ [v])) := s3 _ _ upd_same
  have htr : tn2 ≠ rd := fun z => by
    rw [z, hrd3] at ht
    cases ht
  have k2 : TK H2 H3 := (TK.lst (s2 _ _ I.lst)).trans s3.tk
  have k : TK H2 (upd H3 rd (.ins Cl dx (flds (.ref lf) (.ref tn2) (.ref d) (.int s.stage)))) := k2.trans (TK.ins hrd3)
  refine ⟨dx, lf, tn2, d, vs ++ [v], ads, ?_, upd_same, I.n0, ?_, I.nl, Ims.snoc ((s2.tk.trans k).ims I.rows) (k.im iv), SqT.of ?_, ?_, I.len, fun z => absurd rfl z, I.nd, I.lf_ads, I.na, ?_⟩
  · intro b o e
    have nb : b ≠ rd := fun z => by
      rw [z, I.n0] at e
      cases e
    have nl : b ≠ lf := fun z => by
      rw [z, I.nl] at e
      cases e
    rw [upd_ne nb]
    exact fr _ _ nl (I.same _ _ e)
  · rw [upd_ne hlr]
    exact hlf3
  · rw [upd_ne htr]
    exact ht
  · rw [upd_ne hdr]
    exact fr _ _ hdl I.prt
  · intro i y es e1 e2
    obtain ⟨us, h1, h2⟩ := I.at_ i y es e1 e2
    have hyr : y ≠ rd := fun z => by
      rw [z, I.ins] at h1
      cases h1
    have hyl : y ≠ lf := fun z => I.lf_ads (by rw [← z]; exact List.mem_of_getElem? e1)
    refine ⟨us, ?_, (s2.tk.trans k).ims h2⟩
    rw [upd_ne hyr]
    exact fr _ _ hyl h1
theorem sc_ClaimReader_take_end : FnScope ["self", "parts", "claim", "rule"] ["self"] (defScope s_ClaimReader_take_end) := ⟨rfl, rfl, rfl, by decide +kernel, rfl, by decide +kernel, by decide +kernel⟩
theorem ok_end {k : Nat} {Cl : Addr} (D : MDef K Cl "take_end" "ClaimReader.take_end" s_ClaimReader_take_end ["self"]) (R : Rk K Cl) (B : Bi mg) (G : Gb K mg aH aR) : MCal P w K mg base CX0 (k + 1) Cl "take_end" ["self"] (spEnd K Cl) := by
  refine D.cal fun f fd F => F.ok sc_ClaimReader_take_end (fun vs H Q E h => ?_) (fun cdv A outer s H vs Q E hr h => ?_)
  · obtain ⟨rd, H0, s, a, b, c0, c1, c2, c3, c4, rl, c5, rfl, _⟩ := h
    rfl
  · obtain ⟨rd, H0, r, a, b, c0, c1, c2, c3, c4, rl, c5, rfl, ⟨dx, lf, tn, d, vs, ads, I⟩, hn, hc, hr5, hcl, hrl, q⟩ := h
    have nd := sc_ClaimReader_take_end.nd
    have hins := I.ins
    refine ⟨_, (pss_cons (ps_set (i := 1) nd rfl (Or.inl rfl) (pe_fld (pv 0) rfl))
      (pss_cons (ps_set (i := 2) nd rfl (Or.inl rfl) (pe_op op_catA (pe_fld (pv 0) rfl) (pe_tup (pa_cons (pe_callTy call_tuple_of (by rfl) B.tuple (by decide +kernel) (pa_cons (pe_dget (hu_of hr) (pv 1) pe_str (fun _ _ => rfl)) pa_nil)) (pa_cons (pe_callTy call_tuple_of (by rfl) B.tuple (by decide +kernel) (pa_cons (pe_dget (hu_of hr) (pv 1) pe_str (fun _ _ => rfl)) pa_nil)) (pa_cons (pe_callTy call_tuple_of (by rfl) B.tuple (by decide +kernel) (pa_cons (pe_dget (hu_of hr) (pv 1) pe_str (fun _ _ => rfl)) pa_nil)) (pa_cons (pe_callTy call_tuple_of (by rfl) B.tuple (by decide +kernel) (pa_cons (pe_dget (hu_of hr) (pv 1) pe_str (fun _ _ => rfl)) pa_nil)) pa_nil)))))))
      (C8.pss_cut (ps_set (i := 3) nd rfl (Or.inl rfl) (pe_ifExp (pt_truth (pe_dget (hu_of hr) (pv 1) pe_str (fun _ _ => rfl)) (by intro _; rfl)) (pe_ix ix_list (pe_dget (hu_of hr) (pv 1) pe_str (fun _ _ => rfl)) pe_int (fun _ _ => rfl)) (pe_globS (by rfl) G.ANY_RULE)))
      (pss_cons (ps_expr (pe_bm PySem.F.plainAttrs_list PySem.F.slot_list_append PySem.F.type_list_append mt_append (pe_fld (pv 0) rfl) (pa_cons (pe_tup (pa_cons (pv 2) (pa_cons (pe_callTy call_tuple_of (by rfl) B.tuple (by decide +kernel) (pa_cons (pe_dget (hu_of hr) (pv 1) pe_str (fun _ _ => rfl)) pa_nil)) (pa_cons (pv 3) pa_nil)))) pa_nil)))
      (pss_one (ps_fld (pv 0) (pe_tup pa_nil) rfl)))))), ?_⟩
    refine ⟨_, rfl, rd, Cl, dx, _, _, rfl, hins, R.cl, R.nP, lk3 _ _ _ _, ?_⟩
    refine ⟨_, rfl, rd, Cl, dx, _, _, rfl, hins, R.cl, R.nN, lk2 _ _ _ _, ?_⟩
    have hl := I.len
    rw [hc] at hl
    obtain ⟨a0, a1, a2, a3, a4, a5, rfl⟩ : ∃ a0 a1 a2 a3 a4 a5, ads = [a0, a1, a2, a3, a4, a5] := by
      match ads, hl with
      | [a0, a1, a2, a3, a4, a5], _ => exact ⟨_, _, _, _, _, _, rfl⟩
    obtain ⟨w0, h0, i0⟩ := I.at_ 0 a0 c0 rfl (by rw [hc]; rfl)
    obtain ⟨w1, h1, i1⟩ := I.at_ 1 a1 c1 rfl (by rw [hc]; rfl)
    obtain ⟨w2, h2, i2⟩ := I.at_ 2 a2 c2 rfl (by rw [hc]; rfl)
    obtain ⟨w3, h3, i3⟩ := I.at_ 3 a3 c3 rfl (by rw [hc]; rfl)
    obtain ⟨w4, h4, i4⟩ := I.at_ 4 a4 c4 rfl (by rw [hc]; rfl)
    obtain ⟨w5, h5, i5⟩ := I.at_ 5 a5 c5 rfl (by rw [hc]; rfl)
    have dg : ∀ H', Same H H' → ∀ (j : Nat) (h : Str) (a : Addr), heads6[j]? = some h → [a0, a1, a2, a3, a4, a5][j]? = some a → DGet H' d (.str h) (some (.ref a)) := fun H' s' j h a e1 e2 => by
      rw [← part_get e1 e2]
      exact DGet.k (k := Sum.inr h) (s' _ _ I.prt)
    have r0 := Same.refl H
    refine ⟨_, rfl, d, .ref a0, rfl, dg _ r0 0 _ _ rfl rfl, ?_⟩
    refine ⟨a0, w0, rfl, .inl ⟨SqL.of h0, fun t0 n0 => ?_⟩⟩
    have s1 : Same H (upd H t0 (.tup w0)) := same_new n0
    have e0 : upd H t0 (.tup w0) t0 = some (.tup w0) := upd_same
    generalize upd H t0 (.tup w0) = H1 at s1 e0 ⊢
    refine ⟨_, rfl, d, .ref a1, rfl, dg _ s1 1 _ _ rfl rfl, ?_⟩
    refine ⟨a1, w1, rfl, .inl ⟨SqL.of (s1 _ _ h1), fun t1 n1 => ?_⟩⟩
    have s12 : Same H1 (upd H1 t1 (.tup w1)) := same_new n1
    have e1 : upd H1 t1 (.tup w1) t1 = some (.tup w1) := upd_same
    generalize upd H1 t1 (.tup w1) = H2 at s12 e1 ⊢
    have s2 := s1.trans s12
    refine ⟨_, rfl, d, .ref a2, rfl, dg _ s2 2 _ _ rfl rfl, ?_⟩
    refine ⟨a2, w2, rfl, .inl ⟨SqL.of (s2 _ _ h2), fun t2 n2 => ?_⟩⟩
    have s23 : Same H2 (upd H2 t2 (.tup w2)) := same_new n2
    have e2 : upd H2 t2 (.tup w2) t2 = some (.tup w2) := upd_same
    generalize upd H2 t2 (.tup w2) = H3 at s23 e2 ⊢
    have s3 := s2.trans s23
    refine ⟨_, rfl, d, .ref a3, rfl, dg _ s3 3 _ _ rfl rfl, ?_⟩
    refine ⟨a3, w3, rfl, .inl ⟨SqL.of (s3 _ _ h3), fun t3 n3 => ?_⟩⟩
    have s34 : Same H3 (upd H3 t3 (.tup w3)) := same_new n3
    have e3 : upd H3 t3 (.tup w3) t3 = some (.tup w3) := upd_same
    generalize upd H3 t3 (.tup w3) = H4 at s34 e3 ⊢
    have s4 := s3.trans s34
    tm_at "go"
    refine fun tt ntt => ?_
    have s45 : Same H4 (upd H4 tt (.tup [.ref t0, .ref t1, .ref t2, .ref t3])) := same_new ntt
    have ett : upd H4 tt (.tup [.ref t0, .ref t1, .ref t2, .ref t3]) tt = some (.tup [.ref t0, .ref t1, .ref t2, .ref t3]) := upd_same
    generalize upd H4 tt (.tup [.ref t0, .ref t1, .ref t2, .ref t3]) = H5 at s45 ett ⊢
    have s5 := s4.trans s45
    have hnm := s5.tk.tup I.nms
    rw [hn] at hnm
    have hsz : (nmV (some (a, b))).length + [V.ref t0, V.ref t1, V.ref t2, V.ref t3].length ≤ sizeLine := Nat.le_of_ble_eq_true rfl
    refine ⟨tn, tt, nmV (some (a, b)), [.ref t0, .ref t1, .ref t2, .ref t3], rfl, rfl, hnm, SqT.of ett, hsz, fun z => (by cases z), fun _ z => (by cases z), fun _ _ tc ntc => ?_⟩
    have s56 : Same H5 (upd H5 tc (.tup (nmV (some (a, b)) ++ [.ref t0, .ref t1, .ref t2, .ref t3]))) := same_new ntc
    have etc : upd H5 tc (.tup (nmV (some (a, b)) ++ [.ref t0, .ref t1, .ref t2, .ref t3])) tc = some (.tup (nmV (some (a, b)) ++ [.ref t0, .ref t1, .ref t2, .ref t3])) := upd_same
    generalize upd H5 tc (.tup (nmV (some (a, b)) ++ [.ref t0, .ref t1, .ref t2, .ref t3])) = H6 at s56 etc ⊢
    have s6 := s5.trans s56
    refine ⟨fun σ H' => σ = [some (.ref rd), some (.ref d), some (.ref tc), some (.str rl)] ∧ H' = H6, ?_, ?_⟩
    · refine ⟨_, rfl, d, .ref a5, rfl, dg _ s6 5 _ _ rfl rfl, ?_⟩
      rcases hr5 with ⟨rfl, rfl⟩ | rfl
      · obtain rfl := Ims.nil_inv i5
        refine ⟨false, .inl ⟨[], SqL.of (s6 _ _ h5), rfl⟩, ?_⟩
        refine iteF ?_
        exact ⟨rfl, rfl⟩
      · obtain ⟨v, r, rfl, iv, ir⟩ := Ims.cons_inv i5
        obtain rfl := Ims.nil_inv ir
        obtain rfl := Im.str_inv iv
        refine ⟨true, .inl ⟨[.str rl], SqL.of (s6 _ _ h5), rfl⟩, ?_⟩
        refine iteT ?_
        refine ⟨_, rfl, d, .ref a5, rfl, dg _ s6 5 _ _ rfl rfl, ?_⟩
        refine ⟨_, _, _, .str rl, rfl, rfl, SqL.of (s6 _ _ h5), atI_nat (j := 0) rfl, ?_⟩
        exact ⟨rfl, rfl⟩
    · rintro σ H7 ⟨rfl, rfl⟩
      refine ⟨_, rfl, rd, Cl, dx, _, _, rfl, s6 _ _ hins, R.cl, R.nF, lk1 _ _ _ _, ?_⟩
      refine ⟨.inl ⟨rfl, _, SqL.of (s6 _ _ I.lst)⟩, ?_⟩
      refine ⟨_, rfl, _, rfl, d, .ref a4, rfl, dg _ s6 4 _ _ rfl rfl, ?_⟩
      refine ⟨a4, w4, rfl, .inl ⟨SqL.of (s6 _ _ h4), fun t4 n4 => ?_⟩⟩
      have s67 : Same H7 (upd H7 t4 (.tup w4)) := same_new n4
      have e4 : upd H7 t4 (.tup w4) t4 = some (.tup w4) := upd_same
      generalize upd H7 t4 (.tup w4) = H8 at s67 e4 ⊢
      tm_at "go"
      refine fun tr ntr => ?_
      have s78 : Same H8 (upd H8 tr (.tup [.ref tc, .ref t4, .str rl])) := same_new ntr
      have er : upd H8 tr (.tup [.ref tc, .ref t4, .str rl]) tr = some (.tup [.ref tc, .ref t4, .str rl]) := upd_same
      generalize upd H8 tr (.tup [.ref tc, .ref t4, .str rl]) = H9 at s78 er ⊢
      have s9 := (s6.trans s67).trans s78
      have s69 := s67.trans s78
      have s59 := s56.trans s69
      have s49 := s45.trans s59
      have s39 := s34.trans s49
      have s29 := s23.trans s39
      have s19 := s12.trans s29
      have hvl := I.rows.length
      refine ⟨lf, vs, .ref tr, rfl, rfl, s9 _ _ I.lst, small1000 (by omega), ?_⟩
      have iv : Im K H9 (.ref tr) (.tuple [.tuple [.str a, .str b, .tuple c0, .tuple c1, .tuple c2, .tuple c3], .tuple c4, .str rl]) := by
        refine .tup (SqT.of er) (.cons (.tup (SqT.of (s69 _ _ etc)) (.cons (.str _) (.cons (.str _) (.cons ?_ (.cons ?_ (.cons ?_ (.cons ?_ .nil))))))) (.cons ?_ (.cons (.str _) .nil)))
        · exact .tup (SqT.of (s19 _ _ e0)) (s9.tk.ims i0)
        · exact .tup (SqT.of (s29 _ _ e1)) (s9.tk.ims i1)
        · exact .tup (SqT.of (s39 _ _ e2)) (s9.tk.ims i2)
        · exact .tup (SqT.of (s49 _ _ e3)) (s9.tk.ims i3)
        · exact .tup (SqT.of (s78 _ _ e4)) (s9.tk.ims i4)
      tm_at "go"
      refine fun tn2 ntn2 => ?_
      have hlr : lf ≠ rd := fun z => by
        have := I.lst
        rw [z, hins] at this
        cases this
      have sA : Same (upd H9 lf (.lst (vs ++ [.ref tr]))) (upd (upd H9 lf (.lst (vs ++ [.ref tr]))) tn2 (.tup [])) := same_new ntn2
      have hA : upd H9 lf (.lst (vs ++ [.ref tr])) rd = some (.ins Cl dx (flds (.ref lf) (.ref tn) (.ref d) (.int r.stage))) := by
        rw [upd_ne hlr.symm]
        exact s9 _ _ hins
      refine ⟨_, rfl, rd, Cl, dx, _, rfl, sA _ _ hA, R.cl, R.nN, Nat.le_of_ble_eq_true rfl, ?_⟩
      rw [pu2]
      exact q _ (I.done s9 iv sA upd_same)
end
end C
set_option Elab.async false
set_option linter.all false
set_option pp.maxSteps 1500
set_option maxRecDepth 100000
set_option maxHeartbeats 4000000
namespace C
open PySem PySem.Spec PyProof.Rows L2 Kx M TL
local macro_rules | `(tactic| tm_at "same") => `(tactic| first
  | assumption
  | exact L2.Same.refl _
  | exact L2.Same.upd (by tm_at "same") (by tm_at "free")
  | exact sameTransR (by assumption) (by tm_at "same"))
local macro_rules | `(tactic| tm_at "free") => `(tactic| first
  | assumption
  | exact sameFreeR (by assumption) (by tm_at "same"))
local macro_rules | `(tactic| tm_at "but") => `(tactic| first
  | assumption
  | exact But.refl _ _
  | exact But.transR (by assumption) (by tm_at "but")
  | exact But.upd
  | exact But.self (by tm_at "but")
  | exact But.new1 (by tm_at "but") (by assumption)
  | exact But.new (by tm_at "but") (by tm_at "free")
  | exact L2.Same.but (by assumption) _)
local macro_rules | `(tactic| tm_at "fact") => `(tactic| first
  | exact upd_same
  | assumption
  | exact SqL.of upd_same
  | exact SqT.of upd_same
  | exact SqL.of (by assumption)
  | exact SqT.of (by assumption)
  | exact But.lstR (by assumption) (by assumption) (by tm_at "but"))
local macro_rules | `(tactic| tm_at "cond") => `(tactic| first
  | rfl
  | assumption
  | decide
  | omega
  | exact ⟨by decide, by decide⟩
  | exact .inr ⟨by decide, by decide⟩
  | exact .inl ⟨by decide, by decide⟩
  | exact ⟨by decide, by decide, by decide⟩
  | exact cdivw (by assumption) (by assumption)
  | exact log2_ok (by assumption)
  | exact Or.inl ⟨rfl, _, SqL.of upd_same⟩
  | exact Or.inl ⟨rfl, _, SqL.of (by assumption)⟩
  | exact ⟨_, rfl⟩
  | exact Nat.le_of_ble_eq_true rfl
  | exact small1000 (by omega))
local macro_rules | `(tactic| tm_at "prop") => `(tactic| first
  | assumption
  | omega)
local macro_rules | `(tactic| tm_at "s") => `(tactic| first
  | refine ⟨_, rfl, ?_⟩
  | refine ⟨_, _, rfl, rfl, ?_⟩
  | refine ⟨_, _, _, rfl, rfl, (by tm_at "fact"), (by tm_at "cond"), ?_⟩
  | refine ⟨_, _, _, _, rfl, rfl, (by tm_at "fact"), rfl, ?_⟩
  | refine ⟨_, _, rfl, (by tm_at "fact"), ?_⟩
  | refine And.intro (by tm_at "cond") ?_
  | refine .inl ⟨_, rfl, ?_⟩
  | refine ⟨_, _, rfl, .inl (by tm_at "fact"), ?_⟩
  | refine dec_false (by tm_at "prop") ?_
  | refine dec_true (by tm_at "prop") ?_
  | refine decN_false (by tm_at "prop") ?_
  | refine decN_true (by tm_at "prop") ?_
  | refine iteT ?_
  | refine iteF ?_
  | refine ⟨_, _, rfl, ?_⟩)
local macro_rules | `(tactic| tm_at "go") => `(tactic| repeat tm_at "s")

section
variable {P : Program} {w : World} {K : PySem.W.Frag} {mg : Str → Option Value} {base : Heap} {aH aR : Addr}
/-! ### the reader stays while other things come -/
theorem RdIn.next {K : PySem.W.Frag} {Cl rd : Addr} {H0 H H' : Hp} {s : RS} {dx lf tn d : Addr} {vs : List V} {ads : List Addr} (I : RdIn K Cl rd H0 H s dx lf tn d vs ads) (t : Same H H') : RdIn K Cl rd H0 H' s dx lf tn d vs ads :=
  ⟨I.same.trans t, t _ _ I.ins, I.n0, t _ _ I.lst, I.nl, t.tk.ims I.rows, t.tk.tup I.nms, t _ _ I.prt, I.len, I.six, I.nd, I.lf_ads, I.na, fun i a ds e1 e2 => by
    obtain ⟨ws, h1, h2⟩ := I.at_ i a ds e1 e2
    exact ⟨ws, t _ _ h1, t.tk.ims h2⟩⟩
theorem RdAt.next {K : PySem.W.Frag} {Cl rd : Addr} {H0 H H' : Hp} {s : RS} (I : RdAt K Cl rd H0 H s) (t : Same H H') : RdAt K Cl rd H0 H' s := by
  obtain ⟨dx, lf, tn, d, vs, ads, J⟩ := I
  exact ⟨dx, lf, tn, d, vs, ads, J.next t⟩
theorem RdAt.same {K : PySem.W.Frag} {Cl rd : Addr} {H0 H : Hp} {s : RS} (I : RdAt K Cl rd H0 H s) : Same H0 H := by
  obtain ⟨dx, lf, tn, d, vs, ads, J⟩ := I
  exact J.same
/-- what is new is left alone too -/
theorem RdAt.frame {K : PySem.W.Frag} {Cl rd : Addr} {H0 H : Hp} {s : RS} (I : RdAt K Cl rd H0 H s) {p : Addr} {o : HO} (np : H p = none) : RdAt K Cl rd (upd H0 p o) (upd H p o) s := by
  obtain ⟨dx, lf, tn, d, vs, ads, J⟩ := I
  have J2 := J.next (same_new (o := o) np)
  refine ⟨dx, lf, tn, d, vs, ads, ?_, J2.ins, ?_, J2.lst, ?_, J2.rows, J2.nms, J2.prt, J2.len, J2.six, J2.nd, J2.lf_ads, fun a ha => ?_, J2.at_⟩
  · intro b x e
    by_cases h : b = p
    · subst h
      rw [upd_same] at e ⊢
      exact e
    · rw [upd_ne h] at e ⊢
      exact J.same _ _ e
  · rw [upd_ne (ne_of_none J.ins np)]
    exact J.n0
  · rw [upd_ne (ne_of_none J.lst np)]
    exact J.nl
  · obtain ⟨i, hi, e⟩ := List.getElem_of_mem ha
    have hi2 : i < s.cont.length := by
      rw [← J.len]
      exact hi
    obtain ⟨ws, h1, _⟩ := J.at_ i a _ (by rw [List.getElem?_eq_getElem hi, e]) (List.getElem?_eq_getElem hi2)
    rw [upd_ne (ne_of_none h1 np)]
    exact J.na a ha
/-! ### lists of texts as data -/
theorem eqv_strs : ∀ (ws us : List Str), PyData.eqvAll (ws.map PyData.str) (us.map PyData.str) = decide (ws = us)
  | [], [] => by simp only [List.map_nil, PyData.eqvAll]; rfl
  | [], _ :: _ => by simp only [List.map_nil, List.map_cons, PyData.eqvAll]; rfl
  | _ :: _, [] => by simp only [List.map_nil, List.map_cons, PyData.eqvAll]; rfl
  | w :: ws, u :: us => by
    simp only [List.map_cons, PyData.eqvAll, PyData.eqv]
    rw [eqv_strs ws us, beq_dec]
    by_cases h1 : w = u
    · by_cases h2 : ws = us
      · rw [decide_eq_true h1, decide_eq_true h2, decide_eq_true (by rw [h1, h2])]
        rfl
      · rw [decide_eq_false h2, Bool.and_false, decide_eq_false fun e => h2 (List.cons.inj e).2]
    · rw [decide_eq_false h1, Bool.false_and, decide_eq_false fun e => h1 (List.cons.inj e).1]
theorem lay_strs : ∀ {ws : List Str}, (∀ x ∈ ws, Ok x) → PyData.canLayAll0 (ws.map PyData.str) = true
  | [], _ => by simp only [List.map_nil, PyData.canLayAll0]
  | w :: ws, h => by
    simp only [List.map_cons, PyData.canLayAll0, PyData.canLay0]
    rw [lay_strs fun x hx => h x (List.mem_cons_of_mem _ hx), show PyData.strOk w = true from h w (List.mem_cons_self ..)]
    rfl
theorem depth_strs : ∀ ws : List Str, PyData.depthAll (ws.map PyData.str) ≤ 1
  | [] => by simp only [List.map_nil, PyData.depthAll]; exact Nat.zero_le _
  | w :: ws => by
    have := depth_strs ws
    simp only [List.map_cons, PyData.depthAll, PyData.depth]
    omega
theorem shaped_strs {ws : List Str} (h : ∀ x ∈ ws, Ok x) : SeqAt.shaped (.list (ws.map PyData.str)) = true := by
  unfold SeqAt.shaped
  rw [show PyData.canLay0 (.list (ws.map PyData.str)) = PyData.canLayAll0 (ws.map PyData.str) by simp only [PyData.canLay0], lay_strs h]
  have h1 := depth_strs ws
  have h2 : PyData.depth (.list (ws.map PyData.str)) = PyData.depthAll (ws.map PyData.str) + 1 := by simp only [PyData.depth]
  rw [h2, decide_eq_true (by omega)]
  rfl
theorem shaped_tstrs {ws : List Str} (h : ∀ x ∈ ws, Ok x) : SeqAt.shaped (.tuple (ws.map PyData.str)) = true := by
  unfold SeqAt.shaped
  rw [show PyData.canLay0 (.tuple (ws.map PyData.str)) = PyData.canLayAll0 (ws.map PyData.str) by simp only [PyData.canLay0], lay_strs h]
  have h1 := depth_strs ws
  have h2 : PyData.depth (.tuple (ws.map PyData.str)) = PyData.depthAll (ws.map PyData.str) + 1 := by simp only [PyData.depth]
  rw [h2, decide_eq_true (by omega)]
  rfl
/-! ### take -/
def rowD (a b : Str) (c0 c1 c2 c3 c4 : List PyData) (rl : Str) : PyData := .tuple [.tuple [.str a, .str b, .tuple c0, .tuple c1, .tuple c2, .tuple c3], .tuple c4, .str rl]
inductive Stp : RS → List Str → RS → Prop
  | head {s : RS} {a b : Str} : s.names = none → Stp s [S "claim", a, S "with", b] ⟨s.rows, some (a, b), List.replicate 6 [], 0⟩
  | part {s s' : RS} {ws : List Str} : Prt s ws s' → Stp s ws s'
  | fin {s : RS} {a b : Str} {c0 c1 c2 c3 c4 c5 : List PyData} {rl : Str} : s.names = some (a, b) → s.cont = [c0, c1, c2, c3, c4, c5] → (c5 = [] ∧ rl = S "any" ∨ c5 = [.str rl]) → (∀ c ∈ s.cont, c.length ≤ 100) → s.rows.length ≤ 100 →
      Stp s [S "end"] ⟨s.rows ++ [rowD a b c0 c1 c2 c3 c4 rl], none, s.cont, s.stage⟩
/-- the names of a claim under way can be laid -/
def NOk (s : RS) : Prop := ∀ p, s.names = some p → Ok p.1 ∧ Ok p.2
def spTake (K : PySem.W.Frag) (Cl : Addr) : Sp := fun vs H Q _ => ∃ (rd : Addr) (H0 : Hp) (s s' : RS) (L : Str), vs = [.ref rd, .str L] ∧ RdAt K Cl rd H0 H s ∧ NOk s ∧ L.length ≤ 20000 ∧ (∀ x ∈ Txt.words L, Ok x) ∧ Stp s (Txt.words L) s' ∧
  ∀ H', RdAt K Cl rd H0 H' s' → Q (.bl true) H'
theorem lkno {m : Str} (a b c d : V) (h1 : ¬ S "found" = m) (h2 : ¬ S "names" = m) (h3 : ¬ S "parts" = m) (h4 : ¬ S "stage" = m) : (flds a b c d).lookup m = none := by
  unfold flds
  rw [lk h1, lk h2, lk h3, lk h4]
  rfl
theorem nm_eqv (s : RS) : PyData.eqv (.tuple (nmD s.names)) (.tuple []) = decide (s.names = none) := by
  cases h : s.names with
  | none => simp only [nmD, PyData.eqv, PyData.eqvAll]; rfl
  | some p => simp only [nmD, PyData.eqv, PyData.eqvAll]; rfl
theorem end1 : ∀ x ∈ [S "end"], Ok x := fun x hx => by
  rw [List.mem_singleton.mp hx]
  exact (by decide +kernel : PyData.strOk (S "end") = true)
theorem nm_shaped {s : RS} (h : NOk s) : SeqAt.shaped (.tuple (nmD s.names)) = true := by
  cases e : s.names with
  | none => rfl
  | some p =>
    refine shaped_tstrs (ws := [p.1, p.2]) fun x hx => ?_
    rcases List.mem_cons.mp hx with z | z
    · rw [z]; exact (h p e).1
    · rw [List.mem_singleton.mp z]; exact (h p e).2
theorem sc_ClaimReader_take : FnScope ["self", "line", "words"] ["self", "line"] (defScope s_ClaimReader_take) := ⟨rfl, rfl, rfl, by decide +kernel, rfl, by decide +kernel, by decide +kernel⟩
theorem ok_take {k : Nat} {Cl : Addr} (D : MDef K Cl "take" "ClaimReader.take" s_ClaimReader_take ["self", "line"]) (R : Rk K Cl) (B : Bi mg) (G : Gb K mg aH aR)
    (m_ClaimReader_take_head : MCal P w K mg base CX0 k Cl "take_head" ["self", "words"] (spHead K Cl)) (m_ClaimReader_take_part : MCal P w K mg base CX0 k Cl "take_part" ["self", "words"] (spPart K Cl)) (m_ClaimReader_take_end : MCal P w K mg base CX0 k Cl "take_end" ["self"] (spEnd K Cl)) :
    MCal P w K mg base CX0 (k + 1) Cl "take" ["self", "line"] (spTake K Cl) := by
  refine D.cal fun f fd F => F.ok sc_ClaimReader_take (fun vs H Q E h => ?_) (fun cdv A outer s H vs Q E hr h => ?_)
  · obtain ⟨rd, H0, s, s', L, rfl, _⟩ := h
    rfl
  · obtain ⟨rd, H0, r, r', L, rfl, hR, hnk, hL, hok, hst, q⟩ := h
    have nd := sc_ClaimReader_take.nd
    have cl_ClaimReader := R.cl
    have big : (100000 : Nat) ≤ sizeLine := by decide
    refine ⟨_, (pss_cons (ps_set (i := 2) nd rfl (Or.inl rfl) (pe_words (pv 1)))
      (pss_cons (ps_if (pt_cmpR op_eq (pe_ix ix_list (pv 2) pe_int (fun _ _ => rfl)) pe_str (nomark _))
        (pss_one (ps_ret (pe_mcal cl_ClaimReader m_ClaimReader_take_head (Room.mono hr (by omega)) (pv 0) (pa_cons (pv 2) pa_nil))))
        pss_nil)
      (pss_cons (ps_if (pt_cmpR (op_eqD hr.units) (pe_fld (pv 0) rfl) (pe_tup pa_nil) (nomark _))
        (pss_one (ps_ret pe_bl))
        pss_nil)
      (pss_cons (ps_if (pt_cmpR (op_eqD hr.units) (pv 2) (pe_lst (pa_cons pe_str pa_nil)) (nomark _))
        (pss_cons (ps_expr (pe_mcal0 cl_ClaimReader m_ClaimReader_take_end (Room.mono hr (by omega)) (pv 0)))
        (pss_one (ps_ret pe_bl)))
        pss_nil)
      (pss_one (ps_ret (pe_and (pe_cmpR op_in_seq (pe_ix ix_list (pv 2) pe_int (fun _ _ => rfl)) (pe_globR (by rfl) G.HEADS) (by rfl)) (pe_one (pe_mcal cl_ClaimReader m_ClaimReader_take_part (Room.mono hr (by omega)) (pv 0) (pa_cons (pv 2) pa_nil)))))))))), ?_⟩
    generalize hW : Txt.words L = W at hok hst
    tm_at "go"
    refine fun wl nwl => ?_
    rw [hW]
    have s1 : Same H (upd H wl (.lst (W.map V.str))) := same_new nwl
    have hw : upd H wl (.lst (W.map V.str)) wl = some (.lst (W.map V.str)) := upd_same
    have hR1 := hR.next s1
    generalize upd H wl (.lst (W.map V.str)) = H1 at s1 hw hR1 ⊢
    obtain ⟨dx, lf, tn, d, vs, ads, I⟩ := id hR1
    cases hst with
    | head hn =>
      rename_i a b
      have e0 : atI ([S "claim", a, S "with", b].map V.str) 0 = some (V.str (S "claim")) := atI_nat (j := 0) rfl
      refine ⟨_, rfl, wl, _, _, _, rfl, rfl, SqL.of hw, e0, ?_⟩
      refine ⟨rfl, _, rfl, ?_⟩
      rw [decide_eq_true rfl]
      refine iteT ?_
      exact ⟨_, rfl, rd, dx, _, rfl, I.ins, lkno _ _ _ _ (by decide +kernel) (by decide +kernel) (by decide +kernel) (by decide +kernel), _, rfl, rd, wl, H0, r, a, b, rfl, hR1, SqL.of hw, hn, q⟩
    | part hp =>
      have pre : ∃ (hd : Str) (rest : List Str) (j : Nat), W = hd :: rest ∧ heads6[j]? = some hd ∧ r.names ≠ none := by
        cases hp with
        | pair h0 e h2 => rcases e with ⟨rfl, rfl⟩ | ⟨rfl, rfl⟩ <;> first | exact ⟨_, _, 1, rfl, rfl, h0⟩ | exact ⟨_, _, 3, rfl, rfl, h0⟩
        | form h0 e h2 => rcases e with ⟨rfl, rfl⟩ | ⟨rfl, rfl⟩ | ⟨rfl, rfl⟩ <;> first | exact ⟨_, _, 0, rfl, rfl, h0⟩ | exact ⟨_, _, 2, rfl, rfl, h0⟩ | exact ⟨_, _, 4, rfl, rfl, h0⟩
        | walk h0 h2 => exact ⟨_, _, 5, rfl, rfl, h0⟩
      obtain ⟨hd, rest, j, rfl, hj, hnn⟩ := pre
      have hdm := List.mem_of_getElem? hj
      have hh : ∀ z ∈ heads6, z ≠ S "claim" ∧ z ≠ S "end" ∧ L2.inV (V.str z) (heads6.map V.str) = true := by decide +kernel
      obtain ⟨z1, z2, z3⟩ := hh hd hdm
      have e0 : atI ((hd :: rest).map V.str) 0 = some (V.str hd) := atI_nat (j := 0) rfl
      refine ⟨_, rfl, wl, _, _, _, rfl, rfl, SqL.of hw, e0, ?_⟩
      refine ⟨rfl, _, rfl, ?_⟩
      rw [decide_eq_false (fun z => z1 (V.str.inj z))]
      refine iteF ?_
      refine ⟨_, rfl, rd, Cl, dx, _, _, rfl, I.ins, R.cl, R.nN, lk2 _ _ _ _, ?_⟩
      tm_at "go"
      refine fun p np => ?_
      have sp : Same H1 (upd H1 p (.tup [])) := same_new np
      refine ⟨_, .tuple [], .tup (sp.tk.tup I.nms) (nm_ims _).dp, .tup (SqT.of upd_same) .nil, nm_shaped hnk, rfl, ?_⟩
      rw [nm_eqv, decide_eq_false hnn]
      refine ⟨_, rfl, ?_⟩
      refine iteF ?_
      have hw2 := sp _ _ hw
      have hR2 := hR1.next sp
      generalize upd H1 p (.tup []) = H2 at sp hw2 hR2 ⊢
      tm_at "go"
      refine fun p2 np2 => ?_
      have sp2 : Same H2 (upd H2 p2 (.lst [.str (S "end")])) := same_new np2
      refine ⟨_, .list ([S "end"].map PyData.str), .lst (SqL.of (sp2 _ _ hw2)) (ims_strs (H := upd H2 p2 (.lst [.str (S "end")])) (hd :: rest)).dp, .lst (SqL.of upd_same) (.cons (.str _) .nil), shaped_strs hok, shaped_strs end1, ?_⟩
      rw [show PyData.eqv (.list ((hd :: rest).map PyData.str)) (.list ([S "end"].map PyData.str)) = false from (eqv_strs _ _).trans (decide_eq_false fun e => z2 (List.cons.inj e).1)]
      refine ⟨_, rfl, ?_⟩
      refine iteF ?_
      have hw3 := sp2 _ _ hw2
      have hR3 := hR2.next sp2
      generalize upd H2 p2 (.lst [.str (S "end")]) = H3 at sp2 hw3 hR3 ⊢
      refine ⟨_, rfl, wl, _, _, _, rfl, rfl, SqL.of hw3, e0, ?_⟩
      refine ⟨aH, heads6.map V.str, rfl, .inr (G.tH _), rfl, rfl, ?_⟩
      rw [show (if false = true then !L2.inV (V.str hd) (heads6.map V.str) else L2.inV (V.str hd) (heads6.map V.str)) = true by rw [if_neg Bool.false_ne_true]; exact z3]
      refine ⟨_, rfl, ?_⟩
      refine iteT ?_
      obtain ⟨dx3, lf3, tn3, d3, vs3, ads3, I3⟩ := id hR3
      exact ⟨_, rfl, rd, dx3, _, rfl, I3.ins, lkno _ _ _ _ (by decide +kernel) (by decide +kernel) (by decide +kernel) (by decide +kernel), _, rfl, rd, wl, H0, r, r', hd :: rest, rfl, hR3, hw3, hp, q⟩
    | fin hn hc hr5 hcl hrl =>
      rename_i a b c0 c1 c2 c3 c4 c5 rl
      have e0 : atI ([S "end"].map V.str) 0 = some (V.str (S "end")) := atI_nat (j := 0) rfl
      have e01 : ¬ V.str (S "end") = V.str (S "claim") := by decide +kernel
      refine ⟨_, rfl, wl, _, _, _, rfl, rfl, SqL.of hw, e0, ?_⟩
      refine ⟨rfl, _, rfl, ?_⟩
      rw [decide_eq_false e01]
      refine iteF ?_
      refine ⟨_, rfl, rd, Cl, dx, _, _, rfl, I.ins, R.cl, R.nN, lk2 _ _ _ _, ?_⟩
      tm_at "go"
      refine fun p np => ?_
      have sp : Same H1 (upd H1 p (.tup [])) := same_new np
      refine ⟨_, .tuple [], .tup (sp.tk.tup I.nms) (nm_ims _).dp, .tup (SqT.of upd_same) .nil, nm_shaped hnk, rfl, ?_⟩
      rw [nm_eqv, decide_eq_false (by rw [hn]; intro z; cases z)]
      refine ⟨_, rfl, ?_⟩
      refine iteF ?_
      have hw2 := sp _ _ hw
      have hR2 := hR1.next sp
      generalize upd H1 p (.tup []) = H2 at sp hw2 hR2 ⊢
      tm_at "go"
      refine fun p2 np2 => ?_
      have sp2 : Same H2 (upd H2 p2 (.lst [.str (S "end")])) := same_new np2
      refine ⟨.list ([S "end"].map PyData.str), .list ([S "end"].map PyData.str), .lst (SqL.of (sp2 _ _ hw2)) (.cons (.str _) .nil), .lst (SqL.of upd_same) (.cons (.str _) .nil), shaped_strs hok, shaped_strs hok, ?_⟩
      rw [show PyData.eqv (.list ([S "end"].map PyData.str)) (.list ([S "end"].map PyData.str)) = true from (eqv_strs _ _).trans (decide_eq_true rfl)]
      refine ⟨_, rfl, ?_⟩
      refine iteT ?_
      have hR3 := hR2.next sp2
      generalize upd H2 p2 (.lst [.str (S "end")]) = H3 at sp2 hR3 ⊢
      obtain ⟨dx3, lf3, tn3, d3, vs3, ads3, I3⟩ := id hR3
      refine ⟨_, rfl, rd, dx3, _, rfl, I3.ins, lkno _ _ _ _ (by decide +kernel) (by decide +kernel) (by decide +kernel) (by decide +kernel), ?_⟩
      exact ⟨rd, H0, r, a, b, c0, c1, c2, c3, c4, rl, c5, rfl, hR3, hn, hc, hr5, hcl, hrl, q⟩
end
end C
set_option Elab.async false
set_option linter.all false
set_option pp.maxSteps 1500
set_option maxRecDepth 100000
set_option maxHeartbeats 4000000
namespace C
open PySem PySem.Spec PyProof.Rows L2 Kx M TL
local macro_rules | `(tactic| tm_at "same") => `(tactic| first
  | assumption
  | exact L2.Same.refl _
  | exact L2.Same.upd (by tm_at "same") (by tm_at "free")
  | exact sameTransR (by assumption) (by tm_at "same"))
local macro_rules | `(tactic| tm_at "free") => `(tactic| first
  | assumption
  | exact sameFreeR (by assumption) (by tm_at "same"))
local macro_rules | `(tactic| tm_at "but") => `(tactic| first
  | assumption
  | exact But.refl _ _
  | exact But.transR (by assumption) (by tm_at "but")
  | exact But.upd
  | exact But.self (by tm_at "but")
  | exact But.new1 (by tm_at "but") (by assumption)
  | exact But.new (by tm_at "but") (by tm_at "free")
  | exact L2.Same.but (by assumption) _)
local macro_rules | `(tactic| tm_at "fact") => `(tactic| first
  | exact upd_same
  | assumption
  | exact SqL.of upd_same
  | exact SqT.of upd_same
  | exact SqL.of (by assumption)
  | exact SqT.of (by assumption)
  | exact But.lstR (by assumption) (by assumption) (by tm_at "but"))
local macro_rules | `(tactic| tm_at "cond") => `(tactic| first
  | rfl
  | assumption
  | decide
  | omega
  | exact ⟨by decide, by decide⟩
  | exact .inr ⟨by decide, by decide⟩
  | exact .inl ⟨by decide, by decide⟩
  | exact ⟨by decide, by decide, by decide⟩
  | exact cdivw (by assumption) (by assumption)
  | exact log2_ok (by assumption)
  | exact Or.inl ⟨rfl, _, SqL.of upd_same⟩
  | exact Or.inl ⟨rfl, _, SqL.of (by assumption)⟩
  | exact ⟨_, rfl⟩
  | exact Nat.le_of_ble_eq_true rfl
  | exact small1000 (by omega))
local macro_rules | `(tactic| tm_at "prop") => `(tactic| first
  | assumption
  | omega)
local macro_rules | `(tactic| tm_at "s") => `(tactic| first
  | refine ⟨_, rfl, ?_⟩
  | refine ⟨_, _, rfl, rfl, ?_⟩
  | refine ⟨_, _, _, rfl, rfl, (by tm_at "fact"), (by tm_at "cond"), ?_⟩
  | refine ⟨_, _, _, _, rfl, rfl, (by tm_at "fact"), rfl, ?_⟩
  | refine ⟨_, _, rfl, (by tm_at "fact"), ?_⟩
  | refine And.intro (by tm_at "cond") ?_
  | refine .inl ⟨_, rfl, ?_⟩
  | refine ⟨_, _, rfl, .inl (by tm_at "fact"), ?_⟩
  | refine dec_false (by tm_at "prop") ?_
  | refine dec_true (by tm_at "prop") ?_
  | refine decN_false (by tm_at "prop") ?_
  | refine decN_true (by tm_at "prop") ?_
  | refine iteT ?_
  | refine iteF ?_
  | refine ⟨_, _, rfl, ?_⟩)
local macro_rules | `(tactic| tm_at "go") => `(tactic| repeat tm_at "s")

section
variable {P : Program} {w : World} {K : PySem.W.Frag} {mg : Str → Option Value} {base : Heap} {aH aR : Addr}
/-! ### read_claims -/
inductive Run : RS → List (List Str) → RS → Prop
  | nil {s : RS} : Run s [] s
  | cons {s s1 s2 : RS} {ws : List Str} {W : List (List Str)} : Stp s ws s1 → Run s1 W s2 → Run s (ws :: W) s2
theorem Run.append {s s1 s2 : RS} {W X : List (List Str)} (a : Run s W s1) (b : Run s1 X s2) : Run s (W ++ X) s2 := by
  induction a with
  | nil => exact b
  | cons h _ ih => exact .cons h (ih b)
theorem Run.one {s s1 : RS} {ws : List Str} (h : Stp s ws s1) : Run s [ws] s1 := .cons h .nil
theorem stp_nok {s s' : RS} {ws : List Str} (h : NOk s) (hw : ∀ x ∈ ws, Ok x) (t : Stp s ws s') : NOk s' := by
  cases t with
  | head _ =>
    intro p e
    cases e
    exact ⟨hw _ (by simp), hw _ (by simp)⟩
  | part t =>
    cases t with
    | pair => exact h
    | form => exact h
    | walk => exact h
  | fin =>
    intro p e
    cases e
def wf (w : List Str) : Bool := !w.isEmpty
def spReadC (K : PySem.W.Frag) : Sp := fun vs H Q _ => ∃ (T : Str) (Ls : List Str) (sE : RS), vs = [.str T] ∧ T.length + 2 ≤ sizeLine ∧ Txt.split T (S "\n") = Ls ∧ (∀ L ∈ Ls, L.length ≤ 20000) ∧ (∀ L ∈ Ls, ∀ x ∈ Txt.words L, Ok x) ∧
  Run s0 ((Ls.map Txt.words).filter wf) sE ∧ sE.names = none ∧ ∀ v H', Same H H' → Im K H' v (.tuple sE.rows) → Q v H'
theorem sc_read_claims : FnScope ["text", "reader", "lines", "number", "line"] ["text"] (defScope s_read_claims) := ⟨rfl, rfl, rfl, by decide +kernel, rfl, by decide +kernel, by decide +kernel⟩
theorem ok_read_claims {k : Nat} {Cl : Addr} (D : Def K mg "read_claims" "read_claims" s_read_claims ["text"]) (R : Rk K Cl) (B : Bi mg) (G : Gb K mg aH aR) (gC_ClaimReader : mg "ClaimReader" = some (.ref Cl))
    (i_ClaimReader : KCal P w K mg base CX0 k Cl ["self"] (spInit K Cl)) (m_ClaimReader_take : MCal P w K mg base CX0 (k + 1) Cl "take" ["self", "line"] (spTake K Cl)) : Cal P w K mg base CX0 (k + 2) "read_claims" ["text"] (spReadC K) := by
  refine D.cal fun f fd F => F.ok sc_read_claims (fun vs H Q E h => ?_) (fun cdv A outer s H vs Q E hr h => ?_)
  · obtain ⟨T, Ls, sE, rfl, _⟩ := h
    rfl
  · obtain ⟨T, Ls, sE, rfl, hT, hs, hl, hok, hrun, hnn, q⟩ := h
    have nd := sc_read_claims.nd
    have cl_ClaimReader := R.cl
    have big : (100000 : Nat) ≤ sizeLine := by decide
    refine ⟨_, (pss_cons (ps_set (i := 1) nd rfl (Or.inl rfl) (pe_kcal i_ClaimReader (Room.mono hr (by omega)) (by rfl) gC_ClaimReader))
      (pss_cons (ps_set (i := 2) nd rfl (Or.inl rfl) (pe_split (pv 0) pe_str))
      (pss_cons (ps_for PassesOwn.never rfl (pi_enum (by rfl) B.enumerate (pa_cons (pv 2) pa_nil)) (pg_tup rfl (pgs_cons (pg_name (i := 3) nd rfl (Or.inl rfl)) (pgs_cons (pg_name (i := 4) nd rfl (Or.inl rfl)) pgs_nil)))
        (pss_one (ps_if (PW.pt (pw_and (pt_truth (pe_words (pv 4)) (by intro _; rfl)) (pw_and1 (pt_not (pt_val (pe_mcal cl_ClaimReader m_ClaimReader_take (Room.mono hr (by omega)) (pv 1) (pa_cons (pv 4) pa_nil)))))))
          (pss_one ps_never)
          pss_nil)))
      (pss_cons (ps_if (pt_cmpR (op_neD hr.units) (pe_fld (pv 1) rfl) (pe_tup pa_nil) (nomark _))
        (pss_one ps_never)
        pss_nil)
      (pss_one (ps_ret (pe_callTy call_tuple_of (by rfl) B.tuple (by decide +kernel) (pa_cons (pe_fld (pv 1) rfl) pa_nil)))))))), ?_⟩
    intro x dx nx ndx nex
    have sx : Same H (upd (upd H dx (.own x)) x (.ins Cl dx [])) := fun b o e => by
      rw [upd_ne (ne_of_none e nx), upd_ne (ne_of_none e ndx)]
      exact e
    refine ⟨x, dx, H, rfl, upd_same, sx, nx, fun H1 R1 => ⟨rfl, ?_⟩⟩
    tm_at "go"
    refine fun lp nlp => ?_
    have R2 := R1.frame (o := .lst (Ls.map V.str)) nlp
    have hs2 : Txt.split T (Str.ofString "\n") = Ls := hs
    rw [hs2]
    have sb : Same H (upd H lp (.lst (Ls.map V.str))) := same_new (R1.same.free nlp)
    have hb : upd H lp (.lst (Ls.map V.str)) lp = some (.lst (Ls.map V.str)) := upd_same
    generalize upd H1 lp (.lst (Ls.map V.str)) = H2 at R2 ⊢
    generalize upd H lp (.lst (Ls.map V.str)) = Hb at R2 sb hb
    refine ⟨_, rfl, lp, Ls.map V.str, rfl, SqL.of (R2.same _ _ hb), ?_⟩
    refine for_it walk_enum (fun i σ H' => ∃ v3 v4 s, σ = [some (.str T), some (.ref x), some (.ref lp), v3, v4] ∧ RdAt K Cl x Hb H' s ∧ NOk s ∧ Run s (((Ls.drop i).map Txt.words).filter wf) sE)
      ⟨_, _, s0, rfl, R2, fun p e => (by cases e), hrun⟩ (fun i σ H' _ ⟨_, _, s, _, r, _⟩ => SqL.of (r.same _ _ hb)) ?_ ?_
    · rintro i v σ H3 H4 hi ⟨v3, v4, s, rfl, r3, hn3, run3⟩ ⟨t, y1, y2, rfl, nt, rfl, e1, e2⟩
      cases e1
      have hi2 : i < Ls.length := by
        rw [List.length_map] at hi
        exact hi
      have hL : Ls[i]? = some Ls[i] := List.getElem?_eq_getElem hi2
      have e3 : y2 = V.str Ls[i] := by
        have e2' : (Ls.map V.str)[i]? = some y2 := e2
        rw [List.getElem?_map, hL] at e2'
        cases e2'
        rfl
      subst e3
      have hmem := List.getElem_mem hi2
      rw [List.drop_eq_getElem_cons hi2, List.map_cons] at run3
      have lenL := hl _ hmem
      have okL := hok _ hmem
      generalize Ls[i] = L at run3 lenL okL ⊢
      have st : Same H3 (upd H3 t (.tup [.int ((i : Nat) : Int), .str L])) := same_new nt
      have r4 := r3.next st
      refine ⟨t, _, rfl, SqT.of upd_same, rfl, ?_⟩
      generalize upd H3 t (.tup [.int ((i : Nat) : Int), .str L]) = H4 at st r4 ⊢
      have lenS : L.length + 2 ≤ sizeLine := by omega
      tm_at "go"
      refine fun p np => ?_
      have sp : Same H4 (upd H4 p (.lst ((Txt.words L).map V.str))) := same_new np
      have r5 := r4.next sp
      refine ⟨!((Txt.words L).map V.str).isEmpty, .inl ⟨_, SqL.of upd_same, rfl⟩, ?_⟩
      generalize upd H4 p (.lst ((Txt.words L).map V.str)) = H5 at r5 ⊢
      by_cases hw : wf (Txt.words L) = true
      · rw [List.filter_cons_of_pos hw] at run3
        have he : (!((Txt.words L).map V.str).isEmpty) = true := by
          unfold wf at hw
          cases h : Txt.words L with
          | nil => rw [h] at hw; cases hw
          | cons _ _ => rfl
        rw [he]
        refine iteT ?_
        cases run3 with
        | cons t1 run4 =>
          rename_i s1
          obtain ⟨dx3, lf3, tn3, d3, vs3, ads3, I3⟩ := id r5
          refine ⟨_, rfl, x, dx3, _, rfl, I3.ins, lkno _ _ _ _ (by decide +kernel) (by decide +kernel) (by decide +kernel) (by decide +kernel), _, rfl, x, Hb, s, s1, L, rfl, r5, hn3, lenL, okL, t1, fun H6 r6 => ?_⟩
          refine ⟨_, rfl, ?_⟩
          refine iteF ?_
          exact ⟨_, _, s1, rfl, r6, stp_nok hn3 okL t1, run4⟩
      · rw [List.filter_cons_of_neg hw] at run3
        have he : (!((Txt.words L).map V.str).isEmpty) = false := by
          unfold wf at hw
          cases h : Txt.words L with
          | nil => rfl
          | cons _ _ => rw [h] at hw; exact absurd rfl hw
        rw [he]
        refine iteF ?_
        refine iteF ?_
        exact ⟨_, _, s, rfl, r5, hn3, run3⟩
    · rintro σ H3 ⟨v3, v4, s, rfl, r3, hn3, run3⟩
      have ed : Ls.drop (Ls.map V.str).length = [] := by
        rw [List.length_map]
        exact List.drop_length
      rw [ed] at run3
      cases run3
      obtain ⟨dx3, lf3, tn3, d3, vs3, ads3, I3⟩ := id r3
      refine ⟨_, rfl, x, Cl, dx3, _, _, rfl, I3.ins, R.cl, R.nN, lk2 _ _ _ _, ?_⟩
      tm_at "go"
      refine fun p np => ?_
      have sp : Same H3 (upd H3 p (.tup [])) := same_new np
      refine ⟨_, .tuple [], .tup (sp.tk.tup I3.nms) (nm_ims _).dp, .tup (SqT.of upd_same) .nil, nm_shaped hn3, rfl, ?_⟩
      rw [nm_eqv, decide_eq_true hnn]
      refine ⟨_, rfl, ?_⟩
      refine iteF ?_
      have I4 := I3.next sp
      have r4 := r3.next sp
      generalize upd H3 p (.tup []) = H4 at I4 r4 ⊢
      refine ⟨_, rfl, x, Cl, dx3, _, _, rfl, I4.ins, R.cl, R.nF, lk1 _ _ _ _, ?_⟩
      refine ⟨lf3, vs3, rfl, .inl ⟨SqL.of I4.lst, fun l nl => ?_⟩⟩
      have sl : Same H4 (upd H4 l (.tup vs3)) := same_new nl
      exact q _ _ ((sb.trans r4.same).trans sl) (.tup (SqT.of upd_same) (sl.tk.ims I4.rows))
end
end C
set_option Elab.async false
set_option linter.all false
set_option pp.maxSteps 1500
set_option maxRecDepth 100000
set_option maxHeartbeats 4000000
namespace C
open PySem PySem.Spec PyProof.Rows L2 Kx M TL
local macro_rules | `(tactic| tm_at "same") => `(tactic| first
  | assumption
  | exact L2.Same.refl _
  | exact L2.Same.upd (by tm_at "same") (by tm_at "free")
  | exact sameTransR (by assumption) (by tm_at "same"))
local macro_rules | `(tactic| tm_at "free") => `(tactic| first
  | assumption
  | exact sameFreeR (by assumption) (by tm_at "same"))
local macro_rules | `(tactic| tm_at "but") => `(tactic| first
  | assumption
  | exact But.refl _ _
  | exact But.transR (by assumption) (by tm_at "but")
  | exact But.upd
  | exact But.self (by tm_at "but")
  | exact But.new1 (by tm_at "but") (by assumption)
  | exact But.new (by tm_at "but") (by tm_at "free")
  | exact L2.Same.but (by assumption) _)
local macro_rules | `(tactic| tm_at "fact") => `(tactic| first
  | exact upd_same
  | assumption
  | exact SqL.of upd_same
  | exact SqT.of upd_same
  | exact SqL.of (by assumption)
  | exact SqT.of (by assumption)
  | exact But.lstR (by assumption) (by assumption) (by tm_at "but"))
local macro_rules | `(tactic| tm_at "cond") => `(tactic| first
  | rfl
  | assumption
  | decide
  | omega
  | exact ⟨by decide, by decide⟩
  | exact .inr ⟨by decide, by decide⟩
  | exact .inl ⟨by decide, by decide⟩
  | exact ⟨by decide, by decide, by decide⟩
  | exact cdivw (by assumption) (by assumption)
  | exact log2_ok (by assumption)
  | exact Or.inl ⟨rfl, _, SqL.of upd_same⟩
  | exact Or.inl ⟨rfl, _, SqL.of (by assumption)⟩
  | exact ⟨_, rfl⟩
  | exact Nat.le_of_ble_eq_true rfl
  | exact small1000 (by omega))
local macro_rules | `(tactic| tm_at "prop") => `(tactic| first
  | assumption
  | omega)
local macro_rules | `(tactic| tm_at "s") => `(tactic| first
  | refine ⟨_, rfl, ?_⟩
  | refine ⟨_, _, rfl, rfl, ?_⟩
  | refine ⟨_, _, _, rfl, rfl, (by tm_at "fact"), (by tm_at "cond"), ?_⟩
  | refine ⟨_, _, _, _, rfl, rfl, (by tm_at "fact"), rfl, ?_⟩
  | refine ⟨_, _, rfl, (by tm_at "fact"), ?_⟩
  | refine And.intro (by tm_at "cond") ?_
  | refine .inl ⟨_, rfl, ?_⟩
  | refine ⟨_, _, rfl, .inl (by tm_at "fact"), ?_⟩
  | refine dec_false (by tm_at "prop") ?_
  | refine dec_true (by tm_at "prop") ?_
  | refine decN_false (by tm_at "prop") ?_
  | refine decN_true (by tm_at "prop") ?_
  | refine iteT ?_
  | refine iteF ?_
  | refine ⟨_, _, rfl, ?_⟩)
local macro_rules | `(tactic| tm_at "go") => `(tactic| repeat tm_at "s")

section
variable {P : Program} {w : World} {K : PySem.W.Frag} {mg : Str → Option Value} {base : Heap} {aH aR : Addr}
/-! ### the rows' lines are read as the rows -/
theorem run_forms {hd : Str} {j : Nat} (hj : j = 0 ∧ hd = S "given" ∨ j = 2 ∧ hd = S "ask" ∨ j = 4 ∧ hd = S "hint") : ∀ (fs : List Form) (rows : List PyData) (nm : Str × Str) (cont : List (List PyData)) (st : Int) (ds : List PyData),
    st ≤ (j : Int) → cont[j]? = some ds → ds.length + fs.length ≤ 100 → (∀ f ∈ fs, FOk f) → ∃ st', st' ≤ (j : Int) ∧ Run ⟨rows, some nm, cont, st⟩ (fs.map (fW hd)) ⟨rows, some nm, cont.set j (ds ++ fs.map fD), st'⟩
  | [], rows, nm, cont, st, ds, h1, h2, _, _ => by
    refine ⟨st, h1, ?_⟩
    rw [List.map_nil, List.map_nil, List.append_nil]
    have e : cont.set j ds = cont := by
      obtain ⟨hlt, e⟩ := List.getElem?_eq_some_iff.mp h2
      rw [← e]
      exact List.set_getElem_self hlt
    rw [e]
    exact .nil
  | f :: fs, rows, nm, cont, st, ds, h1, h2, h3, h4 => by
    have hl : f.1 = f.1 := rfl
    rw [List.length_cons] at h3
    have hlt : j < cont.length := (List.getElem?_eq_some_iff.mp h2).1
    obtain ⟨st', k1, k2⟩ := run_forms hj fs rows nm (cont.set j (ds ++ [fD f])) (j : Int) (ds ++ [fD f]) (Int.le_refl _) (by rw [List.getElem?_set_self hlt]) (by rw [List.length_append, List.length_singleton]; omega) fun g hg => h4 g (List.mem_cons_of_mem _ hg)
    refine ⟨st', k1, ?_⟩
    rw [List.set_set, List.append_assoc] at k2
    exact .cons (.part (.form (s := ⟨rows, some nm, cont, st⟩) (fun z => nomatch z) hj h1 h2 (by omega) (h4 f (List.mem_cons_self ..)))) k2
theorem run_pairs {hd : Str} {j : Nat} (hj : j = 1 ∧ hd = S "same" ∨ j = 3 ∧ hd = S "keep") : ∀ (ps : List (Str × Str)) (rows : List PyData) (nm : Str × Str) (cont : List (List PyData)) (st : Int) (qs : List (Str × Str)),
    st ≤ (j : Int) → cont[j]? = some (qs.map qD) → qs.length + ps.length ≤ 100 → (qs ++ ps).Nodup → (∀ p ∈ qs ++ ps, Ok p.1 ∧ Ok p.2) → ∃ st', st' ≤ (j : Int) ∧ Run ⟨rows, some nm, cont, st⟩ (ps.map (pW hd)) ⟨rows, some nm, cont.set j ((qs ++ ps).map qD), st'⟩
  | [], rows, nm, cont, st, qs, h1, h2, _, _, _ => by
    refine ⟨st, h1, ?_⟩
    rw [List.map_nil, List.append_nil]
    have e : cont.set j (qs.map qD) = cont := by
      obtain ⟨hlt, e⟩ := List.getElem?_eq_some_iff.mp h2
      rw [← e]
      exact List.set_getElem_self hlt
    rw [e]
    exact .nil
  | p :: ps, rows, nm, cont, st, qs, h1, h2, h3, h4, h5 => by
    rw [List.length_cons] at h3
    have hlt : j < cont.length := (List.getElem?_eq_some_iff.mp h2).1
    have ea : (qs ++ [p]) ++ ps = qs ++ p :: ps := by rw [List.append_assoc]; rfl
    have em : qs.map qD ++ [qD p] = (qs ++ [p]).map qD := by rw [List.map_append]; rfl
    have hni : p ∉ qs := by
      intro z
      have := (List.nodup_append.mp h4).2.2 p z p (List.mem_cons_self ..)
      exact this rfl
    obtain ⟨st', k1, k2⟩ := run_pairs hj ps rows nm (cont.set j (qs.map qD ++ [qD p])) (j : Int) (qs ++ [p]) (Int.le_refl _) (by rw [List.getElem?_set_self hlt, em]) (by rw [List.length_append, List.length_singleton]; omega) (by rw [ea]; exact h4) (by rw [ea]; exact h5)
    refine ⟨st', k1, ?_⟩
    rw [List.set_set, ea] at k2
    exact .cons (.part (.pair (s := ⟨rows, some nm, cont, st⟩) (x := p.1) (y := p.2) (fun z => nomatch z) hj h1 h2 (by omega) hni (h5 p (List.mem_append_right _ (List.mem_cons_self ..))) fun r hr => h5 r (List.mem_append_left _ hr))) k2
theorem run_row {r : M.Row} (h : r.Ok) (rows : List PyData) (cont : List (List PyData)) (st : Int) (hr : rows.length ≤ 100) : ∃ cont' st', Run ⟨rows, none, cont, st⟩ (rowW r) ⟨rows ++ [rD r], none, cont', st'⟩ := by
  have okp : ∀ {ps : List (Str × Str)}, (∀ p ∈ ps, Wd p.1 ∧ Wd p.2) → ∀ p ∈ [] ++ ps, Ok p.1 ∧ Ok p.2 := fun h p hp => ⟨(h p (by simpa using hp)).1.ok, (h p (by simpa using hp)).2.ok⟩
  have l1 := h.gl; have l2 := h.sl; have l3 := h.al; have l4 := h.kl; have l5 := h.hl
  obtain ⟨t0, g0, r0⟩ := run_forms (j := 0) (.inl ⟨rfl, rfl⟩) r.gs rows (r.a, r.b) [[], [], [], [], [], []] 0 [] (Int.le_refl _) rfl (by rw [List.length_nil]; omega) h.g
  obtain ⟨t1, g1, r1⟩ := run_pairs (j := 1) (.inl ⟨rfl, rfl⟩) r.ss rows (r.a, r.b) [r.gs.map fD, [], [], [], [], []] t0 [] (by omega) rfl (by rw [List.length_nil]; omega) h.sn (okp h.s)
  obtain ⟨t2, g2, r2⟩ := run_forms (j := 2) (.inr (.inl ⟨rfl, rfl⟩)) r.as rows (r.a, r.b) [r.gs.map fD, r.ss.map qD, [], [], [], []] t1 [] (by omega) rfl (by rw [List.length_nil]; omega) h.a'
  obtain ⟨t3, g3, r3⟩ := run_pairs (j := 3) (.inr ⟨rfl, rfl⟩) r.ks rows (r.a, r.b) [r.gs.map fD, r.ss.map qD, r.as.map fD, [], [], []] t2 [] (by omega) rfl (by rw [List.length_nil]; omega) h.kn (okp h.k)
  obtain ⟨t4, g4, r4⟩ := run_forms (j := 4) (.inr (.inr ⟨rfl, rfl⟩)) r.hs rows (r.a, r.b) [r.gs.map fD, r.ss.map qD, r.as.map fD, r.ks.map qD, [], []] t3 [] (by omega) rfl (by rw [List.length_nil]; omega) h.h
  have hcl : ∀ (c5 : List PyData), c5.length ≤ 1 → ∀ c ∈ [r.gs.map fD, r.ss.map qD, r.as.map fD, r.ks.map qD, r.hs.map fD, c5], c.length ≤ 100 := by
    intro c5 h5 c hc
    simp only [List.mem_cons, List.not_mem_nil, or_false] at hc
    rcases hc with rfl | rfl | rfl | rfl | rfl | rfl <;> first | (rw [List.length_map]; omega) | omega
  have hru := h.ru
  have rE := (((((Run.one (Stp.head (s := ⟨rows, none, cont, st⟩) (a := r.a) (b := r.b) rfl)).append r0).append r1).append r2).append r3).append r4
  unfold rowW
  by_cases ha : r.rule = S "any"
  · rw [if_pos ha, List.append_nil]
    exact ⟨_, _, rE.append (.one (.fin (s := ⟨rows, some (r.a, r.b), [r.gs.map fD, r.ss.map qD, r.as.map fD, r.ks.map qD, r.hs.map fD, []], t4⟩) rfl rfl (.inl ⟨rfl, ha⟩) (hcl [] (by decide)) hr))⟩
  · rw [if_neg ha]
    have h7 : r.rule ∈ rules7 := by
      rcases List.mem_append.mp hru with z | z
      · exact z
      · refine absurd ?_ ha
        simp only [List.mem_cons, List.not_mem_nil, or_false] at z
        rcases z with z | z | z <;> exact z
    have rW := rE.append (.one (.part (.walk (s := ⟨rows, some (r.a, r.b), [r.gs.map fD, r.ss.map qD, r.as.map fD, r.ks.map qD, r.hs.map fD, []], t4⟩) (fun z => nomatch z) (Int.le_trans g4 (by decide)) rfl h7)))
    exact ⟨_, _, rW.append (.one (.fin (s := ⟨rows, some (r.a, r.b), [r.gs.map fD, r.ss.map qD, r.as.map fD, r.ks.map qD, r.hs.map fD, [.str r.rule]], 5⟩) rfl rfl (.inr rfl) (hcl [.str r.rule] (Nat.le_refl 1)) hr))⟩
theorem run_rows : ∀ (rs : List M.Row) (rows : List PyData) (cont : List (List PyData)) (st : Int), rows.length + rs.length ≤ 100 → (∀ r ∈ rs, r.Ok) → ∃ cont' st', Run ⟨rows, none, cont, st⟩ (rs.flatMap rowW) ⟨rows ++ rs.map rD, none, cont', st'⟩
  | [], rows, cont, st, _, _ => ⟨cont, st, by rw [List.map_nil, List.append_nil]; exact .nil⟩
  | r :: rs, rows, cont, st, h, ho => by
    rw [List.length_cons] at h
    obtain ⟨c1, t1, k1⟩ := run_row (ho r (List.mem_cons_self ..)) rows cont st (by omega)
    obtain ⟨c2, t2, k2⟩ := run_rows rs (rows ++ [rD r]) c1 t1 (by rw [List.length_append, List.length_singleton]; omega) fun z hz => ho z (List.mem_cons_of_mem _ hz)
    refine ⟨c2, t2, ?_⟩
    rw [List.append_assoc] at k2
    exact k1.append k2
/-! ### all words of the lines -/
def okW (x : Str) : Bool := (!(tl x).isEmpty) && (tl x).all (fun c => !Unicode.isSpace c && decide (c ≤ 126)) && decide (x.length ≤ 142)
theorem okW_of {x : Str} (h : okW x = true) : Clean x ∧ x.length ≤ 142 ∧ Ok x := by
  unfold okW at h
  rw [Bool.and_eq_true, Bool.and_eq_true] at h
  obtain ⟨⟨h1, h2⟩, h3⟩ := h
  have h2' := List.all_eq_true.mp h2
  refine ⟨⟨fun e => ?_, fun c hc => ?_⟩, of_decide_eq_true h3, .of fun c hc => ?_⟩
  · rw [e] at h1
    cases h1
  · have := h2' c hc
    rw [Bool.and_eq_true] at this
    have := this.1
    cases e : Unicode.isSpace c with
    | false => rfl
    | true => rw [e] at this; cases this
  · have := h2' c hc
    rw [Bool.and_eq_true] at this
    exact of_decide_eq_true this.2
theorem small_all : ∀ c ∈ 42 :: 43 :: 45 :: (nh ++ dg), c ≤ 126 := by decide +kernel
theorem tm_ok {p : Str × Int} (h : POk p) : ∀ c ∈ tl (tm p.1 p.2.natAbs), c ≤ 126 := fun c hc => small_all c (by
  rcases tm_mem h c hc with q | q | q
  · simp [q]
  · simp [q]
  · simp [q])
theorem pm_ok (n : Int) : Ok (pm n) := by
  unfold pm
  split <;> exact (okW_of (by decide +kernel)).2.2
theorem sgtm_ok {p : Str × Int} (h : POk p) : Ok (M.sg p.2 ++ tm p.1 p.2.natAbs) := .of fun c hc => by
  rw [tl_append] at hc
  rcases List.mem_append.mp hc with q | q
  · unfold M.sg at q
    split at q
    · rw [tl_minus, List.mem_singleton] at q
      omega
    · cases q
  · exact tm_ok h c q
theorem wdl_ok : ∀ {l : List (Str × Int)}, (∀ p ∈ l, POk p) → ∀ w ∈ wdl l, Ok w
  | [], _, _, hw => by cases hw
  | p :: r, h, w, hw => by
    have hp := h p (List.mem_cons_self ..)
    rcases List.mem_cons.mp hw with e | e
    · subst e
      exact pm_ok _
    · rcases List.mem_cons.mp e with e | e
      · subst e
        exact .of (tm_ok hp)
      · exact wdl_ok (fun q hq => h q (List.mem_cons_of_mem _ hq)) w e
theorem wd_ok {f : Form} (h : FOk f) : ∀ x ∈ wd f, Ok x := by
  have hp := terms_ok h
  unfold wd
  generalize terms f = l at hp
  cases l with
  | nil =>
    intro x hx
    cases hx
  | cons p r =>
    intro x hx
    rcases List.mem_cons.mp hx with e | e
    · subst e
      exact sgtm_ok (hp p (List.mem_cons_self ..))
    · exact wdl_ok (fun q hq => hp q (List.mem_cons_of_mem _ hq)) x e
theorem wd_small {z : Str} (h : Wd z) : Clean z ∧ z.length ≤ 142 := by
  refine ⟨⟨h.1, fun c hc => ?_⟩, by have := h.2.1; omega⟩
  obtain ⟨h1, h2⟩ := h.2.2 c hc
  have hh : ∀ n : Nat, n < 127 → 33 ≤ n → Unicode.isSpace n = false := by decide +kernel
  exact hh c (by omega) h1
/-- words that can be laid, without blanks -/
structure Wk (ws : List Str) : Prop where
  ok : WOk ws
  lay : ∀ x ∈ ws, Ok x
  ne : ws ≠ []
theorem wk_form {hd : Str} (h1 : Clean hd ∧ hd.length ≤ 142 ∧ Ok hd) {f : Form} (hf : FOk f) : Wk (fW hd f) := by
  refine ⟨⟨fun x hx => ?_, ?_⟩, fun x hx => ?_, List.cons_ne_nil _ _⟩
  · rcases List.mem_cons.mp hx with e | e
    · rw [e]; exact ⟨h1.1, h1.2.1⟩
    · exact ⟨wd_clean hf x e, wd_lens hf x e⟩
  · have := wd_count hf
    show (wd f).length + 1 ≤ 102
    omega
  · rcases List.mem_cons.mp hx with e | e
    · rw [e]; exact h1.2.2
    · exact wd_ok hf x e
theorem wk_pair {hd : Str} (h1 : Clean hd ∧ hd.length ≤ 142 ∧ Ok hd) {p : Str × Str} (hp : Wd p.1 ∧ Wd p.2) : Wk (pW hd p) := by
  refine ⟨⟨fun x hx => ?_, Nat.le_of_ble_eq_true rfl⟩, fun x hx => ?_, List.cons_ne_nil _ _⟩
  all_goals
    simp only [pW, List.mem_cons, List.not_mem_nil, or_false] at hx
    rcases hx with rfl | rfl | rfl
  · exact ⟨h1.1, h1.2.1⟩
  · exact wd_small hp.1
  · exact wd_small hp.2
  · exact h1.2.2
  · exact hp.1.ok
  · exact hp.2.ok
theorem wk_rule {r : Str} (h : r ∈ rules7) : Wk (S "walk" :: Txt.split r (S " ")) := by
  have hh : ∀ z ∈ rules7, (Txt.split z (S " ")).length ≤ 5 ∧ ∀ x ∈ S "walk" :: Txt.split z (S " "), okW x = true := by decide +kernel
  obtain ⟨h1, h2⟩ := hh r h
  refine ⟨⟨fun x hx => ⟨(okW_of (h2 x hx)).1, (okW_of (h2 x hx)).2.1⟩, ?_⟩, fun x hx => (okW_of (h2 x hx)).2.2, List.cons_ne_nil _ _⟩
  rw [List.length_cons]
  omega
theorem wk_row {r : M.Row} (h : r.Ok) : ∀ ws ∈ rowW r, Wk ws := by
  intro ws hw
  unfold rowW at hw
  simp only [List.mem_append, List.mem_map, List.mem_singleton] at hw
  rcases hw with ((((((rfl | ⟨f, hf, rfl⟩) | ⟨p, hp, rfl⟩) | ⟨f, hf, rfl⟩) | ⟨p, hp, rfl⟩) | ⟨f, hf, rfl⟩) | hw) | rfl
  · have h1 := okW_of (x := S "claim") (by decide +kernel)
    have h2 := okW_of (x := S "with") (by decide +kernel)
    refine ⟨⟨fun x hx => ?_, Nat.le_of_ble_eq_true rfl⟩, fun x hx => ?_, List.cons_ne_nil _ _⟩
    all_goals
      simp only [List.mem_cons, List.not_mem_nil, or_false] at hx
      rcases hx with rfl | rfl | rfl | rfl
    · exact ⟨h1.1, h1.2.1⟩
    · exact wd_small h.wa
    · exact ⟨h2.1, h2.2.1⟩
    · exact wd_small h.wb
    · exact h1.2.2
    · exact h.wa.ok
    · exact h2.2.2
    · exact h.wb.ok
  · exact wk_form (okW_of (by decide +kernel)) (h.g f hf)
  · exact wk_pair (okW_of (by decide +kernel)) (h.s p hp)
  · exact wk_form (okW_of (by decide +kernel)) (h.a' f hf)
  · exact wk_pair (okW_of (by decide +kernel)) (h.k p hp)
  · exact wk_form (okW_of (by decide +kernel)) (h.h f hf)
  · by_cases ha : r.rule = S "any"
    · rw [if_pos ha] at hw
      cases hw
    · rw [if_neg ha, List.mem_singleton] at hw
      subst hw
      refine wk_rule ?_
      rcases List.mem_append.mp h.ru with z | z
      · exact z
      · refine absurd ?_ ha
        simp only [List.mem_cons, List.not_mem_nil, or_false] at z
        rcases z with z | z | z <;> exact z
  · refine ⟨⟨fun x hx => ?_, Nat.le_of_ble_eq_true rfl⟩, fun x hx => ?_, List.cons_ne_nil _ _⟩
    all_goals
      rw [List.mem_singleton] at hx
      subst hx
    · have h1 := okW_of (x := S "end") (by decide +kernel)
      exact ⟨h1.1, h1.2.1⟩
    · exact (okW_of (x := S "end") (by decide +kernel)).2.2
theorem row_count {r : M.Row} (h : r.Ok) : (rowW r).length ≤ 15 := by
  have l1 := h.gl; have l2 := h.sl; have l3 := h.al; have l4 := h.kl; have l5 := h.hl
  unfold rowW
  simp only [List.length_append, List.length_map, List.length_singleton]
  have : (if r.rule = S "any" then ([] : List (List Str)) else [S "walk" :: Txt.split r.rule (S " ")]).length ≤ 1 := by
    split
    · exact Nat.zero_le _
    · exact Nat.le_refl _
  omega
end
end C
set_option Elab.async false
set_option linter.all false
set_option pp.maxSteps 1500
set_option maxRecDepth 100000
set_option maxHeartbeats 4000000
namespace C
open PySem PySem.Spec PyProof.Rows L2 Kx M TL
local macro_rules | `(tactic| tm_at "same") => `(tactic| first
  | assumption
  | exact L2.Same.refl _
  | exact L2.Same.upd (by tm_at "same") (by tm_at "free")
  | exact sameTransR (by assumption) (by tm_at "same"))
local macro_rules | `(tactic| tm_at "free") => `(tactic| first
  | assumption
  | exact sameFreeR (by assumption) (by tm_at "same"))
local macro_rules | `(tactic| tm_at "but") => `(tactic| first
  | assumption
  | exact But.refl _ _
  | exact But.transR (by assumption) (by tm_at "but")
  | exact But.upd
  | exact But.self (by tm_at "but")
  | exact But.new1 (by tm_at "but") (by assumption)
  | exact But.new (by tm_at "but") (by tm_at "free")
  | exact L2.Same.but (by assumption) _)
local macro_rules | `(tactic| tm_at "fact") => `(tactic| first
  | exact upd_same
  | assumption
  | exact SqL.of upd_same
  | exact SqT.of upd_same
  | exact SqL.of (by assumption)
  | exact SqT.of (by assumption)
  | exact But.lstR (by assumption) (by assumption) (by tm_at "but"))
local macro_rules | `(tactic| tm_at "cond") => `(tactic| first
  | rfl
  | assumption
  | decide
  | omega
  | exact ⟨by decide, by decide⟩
  | exact .inr ⟨by decide, by decide⟩
  | exact .inl ⟨by decide, by decide⟩
  | exact ⟨by decide, by decide, by decide⟩
  | exact cdivw (by assumption) (by assumption)
  | exact log2_ok (by assumption)
  | exact Or.inl ⟨rfl, _, SqL.of upd_same⟩
  | exact Or.inl ⟨rfl, _, SqL.of (by assumption)⟩
  | exact ⟨_, rfl⟩
  | exact Nat.le_of_ble_eq_true rfl
  | exact small1000 (by omega))
local macro_rules | `(tactic| tm_at "prop") => `(tactic| first
  | assumption
  | omega)
local macro_rules | `(tactic| tm_at "s") => `(tactic| first
  | refine ⟨_, rfl, ?_⟩
  | refine ⟨_, _, rfl, rfl, ?_⟩
  | refine ⟨_, _, _, rfl, rfl, (by tm_at "fact"), (by tm_at "cond"), ?_⟩
  | refine ⟨_, _, _, _, rfl, rfl, (by tm_at "fact"), rfl, ?_⟩
  | refine ⟨_, _, rfl, (by tm_at "fact"), ?_⟩
  | refine And.intro (by tm_at "cond") ?_
  | refine .inl ⟨_, rfl, ?_⟩
  | refine ⟨_, _, rfl, .inl (by tm_at "fact"), ?_⟩
  | refine dec_false (by tm_at "prop") ?_
  | refine dec_true (by tm_at "prop") ?_
  | refine decN_false (by tm_at "prop") ?_
  | refine decN_true (by tm_at "prop") ?_
  | refine iteT ?_
  | refine iteF ?_
  | refine ⟨_, _, rfl, ?_⟩)
local macro_rules | `(tactic| tm_at "go") => `(tactic| repeat tm_at "s")

section
variable {P : Program} {w : World} {K : PySem.W.Frag} {mg : Str → Option Value} {base : Heap} {aH aR : Addr}
/-! ### a text of lines -/
structure Rdb (T : Str) (W : List (List Str)) : Prop where
  ex : ∃ Ls, Txt.split T (S "\n") = Ls ∧ (∀ L ∈ Ls, L.length ≤ 20000) ∧ (Ls.map Txt.words).filter wf = W
  len : T.length + 2 ≤ sizeLine
theorem words_empty : Txt.words Str.empty = [] := map_tl_inj (by rw [words_tl]; rfl)
theorem tl_nl : tl (S "\n") = [10] := by decide +kernel
theorem _root_.M.Lay.len_join {ls : List Str} {W : List (List Str)} (h : Lay ls W) : (Txt.join (S "\n") ls).length ≤ ls.length * 20001 := by
  rw [join_eq]
  have h1 := join_len (S "\n") ls
  have h2 := sum_le h.len
  have e : (S "\n").length = 1 := by decide +kernel
  rw [e] at h1
  omega
theorem _root_.M.Lay.rdb {ls : List Str} {W : List (List Str)} (h : Lay ls W) (hn : ls ≠ []) (hl : ls.length ≤ 500) : Rdb (Txt.join (S "\n") ls) W := by
  refine ⟨⟨ls, split_join (s := 10) (S := []) tl_nl (by decide +kernel) hn h.nl, h.len, h.ws⟩, ?_⟩
  have h1 := h.len_join
  have h2 : ls.length * 20001 ≤ 500 * 20001 := Nat.mul_le_mul_right _ hl
  have : (10100000 : Nat) ≤ sizeLine := by decide
  omega
/-- no line is one line of nothing -/
theorem _root_.M.Lay.fill {ls : List Str} {W : List (List Str)} (h : Lay ls W) (hl : ls.length ≤ 400) : ∃ ms, Lay ms W ∧ ms ≠ [] ∧ ms.length ≤ 400 ∧ Txt.join (S "\n") ls = Txt.join (S "\n") ms := by
  cases ls with
  | nil =>
    refine ⟨[Str.empty], ?_, List.cons_ne_nil _ _, Nat.le_of_ble_eq_true rfl, rfl⟩
    have e : W = [] := h.ws.symm
    subst e
    exact Lay.blank words_empty (fun z => by cases z) (Nat.zero_le _)
  | cons x r => exact ⟨x :: r, h, List.cons_ne_nil _ _, hl, rfl⟩
theorem join_snoc (y x : Str) : ∀ {l : List Str}, l ≠ [] → Str.join y (l ++ [x]) = Str.join y l ++ y ++ x
  | [], h => absurd rfl h
  | [a], _ => rfl
  | a :: b :: r, _ => by
    have ih := join_snoc y x (l := b :: r) (List.cons_ne_nil _ _)
    show a ++ y ++ Str.join y ((b :: r) ++ [x]) = a ++ y ++ Str.join y (b :: r) ++ y ++ x
    rw [ih]
    simp only [app_assoc]
theorem join_cons (y x : Str) : ∀ {l : List Str}, l ≠ [] → Str.join y (x :: l) = x ++ y ++ Str.join y l
  | [], h => absurd rfl h
  | _ :: _, _ => rfl
theorem _root_.M.Lay.wrap {ls : List Str} {W : List (List Str)} (h : Lay ls W) (hn : ls ≠ []) (hl : ls.length ≤ 400) : Rdb (S "\n" ++ Txt.join (S "\n") ls ++ S "\n") W := by
  have b : Lay [Str.empty] [] := Lay.blank words_empty (fun z => by cases z) (Nat.zero_le _)
  have h2 : Lay ([Str.empty] ++ ls ++ [Str.empty]) ([] ++ W ++ []) := (b.append h).append b
  rw [List.nil_append, List.append_nil] at h2
  have h3 := h2.rdb (by simp) (by rw [List.length_append, List.length_append, List.length_singleton]; omega)
  have e : Txt.join (S "\n") ([Str.empty] ++ ls ++ [Str.empty]) = S "\n" ++ Txt.join (S "\n") ls ++ S "\n" := by
    rw [join_eq, join_eq]
    have e1 : [Str.empty] ++ ls ++ [Str.empty] = Str.empty :: (ls ++ [Str.empty]) := rfl
    rw [e1, join_cons _ _ (by simp), join_snoc _ _ hn, app_empty, empty_app]
    simp only [app_assoc]
  rw [e] at h3
  exact h3
/-- tight words -/
theorem wk_words {ws : List Str} (h : Wk ws) : Txt.words (Txt.join (S " ") ws) = ws := by
  refine map_tl_inj ?_
  rw [words_tl, join_eq, tl_join, tl_blank]
  have := wfold_join (ws.map tl) [] (fun e => h.ne (List.map_eq_nil_iff.mp e)) fun p hp => by
    obtain ⟨z, hz, rfl⟩ := List.mem_map.mp hp
    exact (h.ok.cl z hz).1
  rw [List.nil_append] at this
  exact this
theorem joinL_mem : ∀ (ps : List (List Nat)) (y : List Nat) (c : Nat), c ∈ joinL y ps → c ∈ y ∨ ∃ p ∈ ps, c ∈ p
  | [], _, _, h => by cases h
  | [p], _, _, h => .inr ⟨p, List.mem_singleton.mpr rfl, h⟩
  | p :: q :: r, y, c, h => by
    rcases List.mem_append.mp (show c ∈ p ++ (y ++ joinL y (q :: r)) from h) with z | z
    · exact .inr ⟨p, List.mem_cons_self .., z⟩
    · rcases List.mem_append.mp z with z | z
      · exact .inl z
      · rcases joinL_mem (q :: r) y c z with z | ⟨p', h1, h2⟩
        · exact .inl z
        · exact .inr ⟨p', List.mem_cons_of_mem _ h1, h2⟩
theorem wk_nl {ws : List Str} (h : Wk ws) : 10 ∉ tl (Txt.join (S " ") ws) := by
  intro hc
  rw [join_eq, tl_join, tl_blank] at hc
  rcases joinL_mem _ _ _ hc with z | ⟨p, h1, h2⟩
  · rw [List.mem_singleton] at z
    omega
  · obtain ⟨x, hx, rfl⟩ := List.mem_map.mp h1
    exact (h.ok.cl x hx).1.no sp10 h2
theorem wk_len {ws : List Str} (h : Wk ws) : (ws.map (·.length)).sum + ws.length * (S " ").length ≤ 15000 := by
  have h2 := sum_le (b := 142) fun x hx => (h.ok.cl x hx).2
  have h3 := h.ok.le
  have e : (S " ").length = 1 := by decide +kernel
  have h4 : ws.length * 142 ≤ 102 * 142 := Nat.mul_le_mul_right _ h3
  rw [e]
  omega
theorem wk_lay {ws : List Str} (h : Wk ws) : Lay [Txt.join (S " ") ws] [ws] := by
  refine Lay.one (wk_words h) (wk_nl h) ?_ h.ne
  rw [join_eq]
  have h1 := join_len (S " ") ws
  have h2 := wk_len h
  omega
theorem wk_lays : ∀ {W : List (List Str)}, (∀ ws ∈ W, Wk ws) → Lay (W.map (Txt.join (S " "))) W
  | [], _ => Lay.nil
  | ws :: W, h => by
    have h2 := (wk_lay (h ws (List.mem_cons_self ..))).append (wk_lays fun x hx => h x (List.mem_cons_of_mem _ hx))
    exact h2
theorem wk_rows {rs : List M.Row} (h : ∀ r ∈ rs, r.Ok) : ∀ ws ∈ rs.flatMap rowW, Wk ws := fun ws hw => by
  obtain ⟨r, h1, h2⟩ := List.mem_flatMap.mp hw
  exact wk_row (h r h1) ws h2
theorem rows_count : ∀ {rs : List M.Row}, (∀ r ∈ rs, r.Ok) → (rs.flatMap rowW).length ≤ 15 * rs.length
  | [], _ => Nat.zero_le _
  | r :: rs, h => by
    have h1 := row_count (h r (List.mem_cons_self ..))
    have h2 := rows_count (rs := rs) fun x hx => h x (List.mem_cons_of_mem _ hx)
    rw [List.flatMap_cons, List.length_append, List.length_cons]
    omega
/-! ### rows as data -/
theorem sok_all {ds : List PyData} (h : ∀ d ∈ ds, sok d = true) : soks ds = true := by
  induction ds with
  | nil => unfold soks; rfl
  | cons d r ih =>
    unfold soks
    rw [h d (List.mem_cons_self ..), ih fun x hx => h x (List.mem_cons_of_mem _ hx)]
    rfl
theorem few_all {ds : List PyData} (h : ∀ d ∈ ds, few d = true) : fews ds = true := by
  induction ds with
  | nil => unfold fews; rfl
  | cons d r ih =>
    unfold fews
    rw [h d (List.mem_cons_self ..), ih fun x hx => h x (List.mem_cons_of_mem _ hx)]
    rfl
theorem depth_all {n : Nat} {ds : List PyData} (h : ∀ d ∈ ds, d.depth ≤ n) : PyData.depthAll ds ≤ n := by
  induction ds with
  | nil => unfold PyData.depthAll; exact Nat.zero_le _
  | cons d r ih =>
    unfold PyData.depthAll
    exact Nat.max_le.mpr ⟨h d (List.mem_cons_self ..), ih fun x hx => h x (List.mem_cons_of_mem _ hx)⟩
/-- data of ints, texts and short tuples, of some depth at most -/
structure Nice (n : Nat) (d : PyData) : Prop where
  sok : sok d = true
  few : few d = true
  dep : d.depth ≤ n
theorem Nice.str (n : Nat) (x : Str) : Nice (n + 1) (.str x) := ⟨by unfold C.sok; rfl, by unfold C.few; rfl, by simp only [PyData.depth]; omega⟩
theorem Nice.int (n : Nat) (x : Int) : Nice (n + 1) (.int x) := ⟨by unfold C.sok; rfl, by unfold C.few; rfl, by simp only [PyData.depth]; omega⟩
theorem Nice.tup {n : Nat} {ds : List PyData} (h : ∀ d ∈ ds, Nice n d) (hl : ds.length < 1000) : Nice (n + 1) (.tuple ds) := by
  refine ⟨?_, ?_, ?_⟩
  · unfold C.sok
    exact sok_all fun d hd => (h d hd).sok
  · unfold C.few
    rw [decide_eq_true hl, few_all fun d hd => (h d hd).few]
    rfl
  · simp only [PyData.depth]
    have := depth_all fun d hd => (h d hd).dep
    omega
theorem nice_q (n : Nat) (p : Str × Str) : Nice (n + 2) (qD p) := .tup (by
  intro d hd
  simp only [List.mem_cons, List.not_mem_nil, or_false] at hd
  rcases hd with rfl | rfl <;> exact .str _ _) (Nat.le_of_ble_eq_true rfl)
theorem nice_f (n : Nat) {f : Form} (h : FOk f) : Nice (n + 4) (fD f) := .tup (by
  intro d hd
  simp only [List.mem_cons, List.not_mem_nil, or_false] at hd
  rcases hd with rfl | rfl
  · exact .int _ _
  · refine .tup (fun d hd => ?_) ?_
    · obtain ⟨p, _, rfl⟩ := List.mem_map.mp hd
      refine .tup (fun d hd => ?_) (Nat.le_of_ble_eq_true rfl)
      simp only [List.mem_cons, List.not_mem_nil, or_false] at hd
      rcases hd with rfl | rfl
      · exact .str _ _
      · exact .int _ _
    · have := h.len
      rw [List.length_map]
      omega) (Nat.le_of_ble_eq_true rfl)
theorem nice_row {r : M.Row} (h : r.Ok) : Nice 7 (rD r) := by
  have l1 := h.gl; have l2 := h.sl; have l3 := h.al; have l4 := h.kl; have l5 := h.hl
  have ff : ∀ {fs : List Form}, (∀ f ∈ fs, FOk f) → fs.length ≤ 2 → Nice 5 (.tuple (fs.map fD)) := fun h1 h2 => .tup (fun d hd => by
    obtain ⟨f, hf, rfl⟩ := List.mem_map.mp hd
    exact nice_f 0 (h1 f hf)) (by rw [List.length_map]; omega)
  have qq : ∀ {ps : List (Str × Str)}, ps.length ≤ 3 → Nice 5 (.tuple (ps.map qD)) := fun h2 => .tup (fun d hd => by
    obtain ⟨f, hf, rfl⟩ := List.mem_map.mp hd
    exact nice_q 2 f) (by rw [List.length_map]; omega)
  have up : ∀ {d : PyData}, Nice 5 d → Nice 6 d := fun h => ⟨h.sok, h.few, Nat.le_succ_of_le h.dep⟩
  refine .tup (fun d hd => ?_) (Nat.le_of_ble_eq_true rfl)
  simp only [List.mem_cons, List.not_mem_nil, or_false] at hd
  rcases hd with rfl | rfl | rfl
  · refine .tup (fun d hd => ?_) (Nat.le_of_ble_eq_true rfl)
    simp only [List.mem_cons, List.not_mem_nil, or_false] at hd
    rcases hd with rfl | rfl | rfl | rfl | rfl | rfl
    · exact .str _ _
    · exact .str _ _
    · exact ff h.g l1
    · exact qq l2
    · exact ff h.a' l3
    · exact qq l4
  · exact up (ff h.h l5)
  · exact .str _ _
theorem nice_rows {rs : List M.Row} (h : ∀ r ∈ rs, r.Ok) (hl : rs.length < 1000) : Nice 8 (.tuple (rs.map rD)) := .tup (fun d hd => by
  obtain ⟨r, hr, rfl⟩ := List.mem_map.mp hd
  exact nice_row (h r hr)) (by rw [List.length_map]; exact hl)
/-- what read_claims promises of such a text -/
theorem readC_of {K : PySem.W.Frag} {T : Str} {rs : List M.Row} {H : Hp} {Q : VK} {E : XK} (ho : ∀ r ∈ rs, r.Ok) (hl : rs.length ≤ 100) (h : Rdb T (rs.flatMap rowW)) (q : ∀ v H', Same H H' → Im K H' v (.tuple (rs.map rD)) → Q v H') : spReadC K [.str T] H Q E := by
  obtain ⟨Ls, h1, h2, h3⟩ := h.ex
  obtain ⟨c, t, hr⟩ := run_rows rs [] [] (-1) (by rw [List.length_nil]; omega) ho
  refine ⟨T, Ls, ⟨[] ++ rs.map rD, none, c, t⟩, rfl, h.len, h1, h2, fun L hL x hx => ?_, by rw [h3]; exact hr, rfl, q⟩
  have hm : Txt.words L ∈ (Ls.map Txt.words).filter wf := by
    refine List.mem_filter.mpr ⟨List.mem_map_of_mem hL, ?_⟩
    unfold wf
    cases e : Txt.words L with
    | nil => rw [e] at hx; cases hx
    | cons _ _ => rfl
  rw [h3] at hm
  exact (wk_rows ho _ hm).lay x hx
end
end C
set_option Elab.async false
set_option linter.all false
set_option pp.maxSteps 1500
set_option maxRecDepth 100000
set_option maxHeartbeats 4000000
namespace C
open PySem PySem.Spec PyProof.Rows L2 Kx M TL
local macro_rules | `(tactic| tm_at "same") => `(tactic| first
  | assumption
  | exact L2.Same.refl _
  | exact L2.Same.upd (by tm_at "same") (by tm_at "free")
  | exact sameTransR (by assumption) (by tm_at "same"))
local macro_rules | `(tactic| tm_at "free") => `(tactic| first
  | assumption
  | exact sameFreeR (by assumption) (by tm_at "same"))
local macro_rules | `(tactic| tm_at "but") => `(tactic| first
  | assumption
  | exact But.refl _ _
  | exact But.transR (by assumption) (by tm_at "but")
  | exact But.upd
  | exact But.self (by tm_at "but")
  | exact But.new1 (by tm_at "but") (by assumption)
  | exact But.new (by tm_at "but") (by tm_at "free")
  | exact L2.Same.but (by assumption) _)
local macro_rules | `(tactic| tm_at "fact") => `(tactic| first
  | exact upd_same
  | assumption
  | exact SqL.of upd_same
  | exact SqT.of upd_same
  | exact SqL.of (by assumption)
  | exact SqT.of (by assumption)
  | exact But.lstR (by assumption) (by assumption) (by tm_at "but"))
local macro_rules | `(tactic| tm_at "cond") => `(tactic| first
  | rfl
  | assumption
  | decide
  | omega
  | exact ⟨by decide, by decide⟩
  | exact .inr ⟨by decide, by decide⟩
  | exact .inl ⟨by decide, by decide⟩
  | exact ⟨by decide, by decide, by decide⟩
  | exact cdivw (by assumption) (by assumption)
  | exact log2_ok (by assumption)
  | exact Or.inl ⟨rfl, _, SqL.of upd_same⟩
  | exact Or.inl ⟨rfl, _, SqL.of (by assumption)⟩
  | exact ⟨_, rfl⟩
  | exact Nat.le_of_ble_eq_true rfl
  | exact small1000 (by omega))
local macro_rules | `(tactic| tm_at "prop") => `(tactic| first
  | assumption
  | omega)
local macro_rules | `(tactic| tm_at "s") => `(tactic| first
  | refine ⟨_, rfl, ?_⟩
  | refine ⟨_, _, rfl, rfl, ?_⟩
  | refine ⟨_, _, _, rfl, rfl, (by tm_at "fact"), (by tm_at "cond"), ?_⟩
  | refine ⟨_, _, _, _, rfl, rfl, (by tm_at "fact"), rfl, ?_⟩
  | refine ⟨_, _, rfl, (by tm_at "fact"), ?_⟩
  | refine And.intro (by tm_at "cond") ?_
  | refine .inl ⟨_, rfl, ?_⟩
  | refine ⟨_, _, rfl, .inl (by tm_at "fact"), ?_⟩
  | refine dec_false (by tm_at "prop") ?_
  | refine dec_true (by tm_at "prop") ?_
  | refine decN_false (by tm_at "prop") ?_
  | refine decN_true (by tm_at "prop") ?_
  | refine iteT ?_
  | refine iteF ?_
  | refine ⟨_, _, rfl, ?_⟩)
local macro_rules | `(tactic| tm_at "go") => `(tactic| repeat tm_at "s")

section
variable {P : Program} {w : World} {K : PySem.W.Frag} {mg : Str → Option Value} {base : Heap} {aH aR : Addr}
/-! ### the lines that are written -/
def fL (hd : Str) (f : Form) : Str := hd ++ wr f
def pL (hd : Str) (p : Str × Str) : Str := hd ++ p.1 ++ S " " ++ p.2
def rowL0 (r : M.Row) : List Str := [S "claim " ++ r.a ++ S " with " ++ r.b] ++ r.gs.map (fL (S "  given ")) ++ r.ss.map (pL (S "  same ")) ++ r.as.map (fL (S "  ask ")) ++ r.ks.map (pL (S "  keep ")) ++ r.hs.map (fL (S "  hint "))
def rowL (r : M.Row) : List Str := rowL0 r ++ (if r.rule = S "any" then [] else [S "  walk " ++ r.rule]) ++ [S "end"]
theorem rowL0_len {r : M.Row} (h : r.Ok) : (rowL0 r).length ≤ 13 := by
  have l1 := h.gl; have l2 := h.sl; have l3 := h.al; have l4 := h.kl; have l5 := h.hl
  unfold rowL0
  simp only [List.length_append, List.length_map, List.length_singleton]
  omega
theorem fL_len {hd : Str} (hh : hd.length ≤ 10) {f : Form} (h : FOk f) : (fL hd f).length ≤ 15010 := by
  have := wr_len h
  unfold fL
  rw [len_app]
  omega
theorem pL_len {hd : Str} (hh : hd.length ≤ 10) {p : Str × Str} (h : Wd p.1 ∧ Wd p.2) : (pL hd p).length ≤ 50 := by
  have h1 := h.1.2.1
  have h2 := h.2.2.1
  have e : (S " ").length = 1 := by decide +kernel
  unfold pL
  rw [len_app, len_app, len_app]
  omega
theorem pi_listK {X : Cx} {K : PySem.W.Frag} {tg l : Expr} {tl : TE} (h : X.K = K) (hl : PE X l tl) : PI X tg l (iList K tl) := by
  subst h
  exact pi_list hl
/-- a comprehension with two walks: the outer one -/
theorem lc2_out {J : It} {n : Nat} {G' : Hp → Prop} {Y : Nat → Hp → V → Hp → Prop} (wk : Walk J n G' Y) {g : TG} {tt : TT} {wi1 : TI} {g1 : TG} {tt1 : TT} {te : TE} {vs vs1 : List Nat} {σ : L2.St} {H1 : Hp} {D : Addr} {Qd : Hp → Prop} (Pv : Nat → Hp → Prop) (h0 : Pv 0 (upd H1 D (.lst []))) (hG : ∀ i H, i ≤ n → Pv i H → G' H)
    (hs : ∀ i x H H', i < n → Pv i H → Y i H x H' → g x (wipe σ vs) H' fun σ2 H2 => wipe σ2 vs = wipe σ vs ∧ tt σ2 H2 fun b H3 =>
      if b = true then wi1 σ2 H3 fun J1 H4 => ∃ W1 : Nat → Nat → Hp → Prop, (∃ m, W1 0 m H4) ∧ ∀ j k H, W1 j k H →
        (J1.stop j H ∧ Pv (i + 1) H) ∨ (J1.go j H ∧ ∃ Nx1 : Hp → Prop, (∀ H', Nx1 H' → ∃ k', k' < k ∧ W1 (j + 1) k' H') ∧ ∀ x H', J1.yld j H x H' → g1 x (wipe σ2 vs1) H' fun σ3 H5 => wipe σ3 vs1 = wipe σ2 vs1 ∧ tt1 σ3 H5 fun b H6 =>
          if b = true then te σ3 H6 fun y H7 => ∃ acc, H7 D = some (.lst acc) ∧ acc.length < sizeLine ∧ Nx1 (upd H7 D (.lst (acc ++ [y]))) else Nx1 H6)
      else Pv (i + 1) H3) (hd : ∀ H, Pv n H → Qd H) :
    ∃ W : Nat → Nat → Hp → Prop, (∃ m, W 0 m (upd H1 D (.lst []))) ∧ ∀ i m H, W i m H →
      (J.stop i H ∧ Qd H) ∨ (J.go i H ∧ ∃ Nx : Hp → Prop, (∀ H', Nx H' → ∃ m', m' < m ∧ W (i + 1) m' H') ∧ ∀ x H', J.yld i H x H' → g x (wipe σ vs) H' fun σ2 H2 => wipe σ2 vs = wipe σ vs ∧ tt σ2 H2 fun b H3 =>
        if b = true then wi1 σ2 H3 fun J1 H4 => ∃ W1 : Nat → Nat → Hp → Prop, (∃ m, W1 0 m H4) ∧ ∀ j k H, W1 j k H →
          (J1.stop j H ∧ Nx H) ∨ (J1.go j H ∧ ∃ Nx1 : Hp → Prop, (∀ H', Nx1 H' → ∃ k', k' < k ∧ W1 (j + 1) k' H') ∧ ∀ x H', J1.yld j H x H' → g1 x (wipe σ2 vs1) H' fun σ3 H5 => wipe σ3 vs1 = wipe σ2 vs1 ∧ tt1 σ3 H5 fun b H6 =>
            if b = true then te σ3 H6 fun y H7 => ∃ acc, H7 D = some (.lst acc) ∧ acc.length < sizeLine ∧ Nx1 (upd H7 D (.lst (acc ++ [y]))) else Nx1 H6)
        else Nx H3) := by
  refine ⟨fun i m H => m = n - i ∧ i ≤ n ∧ Pv i H, ⟨n, by simp, Nat.zero_le _, h0⟩, ?_⟩
  rintro i m H ⟨rfl, hi, p⟩
  have q := hG i H hi p
  by_cases hlt : i < n
  · refine .inr ⟨wk.goes i H hlt q, Pv (i + 1), fun H' p' => ⟨n - (i + 1), by omega, rfl, hlt, p'⟩, fun x H' y => hs i x H H' hlt p (wk.yields i H x H' hlt q y)⟩
  · have e : i = n := by omega
    subst e
    exact .inl ⟨wk.stops H q, hd H p⟩
/-- the inner one -/
theorem lc2_in {J : It} {n : Nat} {G' : Hp → Prop} {Y : Nat → Hp → V → Hp → Prop} (wk : Walk J n G' Y) {g : TG} {tt : TT} {te : TE} {vs : List Nat} {σ : L2.St} {H1 : Hp} {D : Addr} {Qd : Hp → Prop} (Pv : Nat → Hp → Prop) (h0 : Pv 0 H1) (hG : ∀ i H, i ≤ n → Pv i H → G' H)
    (hs : ∀ i x H H', i < n → Pv i H → Y i H x H' → g x (wipe σ vs) H' fun σ2 H2 => wipe σ2 vs = wipe σ vs ∧ tt σ2 H2 fun b H3 =>
      if b = true then te σ2 H3 fun y H4 => ∃ acc, H4 D = some (.lst acc) ∧ acc.length < sizeLine ∧ Pv (i + 1) (upd H4 D (.lst (acc ++ [y]))) else Pv (i + 1) H3) (hd : ∀ H, Pv n H → Qd H) :
    ∃ W : Nat → Nat → Hp → Prop, (∃ m, W 0 m H1) ∧ ∀ i m H, W i m H →
      (J.stop i H ∧ Qd H) ∨ (J.go i H ∧ ∃ Nx : Hp → Prop, (∀ H', Nx H' → ∃ m', m' < m ∧ W (i + 1) m' H') ∧ ∀ x H', J.yld i H x H' → g x (wipe σ vs) H' fun σ2 H2 => wipe σ2 vs = wipe σ vs ∧ tt σ2 H2 fun b H3 =>
        if b = true then te σ2 H3 fun y H4 => ∃ acc, H4 D = some (.lst acc) ∧ acc.length < sizeLine ∧ Nx (upd H4 D (.lst (acc ++ [y]))) else Nx H3) := by
  refine ⟨fun i m H => m = n - i ∧ i ≤ n ∧ Pv i H, ⟨n, by simp, Nat.zero_le _, h0⟩, ?_⟩
  rintro i m H ⟨rfl, hi, p⟩
  have q := hG i H hi p
  by_cases hlt : i < n
  · exact .inr ⟨wk.goes i H hlt q, Pv (i + 1), fun H' p' => ⟨n - (i + 1), by omega, rfl, hlt, p'⟩, fun x H' y => hs i x H H' hlt p (wk.yields i H x H' hlt q y)⟩
  · have e : i = n := by omega
    subst e
    exact .inl ⟨wk.stops H q, hd H p⟩
theorem sizeL16 {n : Nat} (h : n ≤ 1000000) : n ≤ sizeLine := Nat.le_trans h (by decide)
theorem sizeL3 {n : Nat} (h : n ≤ 1000) : n ≤ sizeLine := Nat.le_trans h (by decide)
theorem strs_app3 (a b : List Str) : some (HO.lst (a.map V.str ++ b.map V.str)) = some (HO.lst ((a ++ b).map V.str)) := by rw [List.map_append]
theorem _root_.L2.Same.keep {H H1 : Hp} {a : Addr} {o : HO} (s : Same H H1) (n : H a = none) : Same H (L2.upd H1 a o) := fun b x e => by
  rw [upd_ne (ne_of_none e n)]
  exact s b x e
end
end C
set_option Elab.async false
set_option linter.all false
set_option pp.maxSteps 1500
set_option maxRecDepth 100000
set_option maxHeartbeats 4000000
namespace C
open PySem PySem.Spec PyProof.Rows L2 Kx M TL
local macro_rules | `(tactic| tm_at "same") => `(tactic| first
  | assumption
  | exact L2.Same.refl _
  | exact L2.Same.upd (by tm_at "same") (by tm_at "free")
  | exact sameTransR (by assumption) (by tm_at "same"))
local macro_rules | `(tactic| tm_at "free") => `(tactic| first
  | assumption
  | exact sameFreeR (by assumption) (by tm_at "same"))
local macro_rules | `(tactic| tm_at "but") => `(tactic| first
  | assumption
  | exact But.refl _ _
  | exact But.transR (by assumption) (by tm_at "but")
  | exact But.upd
  | exact But.self (by tm_at "but")
  | exact But.new1 (by tm_at "but") (by assumption)
  | exact But.new (by tm_at "but") (by tm_at "free")
  | exact L2.Same.but (by assumption) _)
local macro_rules | `(tactic| tm_at "fact") => `(tactic| first
  | exact upd_same
  | assumption
  | exact SqL.of upd_same
  | exact SqT.of upd_same
  | exact SqL.of (by assumption)
  | exact SqT.of (by assumption)
  | exact But.lstR (by assumption) (by assumption) (by tm_at "but"))
local macro_rules | `(tactic| tm_at "cond") => `(tactic| first
  | rfl
  | assumption
  | decide
  | omega
  | exact ⟨by decide, by decide⟩
  | exact .inr ⟨by decide, by decide⟩
  | exact .inl ⟨by decide, by decide⟩
  | exact ⟨by decide, by decide, by decide⟩
  | exact cdivw (by assumption) (by assumption)
  | exact log2_ok (by assumption)
  | exact Or.inl ⟨rfl, _, SqL.of upd_same⟩
  | exact Or.inl ⟨rfl, _, SqL.of (by assumption)⟩
  | exact ⟨_, rfl⟩
  | exact Nat.le_of_ble_eq_true rfl
  | exact small1000 (by omega))
local macro_rules | `(tactic| tm_at "prop") => `(tactic| first
  | assumption
  | omega)
local macro_rules | `(tactic| tm_at "s") => `(tactic| first
  | refine ⟨_, rfl, ?_⟩
  | refine ⟨_, _, rfl, rfl, ?_⟩
  | refine ⟨_, _, _, rfl, rfl, (by tm_at "fact"), (by tm_at "cond"), ?_⟩
  | refine ⟨_, _, _, _, rfl, rfl, (by tm_at "fact"), rfl, ?_⟩
  | refine ⟨_, _, rfl, (by tm_at "fact"), ?_⟩
  | refine And.intro (by tm_at "cond") ?_
  | refine .inl ⟨_, rfl, ?_⟩
  | refine ⟨_, _, rfl, .inl (by tm_at "fact"), ?_⟩
  | refine dec_false (by tm_at "prop") ?_
  | refine dec_true (by tm_at "prop") ?_
  | refine decN_false (by tm_at "prop") ?_
  | refine decN_true (by tm_at "prop") ?_
  | refine iteT ?_
  | refine iteF ?_
  | refine ⟨_, _, rfl, ?_⟩)
local macro_rules | `(tactic| tm_at "go") => `(tactic| repeat tm_at "s")

section
variable {P : Program} {w : World} {K : PySem.W.Frag} {mg : Str → Option Value} {base : Heap} {aH aR : Addr}
/-! ### claim_lines -/
def spCLines (K : PySem.W.Frag) : Sp := fun vs H Q _ => ∃ (v : V) (r : M.Row), vs = [v] ∧ Im K H v (rD r) ∧ r.Ok ∧ ∀ a H', Same H H' → H a = none → H' a = some (.lst ((rowL r).map V.str)) → Q (.ref a) H'
theorem sc_claim_lines : FnScope ["row", "claim", "hints", "rule", "found", "f", "one", "other"] ["row"] (defScope s_claim_lines) := ⟨rfl, rfl, rfl, by decide +kernel, rfl, by decide +kernel, by decide +kernel⟩
theorem ok_claim_lines {k : Nat} (D : Def K mg "claim_lines" "claim_lines" s_claim_lines ["row"]) (B : Bi mg) (G : Gb K mg aH aR) (c_write_form : Cal P w K mg base CX0 k "write_form" ["f"] (spWriteForm K)) : Cal P w K mg base CX0 (k + 1) "claim_lines" ["row"] (spCLines K) := by
  refine D.cal fun f fd F => F.ok sc_claim_lines (fun vs H Q E h => ?_) (fun cdv A outer s H vs Q E hr h => ?_)
  · obtain ⟨v, f, rfl, _⟩ := h
    rfl
  · obtain ⟨v, r, rfl, hv, ok, q⟩ := h
    have nd := sc_claim_lines.nd
    have okl := rowL0_len ok
    have big : (100000 : Nat) ≤ sizeLine := by decide
    have wa := ok.wa.2.1
    have wb := ok.wb.2.1
    obtain ⟨t, ts, rfl, ht, hts⟩ := Im.tup_inv hv
    obtain ⟨v1, r1, rfl, h1, hr1⟩ := Ims.cons_inv hts
    obtain ⟨v2, r2, rfl, h2, hr2⟩ := Ims.cons_inv hr1
    obtain ⟨v3, r3, rfl, h3, hr3⟩ := Ims.cons_inv hr2
    obtain rfl := Ims.nil_inv hr3
    obtain rfl := Im.str_inv h3
    obtain ⟨u2, hs, rfl, hu2, ihs⟩ := Im.tup_inv h2
    obtain ⟨tc, cs, rfl, htc, hcs⟩ := Im.tup_inv h1
    obtain ⟨c1, q1, rfl, i1, hq1⟩ := Ims.cons_inv hcs
    obtain ⟨c2, q2, rfl, i2, hq2⟩ := Ims.cons_inv hq1
    obtain ⟨c3, q3, rfl, i3, hq3⟩ := Ims.cons_inv hq2
    obtain ⟨c4, q4, rfl, i4, hq4⟩ := Ims.cons_inv hq3
    obtain ⟨c5, q5, rfl, i5, hq5⟩ := Ims.cons_inv hq4
    obtain ⟨c6, q6, rfl, i6, hq6⟩ := Ims.cons_inv hq5
    obtain rfl := Ims.nil_inv hq6
    obtain rfl := Im.str_inv i1
    obtain rfl := Im.str_inv i2
    obtain ⟨a3, l3, rfl, ha3, il3⟩ := Im.tup_inv i3
    obtain ⟨a4, l4, rfl, ha4, il4⟩ := Im.tup_inv i4
    obtain ⟨a5, l5, rfl, ha5, il5⟩ := Im.tup_inv i5
    obtain ⟨a6, l6, rfl, ha6, il6⟩ := Im.tup_inv i6
    clear hv hts hr1 hr2 hr3 h1 h2 hcs hq1 hq2 hq3 hq4 hq5 hq6 i3 i4 i5 i6 i1 i2 h3
    refine ⟨_, (pss_cons (ps_asg (pv 0) (pg_tup rfl (pgs_cons (pg_name (i := 1) nd rfl (Or.inl rfl)) (pgs_cons (pg_name (i := 2) nd rfl (Or.inl rfl)) (pgs_cons (pg_name (i := 3) nd rfl (Or.inl rfl)) pgs_nil)))))
      (pss_cons (ps_set (i := 4) nd rfl (Or.inl rfl) (pe_lst (pa_cons (pe_op op_add_str (pe_op op_add_str (pe_op op_add_str pe_str (pe_ix ix_tup (pv 1) pe_int (fun _ _ => rfl))) pe_str) (pe_ix ix_tup (pv 1) pe_int (fun _ _ => rfl))) pa_nil)))
      (C8.pss_cut (ps_expr (pe_bm PySem.F.plainAttrs_list PySem.F.slot_list_extend PySem.F.type_list_extend mt_extend (pv 4) (pa_cons (pe_lc (own := [("f", 5)]) (by rfl) nd (pi_tup (pe_ix ix_tup (pv 1) pe_int (fun _ _ => rfl))) (blkOk_by (own := [("f", 5)]) (N := ["row", "claim", "hints", "rule", "found", "f", "one", "other"]) (sc := defScope s_claim_lines) (by decide +kernel)) (fun _ _ _ _ _ => (pg_name (i := 5) nd rfl (Or.inl rfl))) (fun _ _ _ _ _ => pts_nil) (fun _ _ _ _ _ => (pe_op op_add_str pe_str (pe_cal c_write_form (Room.mono hr (by omega)) (by rfl) (pa_cons (pv 5) pa_nil))))) pa_nil)))
      (C8.pss_cut (ps_expr (pe_bm PySem.F.plainAttrs_list PySem.F.slot_list_extend PySem.F.type_list_extend mt_extend (pv 4) (pa_cons (pe_lc (own := [("one", 6), ("other", 7)]) (by rfl) nd (pi_tup (pe_ix ix_tup (pv 1) pe_int (fun _ _ => rfl))) (blkOk_by (own := [("one", 6), ("other", 7)]) (N := ["row", "claim", "hints", "rule", "found", "f", "one", "other"]) (sc := defScope s_claim_lines) (by decide +kernel)) (fun _ _ _ _ _ => (pg_tupK (K := K) (n := 2) rfl rfl (pgs_cons (pg_name (i := 6) nd rfl (Or.inl rfl)) (pgs_cons (pg_name (i := 7) nd rfl (Or.inl rfl)) pgs_nil)))) (fun _ _ _ _ _ => pts_nil) (fun _ _ _ _ _ => (pe_op op_add_str (pe_op op_add_str (pe_op op_add_str pe_str (pv 6)) pe_str) (pv 7)))) pa_nil)))
      (C8.pss_cut (ps_expr (pe_bm PySem.F.plainAttrs_list PySem.F.slot_list_extend PySem.F.type_list_extend mt_extend (pv 4) (pa_cons (pe_lc (own := [("f", 5)]) (by rfl) nd (pi_tup (pe_ix ix_tup (pv 1) pe_int (fun _ _ => rfl))) (blkOk_by (own := [("f", 5)]) (N := ["row", "claim", "hints", "rule", "found", "f", "one", "other"]) (sc := defScope s_claim_lines) (by decide +kernel)) (fun _ _ _ _ _ => (pg_name (i := 5) nd rfl (Or.inl rfl))) (fun _ _ _ _ _ => pts_nil) (fun _ _ _ _ _ => (pe_op op_add_str pe_str (pe_cal c_write_form (Room.mono hr (by omega)) (by rfl) (pa_cons (pv 5) pa_nil))))) pa_nil)))
      (C8.pss_cut (ps_expr (pe_bm PySem.F.plainAttrs_list PySem.F.slot_list_extend PySem.F.type_list_extend mt_extend (pv 4) (pa_cons (pe_lc (own := [("one", 6), ("other", 7)]) (by rfl) nd (pi_tup (pe_ix ix_tup (pv 1) pe_int (fun _ _ => rfl))) (blkOk_by (own := [("one", 6), ("other", 7)]) (N := ["row", "claim", "hints", "rule", "found", "f", "one", "other"]) (sc := defScope s_claim_lines) (by decide +kernel)) (fun _ _ _ _ _ => (pg_tupK (K := K) (n := 2) rfl rfl (pgs_cons (pg_name (i := 6) nd rfl (Or.inl rfl)) (pgs_cons (pg_name (i := 7) nd rfl (Or.inl rfl)) pgs_nil)))) (fun _ _ _ _ _ => pts_nil) (fun _ _ _ _ _ => (pe_op op_add_str (pe_op op_add_str (pe_op op_add_str pe_str (pv 6)) pe_str) (pv 7)))) pa_nil)))
      (C8.pss_cut (ps_expr (pe_bm PySem.F.plainAttrs_list PySem.F.slot_list_extend PySem.F.type_list_extend mt_extend (pv 4) (pa_cons (pe_lc (own := [("f", 5)]) (by rfl) nd (pi_tup (pv 2)) (blkOk_by (own := [("f", 5)]) (N := ["row", "claim", "hints", "rule", "found", "f", "one", "other"]) (sc := defScope s_claim_lines) (by decide +kernel)) (fun _ _ _ _ _ => (pg_name (i := 5) nd rfl (Or.inl rfl))) (fun _ _ _ _ _ => pts_nil) (fun _ _ _ _ _ => (pe_op op_add_str pe_str (pe_cal c_write_form (Room.mono hr (by omega)) (by rfl) (pa_cons (pv 5) pa_nil))))) pa_nil)))
      (C8.pss_cut (ps_if (pt_cmpR op_ne (pv 3) (pe_globS (by rfl) G.ANY_RULE) (nomark _))
        (pss_one (ps_expr (pe_bm PySem.F.plainAttrs_list PySem.F.slot_list_append PySem.F.type_list_append mt_append (pv 4) (pa_cons (pe_op op_add_str pe_str (pv 3)) pa_nil))))
        pss_nil)
      (pss_one (ps_ret (pe_op op_cat (pv 4) (pe_lst (pa_cons pe_str pa_nil))))))))))))), ?_⟩
    have e0 : atI (.str r.a :: .str r.b :: [.ref a3, .ref a4, .ref a5, .ref a6]) 0 = some (V.str r.a) := atI_nat (j := 0) rfl
    have e1 : atI (.str r.a :: .str r.b :: [.ref a3, .ref a4, .ref a5, .ref a6]) 1 = some (V.str r.b) := atI_nat (j := 1) rfl
    refine ⟨_, rfl, _, _, rfl, ht, rfl, ?_⟩
    tm_at "go"
    have c1 : (S "claim ").length = 6 := by decide +kernel
    have c2 : (S " with ").length = 6 := by decide +kernel
    refine ⟨(by show (S "claim ").length + r.a.length ≤ sizeLine; omega), ?_⟩
    refine ⟨S "claim " ++ r.a, S " with ", rfl, rfl, by rw [len_app]; omega, ?_⟩
    refine ⟨_, rfl, _, _, _, _, rfl, rfl, htc, e1, ?_⟩
    refine ⟨S "claim " ++ r.a ++ S " with ", r.b, rfl, rfl, by rw [len_app, len_app]; omega, ?_⟩
    tm_at "go"
    refine fun a na => ?_
    have s1 : Same H (upd H a (.lst [.str (S "claim " ++ r.a ++ S " with " ++ r.b)])) := same_new na
    have ha : upd H a (.lst [.str (S "claim " ++ r.a ++ S " with " ++ r.b)]) a = some (.lst ([S "claim " ++ r.a ++ S " with " ++ r.b].map V.str)) := upd_same
    generalize upd H a (.lst [.str (S "claim " ++ r.a ++ S " with " ++ r.b)]) = H1 at s1 ha ⊢
    refine ⟨fun σ H' => ∃ x5 x6 x7, σ = [some (.ref t), some (.ref tc), some (.ref u2), some (.str r.rule), some (.ref a), x5, x6, x7] ∧ Same H H' ∧ H' a = some (.lst (([S "claim " ++ r.a ++ S " with " ++ r.b] ++ r.gs.map (fL (S "  given "))).map V.str)), ?_, ?_⟩
    · have hll := il3.length
      rw [List.length_map] at hll
      have okl2 := ok.gl
      have hu1 := s1.tk.tup ha3
      have c0 : (S "  given ").length ≤ 10 := by decide +kernel
      refine ⟨_, rfl, .inl ⟨rfl, _, SqL.of ha⟩, ?_⟩
      refine ⟨_, rfl, _, _, _, .ref a3, rfl, rfl, s1.tk.tup htc, atI_nat (j := 2) rfl, ?_⟩
      refine ⟨a3, rfl, ⟨_, hu1⟩, fun D nD => ?_⟩
      have naD : a ≠ D := ne_of_none ha nD
      refine lc_it walk_tup (fun i H' => Same H1 H' ∧ ∃ zs : List Str, H' D = some (.lst (zs.map V.str)) ∧ zs = (r.gs.take i).map (fL (S "  given "))) ⟨same_new nD, [], upd_same, rfl⟩ (fun i H' _ ⟨s, _⟩ => s.tk.tup hu1) ?_ ?_
      · rintro i v Hx Hy hlt ⟨sx, zs, hDx, ez⟩ ⟨rfl, hv⟩
        have hzl : zs.length ≤ 3 := by
          rw [ez, List.length_map, List.length_take]
          omega
        obtain ⟨f, hf, him⟩ := ims_at il3 hv
        have hfo := ok.g f (List.mem_of_getElem? hf)
        have himy := (s1.trans sx).tk.im him
        refine ⟨rfl, ?_⟩
        tm_at "go"
        refine fun H5 s5 => ?_
        have hfl := wr_len hfo
        refine ⟨S "  given ", wr f, rfl, rfl, by omega, ?_⟩
        refine ⟨_, s5 _ _ hDx, small1000 (by rw [List.length_map]; omega), (sx.trans s5).upd nD, zs ++ [fL (S "  given ") f], ?_, ?_⟩
        · rw [upd_same, List.map_append]
          rfl
        · rw [take_snoc hf, List.map_append, ez]
          rfl
      · rintro H2 ⟨s2, zs, hD2, ez⟩
        rw [List.take_of_length_le (by omega)] at ez
        have hL : ([S "claim " ++ r.a ++ S " with " ++ r.b]).length ≤ 15 := by
          have o1 := ok.gl; have o2 := ok.sl; have o3 := ok.al; have o4 := ok.kl; have o5 := ok.hl
          simp only [List.length_append, List.length_map, List.length_singleton]
          omega
        have hzl : zs.length ≤ 3 := by
          rw [ez, List.length_map]
          omega
        refine ⟨a, D, _, _, rfl, rfl, s2 _ _ ha, hD2, ?_, ?_⟩
        · rw [List.length_map, List.length_map]
          exact sizeL3 (by omega)
        · refine ⟨_, _, _, rfl, ?_, ?_⟩
          · exact ((s1.trans s2).keep na)
          · rw [upd_same, ez, strs_app3]
    clear s1 ha
    rintro σ H1 ⟨x5, x6, x7, rfl, s1, ha⟩
    refine ⟨fun σ H' => ∃ x5 x6 x7, σ = [some (.ref t), some (.ref tc), some (.ref u2), some (.str r.rule), some (.ref a), x5, x6, x7] ∧ Same H H' ∧ H' a = some (.lst (([S "claim " ++ r.a ++ S " with " ++ r.b] ++ r.gs.map (fL (S "  given ")) ++ r.ss.map (pL (S "  same "))).map V.str)), ?_, ?_⟩
    · have hll := il4.length
      rw [List.length_map] at hll
      have okl2 := ok.sl
      have hu1 := s1.tk.tup ha4
      have c0 : (S "  same ").length ≤ 10 := by decide +kernel
      refine ⟨_, rfl, .inl ⟨rfl, _, SqL.of ha⟩, ?_⟩
      refine ⟨_, rfl, _, _, _, .ref a4, rfl, rfl, s1.tk.tup htc, atI_nat (j := 3) rfl, ?_⟩
      refine ⟨a4, rfl, ⟨_, hu1⟩, fun D nD => ?_⟩
      have naD : a ≠ D := ne_of_none ha nD
      refine lc_it walk_tup (fun i H' => Same H1 H' ∧ ∃ zs : List Str, H' D = some (.lst (zs.map V.str)) ∧ zs = (r.ss.take i).map (pL (S "  same "))) ⟨same_new nD, [], upd_same, rfl⟩ (fun i H' _ ⟨s, _⟩ => s.tk.tup hu1) ?_ ?_
      · rintro i v Hx Hy hlt ⟨sx, zs, hDx, ez⟩ ⟨rfl, hv⟩
        have hzl : zs.length ≤ 3 := by
          rw [ez, List.length_map, List.length_take]
          omega
        obtain ⟨pr, hf, him⟩ := ims_at il4 hv
        have hpo := ok.s pr (List.mem_of_getElem? hf)
        have p1 := hpo.1.2.1
        have p2 := hpo.2.2.1
        have himy := (s1.trans sx).tk.im him
        obtain ⟨tp, rfl, htp⟩ := qD_inv himy
        refine ⟨_, _, rfl, htp, rfl, ?_⟩
        tm_at "go"
        have c3 : (S " ").length = 1 := by decide +kernel
        refine ⟨(by show (S "  same ").length + pr.1.length ≤ sizeLine; omega), ?_⟩
        refine ⟨S "  same " ++ pr.1, S " ", rfl, rfl, by rw [len_app]; omega, ?_⟩
        refine ⟨_, rfl, S "  same " ++ pr.1 ++ S " ", pr.2, rfl, rfl, by rw [len_app, len_app]; omega, ?_⟩
        refine ⟨_, hDx, small1000 (by rw [List.length_map]; omega), sx.upd nD, zs ++ [pL (S "  same ") pr], ?_, ?_⟩
        · rw [upd_same, List.map_append]
          rfl
        · rw [take_snoc hf, List.map_append, ez]
          rfl
      · rintro H2 ⟨s2, zs, hD2, ez⟩
        rw [List.take_of_length_le (by omega)] at ez
        have hL : ([S "claim " ++ r.a ++ S " with " ++ r.b] ++ r.gs.map (fL (S "  given "))).length ≤ 15 := by
          have o1 := ok.gl; have o2 := ok.sl; have o3 := ok.al; have o4 := ok.kl; have o5 := ok.hl
          simp only [List.length_append, List.length_map, List.length_singleton]
          omega
        have hzl : zs.length ≤ 3 := by
          rw [ez, List.length_map]
          omega
        refine ⟨a, D, _, _, rfl, rfl, s2 _ _ ha, hD2, ?_, ?_⟩
        · rw [List.length_map, List.length_map]
          exact sizeL3 (by omega)
        · refine ⟨_, _, _, rfl, ?_, ?_⟩
          · exact ((s1.trans s2).keep na)
          · rw [upd_same, ez, strs_app3]
    clear s1 ha
    rintro σ H1 ⟨x5, x6, x7, rfl, s1, ha⟩
    refine ⟨fun σ H' => ∃ x5 x6 x7, σ = [some (.ref t), some (.ref tc), some (.ref u2), some (.str r.rule), some (.ref a), x5, x6, x7] ∧ Same H H' ∧ H' a = some (.lst (([S "claim " ++ r.a ++ S " with " ++ r.b] ++ r.gs.map (fL (S "  given ")) ++ r.ss.map (pL (S "  same ")) ++ r.as.map (fL (S "  ask "))).map V.str)), ?_, ?_⟩
    · have hll := il5.length
      rw [List.length_map] at hll
      have okl2 := ok.al
      have hu1 := s1.tk.tup ha5
      have c0 : (S "  ask ").length ≤ 10 := by decide +kernel
      refine ⟨_, rfl, .inl ⟨rfl, _, SqL.of ha⟩, ?_⟩
      refine ⟨_, rfl, _, _, _, .ref a5, rfl, rfl, s1.tk.tup htc, atI_nat (j := 4) rfl, ?_⟩
      refine ⟨a5, rfl, ⟨_, hu1⟩, fun D nD => ?_⟩
      have naD : a ≠ D := ne_of_none ha nD
      refine lc_it walk_tup (fun i H' => Same H1 H' ∧ ∃ zs : List Str, H' D = some (.lst (zs.map V.str)) ∧ zs = (r.as.take i).map (fL (S "  ask "))) ⟨same_new nD, [], upd_same, rfl⟩ (fun i H' _ ⟨s, _⟩ => s.tk.tup hu1) ?_ ?_
      · rintro i v Hx Hy hlt ⟨sx, zs, hDx, ez⟩ ⟨rfl, hv⟩
        have hzl : zs.length ≤ 3 := by
          rw [ez, List.length_map, List.length_take]
          omega
        obtain ⟨f, hf, him⟩ := ims_at il5 hv
        have hfo := ok.a' f (List.mem_of_getElem? hf)
        have himy := (s1.trans sx).tk.im him
        refine ⟨rfl, ?_⟩
        tm_at "go"
        refine fun H5 s5 => ?_
        have hfl := wr_len hfo
        refine ⟨S "  ask ", wr f, rfl, rfl, by omega, ?_⟩
        refine ⟨_, s5 _ _ hDx, small1000 (by rw [List.length_map]; omega), (sx.trans s5).upd nD, zs ++ [fL (S "  ask ") f], ?_, ?_⟩
        · rw [upd_same, List.map_append]
          rfl
        · rw [take_snoc hf, List.map_append, ez]
          rfl
      · rintro H2 ⟨s2, zs, hD2, ez⟩
        rw [List.take_of_length_le (by omega)] at ez
        have hL : ([S "claim " ++ r.a ++ S " with " ++ r.b] ++ r.gs.map (fL (S "  given ")) ++ r.ss.map (pL (S "  same "))).length ≤ 15 := by
          have o1 := ok.gl; have o2 := ok.sl; have o3 := ok.al; have o4 := ok.kl; have o5 := ok.hl
          simp only [List.length_append, List.length_map, List.length_singleton]
          omega
        have hzl : zs.length ≤ 3 := by
          rw [ez, List.length_map]
          omega
        refine ⟨a, D, _, _, rfl, rfl, s2 _ _ ha, hD2, ?_, ?_⟩
        · rw [List.length_map, List.length_map]
          exact sizeL3 (by omega)
        · refine ⟨_, _, _, rfl, ?_, ?_⟩
          · exact ((s1.trans s2).keep na)
          · rw [upd_same, ez, strs_app3]
    clear s1 ha
    rintro σ H1 ⟨x5, x6, x7, rfl, s1, ha⟩
    refine ⟨fun σ H' => ∃ x5 x6 x7, σ = [some (.ref t), some (.ref tc), some (.ref u2), some (.str r.rule), some (.ref a), x5, x6, x7] ∧ Same H H' ∧ H' a = some (.lst (([S "claim " ++ r.a ++ S " with " ++ r.b] ++ r.gs.map (fL (S "  given ")) ++ r.ss.map (pL (S "  same ")) ++ r.as.map (fL (S "  ask ")) ++ r.ks.map (pL (S "  keep "))).map V.str)), ?_, ?_⟩
    · have hll := il6.length
      rw [List.length_map] at hll
      have okl2 := ok.kl
      have hu1 := s1.tk.tup ha6
      have c0 : (S "  keep ").length ≤ 10 := by decide +kernel
      refine ⟨_, rfl, .inl ⟨rfl, _, SqL.of ha⟩, ?_⟩
      refine ⟨_, rfl, _, _, _, .ref a6, rfl, rfl, s1.tk.tup htc, atI_nat (j := 5) rfl, ?_⟩
      refine ⟨a6, rfl, ⟨_, hu1⟩, fun D nD => ?_⟩
      have naD : a ≠ D := ne_of_none ha nD
      refine lc_it walk_tup (fun i H' => Same H1 H' ∧ ∃ zs : List Str, H' D = some (.lst (zs.map V.str)) ∧ zs = (r.ks.take i).map (pL (S "  keep "))) ⟨same_new nD, [], upd_same, rfl⟩ (fun i H' _ ⟨s, _⟩ => s.tk.tup hu1) ?_ ?_
      · rintro i v Hx Hy hlt ⟨sx, zs, hDx, ez⟩ ⟨rfl, hv⟩
        have hzl : zs.length ≤ 3 := by
          rw [ez, List.length_map, List.length_take]
          omega
        obtain ⟨pr, hf, him⟩ := ims_at il6 hv
        have hpo := ok.k pr (List.mem_of_getElem? hf)
        have p1 := hpo.1.2.1
        have p2 := hpo.2.2.1
        have himy := (s1.trans sx).tk.im him
        obtain ⟨tp, rfl, htp⟩ := qD_inv himy
        refine ⟨_, _, rfl, htp, rfl, ?_⟩
        tm_at "go"
        have c3 : (S " ").length = 1 := by decide +kernel
        refine ⟨(by show (S "  keep ").length + pr.1.length ≤ sizeLine; omega), ?_⟩
        refine ⟨S "  keep " ++ pr.1, S " ", rfl, rfl, by rw [len_app]; omega, ?_⟩
        refine ⟨_, rfl, S "  keep " ++ pr.1 ++ S " ", pr.2, rfl, rfl, by rw [len_app, len_app]; omega, ?_⟩
        refine ⟨_, hDx, small1000 (by rw [List.length_map]; omega), sx.upd nD, zs ++ [pL (S "  keep ") pr], ?_, ?_⟩
        · rw [upd_same, List.map_append]
          rfl
        · rw [take_snoc hf, List.map_append, ez]
          rfl
      · rintro H2 ⟨s2, zs, hD2, ez⟩
        rw [List.take_of_length_le (by omega)] at ez
        have hL : ([S "claim " ++ r.a ++ S " with " ++ r.b] ++ r.gs.map (fL (S "  given ")) ++ r.ss.map (pL (S "  same ")) ++ r.as.map (fL (S "  ask "))).length ≤ 15 := by
          have o1 := ok.gl; have o2 := ok.sl; have o3 := ok.al; have o4 := ok.kl; have o5 := ok.hl
          simp only [List.length_append, List.length_map, List.length_singleton]
          omega
        have hzl : zs.length ≤ 3 := by
          rw [ez, List.length_map]
          omega
        refine ⟨a, D, _, _, rfl, rfl, s2 _ _ ha, hD2, ?_, ?_⟩
        · rw [List.length_map, List.length_map]
          exact sizeL3 (by omega)
        · refine ⟨_, _, _, rfl, ?_, ?_⟩
          · exact ((s1.trans s2).keep na)
          · rw [upd_same, ez, strs_app3]
    clear s1 ha
    rintro σ H1 ⟨x5, x6, x7, rfl, s1, ha⟩
    refine ⟨fun σ H' => ∃ x5 x6 x7, σ = [some (.ref t), some (.ref tc), some (.ref u2), some (.str r.rule), some (.ref a), x5, x6, x7] ∧ Same H H' ∧ H' a = some (.lst (([S "claim " ++ r.a ++ S " with " ++ r.b] ++ r.gs.map (fL (S "  given ")) ++ r.ss.map (pL (S "  same ")) ++ r.as.map (fL (S "  ask ")) ++ r.ks.map (pL (S "  keep ")) ++ r.hs.map (fL (S "  hint "))).map V.str)), ?_, ?_⟩
    · have hll := ihs.length
      rw [List.length_map] at hll
      have okl2 := ok.hl
      have hu1 := s1.tk.tup hu2
      have c0 : (S "  hint ").length ≤ 10 := by decide +kernel
      refine ⟨_, rfl, .inl ⟨rfl, _, SqL.of ha⟩, ?_⟩
      refine ⟨_, rfl, ?_⟩
      refine ⟨u2, rfl, ⟨_, hu1⟩, fun D nD => ?_⟩
      have naD : a ≠ D := ne_of_none ha nD
      refine lc_it walk_tup (fun i H' => Same H1 H' ∧ ∃ zs : List Str, H' D = some (.lst (zs.map V.str)) ∧ zs = (r.hs.take i).map (fL (S "  hint "))) ⟨same_new nD, [], upd_same, rfl⟩ (fun i H' _ ⟨s, _⟩ => s.tk.tup hu1) ?_ ?_
      · rintro i v Hx Hy hlt ⟨sx, zs, hDx, ez⟩ ⟨rfl, hv⟩
        have hzl : zs.length ≤ 3 := by
          rw [ez, List.length_map, List.length_take]
          omega
        obtain ⟨f, hf, him⟩ := ims_at ihs hv
        have hfo := ok.h f (List.mem_of_getElem? hf)
        have himy := (s1.trans sx).tk.im him
        refine ⟨rfl, ?_⟩
        tm_at "go"
        refine fun H5 s5 => ?_
        have hfl := wr_len hfo
        refine ⟨S "  hint ", wr f, rfl, rfl, by omega, ?_⟩
        refine ⟨_, s5 _ _ hDx, small1000 (by rw [List.length_map]; omega), (sx.trans s5).upd nD, zs ++ [fL (S "  hint ") f], ?_, ?_⟩
        · rw [upd_same, List.map_append]
          rfl
        · rw [take_snoc hf, List.map_append, ez]
          rfl
      · rintro H2 ⟨s2, zs, hD2, ez⟩
        rw [List.take_of_length_le (by omega)] at ez
        have hL : ([S "claim " ++ r.a ++ S " with " ++ r.b] ++ r.gs.map (fL (S "  given ")) ++ r.ss.map (pL (S "  same ")) ++ r.as.map (fL (S "  ask ")) ++ r.ks.map (pL (S "  keep "))).length ≤ 15 := by
          have o1 := ok.gl; have o2 := ok.sl; have o3 := ok.al; have o4 := ok.kl; have o5 := ok.hl
          simp only [List.length_append, List.length_map, List.length_singleton]
          omega
        have hzl : zs.length ≤ 3 := by
          rw [ez, List.length_map]
          omega
        refine ⟨a, D, _, _, rfl, rfl, s2 _ _ ha, hD2, ?_, ?_⟩
        · rw [List.length_map, List.length_map]
          exact sizeL3 (by omega)
        · refine ⟨_, _, _, rfl, ?_, ?_⟩
          · exact ((s1.trans s2).keep na)
          · rw [upd_same, ez, strs_app3]
    clear s1 ha
    rintro σ H1 ⟨x5, x6, x7, rfl, s1, ha⟩
    have hru : ∀ z ∈ rules7 ++ [S "any", S "any", S "any"], z.length ≤ 20 := by decide +kernel
    have hrl := hru _ ok.ru
    refine ⟨fun σ H' => ∃ x5 x6 x7, σ = [some (.ref t), some (.ref tc), some (.ref u2), some (.str r.rule), some (.ref a), x5, x6, x7] ∧ Same H H' ∧ H' a = some (.lst ((rowL0 r ++ (if r.rule = S "any" then [] else [S "  walk " ++ r.rule])).map V.str)), ?_, ?_⟩
    · tm_at "go"
      refine ite2 (fun c => ?_) (fun c => ?_)
      · have c1 : ¬ r.rule = S "any" := fun z => by
          rw [decide_eq_true (congrArg V.str z)] at c
          exact absurd c (by decide)
        have c3 : (S "  walk ").length = 7 := by decide +kernel
        refine ⟨_, rfl, .inl ⟨rfl, _, SqL.of ha⟩, ?_⟩
        refine ⟨_, rfl, S "  walk ", r.rule, rfl, rfl, by omega, ?_⟩
        refine ⟨a, _, .str (S "  walk " ++ r.rule), rfl, rfl, ha, small1000 (by rw [List.length_map]; exact Nat.le_trans okl (by decide)), ?_⟩
        refine ⟨_, _, _, rfl, s1.keep na, ?_⟩
        rw [upd_same, if_neg c1]
        exact strs_app3 (rowL0 r) [S "  walk " ++ r.rule]
      · have c1 : r.rule = S "any" := by
          by_cases z : r.rule = S "any"
          · exact z
          · exact absurd (show (!decide (V.str r.rule = V.str (S "any"))) = true by rw [decide_eq_false (fun e => z (V.str.inj e))]; rfl) c
        refine ⟨_, _, _, rfl, s1, ?_⟩
        rw [if_pos c1, List.append_nil]
        exact ha
    · clear s1 ha
      rintro σ H1 ⟨x5, x6, x7, rfl, s1, ha⟩
      tm_at "go"
      refine fun p np => ?_
      have sp : Same H1 (upd H1 p (.lst [.str (S "end")])) := same_new np
      refine ⟨a, p, _, [.str (S "end")], rfl, rfl, sp _ _ ha, upd_same, ?_, fun p3 np3 => ?_⟩
      · have : (if r.rule = S "any" then ([] : List Str) else [S "  walk " ++ r.rule]).length ≤ 1 := by
          split
          · exact Nat.zero_le _
          · exact Nat.le_refl _
        rw [List.length_map, List.length_append, List.length_singleton]
        exact sizeL3 (by omega)
      have sp3 : Same H1 (upd (upd H1 p (.lst [.str (S "end")])) p3 (.lst (((rowL0 r ++ (if r.rule = S "any" then [] else [S "  walk " ++ r.rule])).map V.str) ++ [.str (S "end")]))) := by tm_at "same"
      refine q p3 _ (s1.trans sp3) (s1.free (sp.free np3)) ?_
      rw [upd_same]
      unfold rowL
      rw [List.map_append (f := V.str) (l₂ := [S "end"])]
      rfl
end
end C
set_option Elab.async false
set_option linter.all false
set_option pp.maxSteps 1500
set_option maxRecDepth 100000
set_option maxHeartbeats 4000000
namespace C
open PySem PySem.Spec PyProof.Rows L2 Kx M TL
local macro_rules | `(tactic| tm_at "same") => `(tactic| first
  | assumption
  | exact L2.Same.refl _
  | exact L2.Same.upd (by tm_at "same") (by tm_at "free")
  | exact sameTransR (by assumption) (by tm_at "same"))
local macro_rules | `(tactic| tm_at "free") => `(tactic| first
  | assumption
  | exact sameFreeR (by assumption) (by tm_at "same"))
local macro_rules | `(tactic| tm_at "but") => `(tactic| first
  | assumption
  | exact But.refl _ _
  | exact But.transR (by assumption) (by tm_at "but")
  | exact But.upd
  | exact But.self (by tm_at "but")
  | exact But.new1 (by tm_at "but") (by assumption)
  | exact But.new (by tm_at "but") (by tm_at "free")
  | exact L2.Same.but (by assumption) _)
local macro_rules | `(tactic| tm_at "fact") => `(tactic| first
  | exact upd_same
  | assumption
  | exact SqL.of upd_same
  | exact SqT.of upd_same
  | exact SqL.of (by assumption)
  | exact SqT.of (by assumption)
  | exact But.lstR (by assumption) (by assumption) (by tm_at "but"))
local macro_rules | `(tactic| tm_at "cond") => `(tactic| first
  | rfl
  | assumption
  | decide
  | omega
  | exact ⟨by decide, by decide⟩
  | exact .inr ⟨by decide, by decide⟩
  | exact .inl ⟨by decide, by decide⟩
  | exact ⟨by decide, by decide, by decide⟩
  | exact cdivw (by assumption) (by assumption)
  | exact log2_ok (by assumption)
  | exact Or.inl ⟨rfl, _, SqL.of upd_same⟩
  | exact Or.inl ⟨rfl, _, SqL.of (by assumption)⟩
  | exact ⟨_, rfl⟩
  | exact Nat.le_of_ble_eq_true rfl
  | exact small1000 (by omega))
local macro_rules | `(tactic| tm_at "prop") => `(tactic| first
  | assumption
  | omega)
local macro_rules | `(tactic| tm_at "s") => `(tactic| first
  | refine ⟨_, rfl, ?_⟩
  | refine ⟨_, _, rfl, rfl, ?_⟩
  | refine ⟨_, _, _, rfl, rfl, (by tm_at "fact"), (by tm_at "cond"), ?_⟩
  | refine ⟨_, _, _, _, rfl, rfl, (by tm_at "fact"), rfl, ?_⟩
  | refine ⟨_, _, rfl, (by tm_at "fact"), ?_⟩
  | refine And.intro (by tm_at "cond") ?_
  | refine .inl ⟨_, rfl, ?_⟩
  | refine ⟨_, _, rfl, .inl (by tm_at "fact"), ?_⟩
  | refine dec_false (by tm_at "prop") ?_
  | refine dec_true (by tm_at "prop") ?_
  | refine decN_false (by tm_at "prop") ?_
  | refine decN_true (by tm_at "prop") ?_
  | refine iteT ?_
  | refine iteF ?_
  | refine ⟨_, _, rfl, ?_⟩)
local macro_rules | `(tactic| tm_at "go") => `(tactic| repeat tm_at "s")

section
variable {P : Program} {w : World} {K : PySem.W.Frag} {mg : Str → Option Value} {base : Heap} {aH aR : Addr}
/-! ### write_claims -/
def catN (ls : List Str) : Str := Txt.join Str.empty (ls.map fun x => x ++ S "\n")
theorem rowL_len {r : M.Row} (h : r.Ok) : ∀ x ∈ rowL r, x.length ≤ 15010 := by
  intro x hx
  unfold rowL rowL0 at hx
  simp only [List.mem_append, List.mem_map, List.mem_singleton] at hx
  have hg : (S "  given ").length ≤ 10 := by decide +kernel
  have hs : (S "  same ").length ≤ 10 := by decide +kernel
  have ha : (S "  ask ").length ≤ 10 := by decide +kernel
  have hk : (S "  keep ").length ≤ 10 := by decide +kernel
  have hh : (S "  hint ").length ≤ 10 := by decide +kernel
  rcases hx with (((((((rfl | ⟨f, hf, rfl⟩) | ⟨p, hp, rfl⟩) | ⟨f, hf, rfl⟩) | ⟨p, hp, rfl⟩) | ⟨f, hf, rfl⟩)) | hx) | rfl
  · have c1 : (S "claim ").length = 6 := by decide +kernel
    have c2 : (S " with ").length = 6 := by decide +kernel
    have wa := h.wa.2.1
    have wb := h.wb.2.1
    rw [len_app, len_app, len_app]
    omega
  · exact fL_len hg (h.g f hf)
  · exact Nat.le_trans (pL_len hs (h.s p hp)) (by decide)
  · exact fL_len ha (h.a' f hf)
  · exact Nat.le_trans (pL_len hk (h.k p hp)) (by decide)
  · exact fL_len hh (h.h f hf)
  · by_cases c : r.rule = S "any"
    · rw [if_pos c] at hx
      cases hx
    · rw [if_neg c, List.mem_singleton] at hx
      subst hx
      have hru : ∀ z ∈ rules7 ++ [S "any", S "any", S "any"], z.length ≤ 20 := by decide +kernel
      have := hru _ h.ru
      have c3 : (S "  walk ").length = 7 := by decide +kernel
      rw [len_app]
      omega
  · exact (by decide +kernel : (S "end").length ≤ 15010)
theorem rowL_cnt {r : M.Row} (h : r.Ok) : (rowL r).length ≤ 15 := by
  have := rowL0_len h
  have e : (if r.rule = S "any" then ([] : List Str) else [S "  walk " ++ r.rule]).length ≤ 1 := by
    split
    · exact Nat.zero_le _
    · exact Nat.le_refl _
  unfold rowL
  rw [List.length_append, List.length_append, List.length_singleton]
  omega
theorem rowsL_cnt : ∀ {rs : List M.Row}, (∀ r ∈ rs, r.Ok) → (rs.flatMap rowL).length ≤ 15 * rs.length
  | [], _ => Nat.zero_le _
  | r :: rs, h => by
    have h1 := rowL_cnt (h r (List.mem_cons_self ..))
    have h2 := rowsL_cnt (rs := rs) fun x hx => h x (List.mem_cons_of_mem _ hx)
    rw [List.flatMap_cons, List.length_append, List.length_cons]
    omega
theorem rowsL_len {rs : List M.Row} (h : ∀ r ∈ rs, r.Ok) : ∀ x ∈ rs.flatMap rowL, x.length ≤ 15010 := fun x hx => by
  obtain ⟨r, h1, h2⟩ := List.mem_flatMap.mp hx
  exact rowL_len (h r h1) x h2
theorem flat_snocL {α β : Type} (f : α → List β) {l : List α} {i : Nat} {x : α} (h : l[i]? = some x) : (l.take (i + 1)).flatMap f = (l.take i).flatMap f ++ f x := by
  rw [take_snoc h, List.flatMap_append, List.flatMap_singleton]
def nlS (x : Str) : Str := x ++ S "\n"
def spWriteC (K : PySem.W.Frag) : Sp := fun vs H Q _ => ∃ (v : V) (rs : List M.Row), vs = [v] ∧ Im K H v (.tuple (rs.map rD)) ∧ (∀ r ∈ rs, r.Ok) ∧ rs.length ≤ 10 ∧ ∀ H', Same H H' → Q (.str (catN (rs.flatMap rowL))) H'
theorem sc_write_claims : FnScope ["rows", "row", "line"] ["rows"] (defScope s_write_claims) := ⟨rfl, rfl, rfl, by decide +kernel, rfl, by decide +kernel, by decide +kernel⟩
theorem ok_write_claims {k : Nat} (D : Def K mg "write_claims" "write_claims" s_write_claims ["rows"]) (B : Bi mg) (c_claim_lines : Cal P w K mg base CX0 k "claim_lines" ["row"] (spCLines K)) : Cal P w K mg base CX0 (k + 1) "write_claims" ["rows"] (spWriteC K) := by
  refine D.cal fun f fd F => F.ok sc_write_claims (fun vs H Q E h => ?_) (fun cdv A outer s H vs Q E hr h => ?_)
  · obtain ⟨v, rs, rfl, _⟩ := h
    rfl
  · obtain ⟨v, rs, rfl, hv, hro, hrl, q⟩ := h
    have nd := sc_write_claims.nd
    obtain ⟨u, vs, rfl, hu, hims⟩ := Im.tup_inv hv
    have hvl := hims.length
    rw [List.length_map] at hvl
    refine ⟨_, (pss_one (ps_ret (pe_join pe_str (pe_lc2 (own := [("row", 1), ("line", 2)]) (vs1 := [2]) (by rfl) nd (pi_tup (pv 0)) (blkOk_by (own := [("row", 1), ("line", 2)]) (N := ["rows", "row", "line"]) (sc := defScope s_write_claims) (by decide +kernel)) (by decide) (fun _ _ _ _ _ => (pg_name (i := 1) nd rfl (Or.inl rfl))) (fun _ _ _ _ _ => pts_nil) (fun _ _ _ _ _ => (pi_listK (K := K) rfl (pe_cal c_claim_lines (Room.mono hr (by omega)) (by rfl) (pa_cons (pv 1) pa_nil)))) (fun _ _ _ _ _ => (pg_name (i := 2) nd rfl (Or.inl rfl))) (fun _ _ _ _ _ => pts_nil) (fun _ _ _ _ _ => (pe_op op_add_str (pv 2) pe_str)))))), ?_⟩
    refine ⟨⟨_, rfl⟩, ?_⟩
    refine ⟨_, rfl, u, rfl, ⟨_, hu⟩, fun D nD => ?_⟩
    refine lc2_out walk_tup (fun i H' => Same H H' ∧ H' D = some (.lst ((((rs.take i).flatMap rowL).map nlS).map V.str))) ⟨same_new nD, upd_same⟩ (fun i H' _ ⟨s, _⟩ => s.tk.tup hu) ?_ ?_
    · rintro i v H1 H1' hi ⟨s1, hD1⟩ ⟨rfl, hv⟩
      have hirs : i < rs.length := by omega
      have hri : rs[i]? = some rs[i] := List.getElem?_eq_getElem hirs
      have hok := hro _ (List.getElem_mem hirs)
      obtain ⟨d, hd, imv⟩ := hims.get hv
      rw [List.getElem?_map, hri] at hd
      cases hd
      have ef := flat_snocL rowL hri
      have hcnt := rowsL_cnt (rs := rs.take i) fun x hx => hro x (List.mem_of_mem_take hx)
      rw [List.length_take] at hcnt
      generalize rs[i] = r at hok imv ef
      refine ⟨rfl, ?_⟩
      refine ⟨_, rfl, v, r, rfl, s1.tk.im imv, hok, fun a H2 s2 na ha => ?_⟩
      have hD2 := s2 _ _ hD1
      have rc := rowL_cnt hok
      have rlen := rowL_len hok
      refine ⟨a, rfl, ⟨_, SqL.of ha⟩, ?_⟩
      have naD : a ≠ D := fun z => by
        rw [z] at na
        rw [na] at hD1
        cases hD1
      refine lc2_in walk_list (fun j H' => Same H H' ∧ H' a = some (.lst ((rowL r).map V.str)) ∧ H' D = some (.lst (((((rs.take i).flatMap rowL) ++ (rowL r).take j).map nlS).map V.str))) ⟨s1.trans s2, ha, by rw [List.take_zero, List.append_nil]; exact hD2⟩ (fun j H' _ ⟨_, h, _⟩ => SqL.of h) ?_ ?_
      · rintro j y H3 H3' hj ⟨s3, ha3, hD3⟩ ⟨rfl, hy⟩
        rw [List.getElem?_map] at hy
        have hjl : j < (rowL r).length := by
          rw [List.length_map] at hj
          exact hj
        rw [List.getElem?_eq_getElem hjl] at hy
        cases hy
        have hxl := rlen _ (List.getElem_mem hjl)
        have e1 : (S "\n").length = 1 := by decide +kernel
        refine ⟨rfl, ?_⟩
        refine ⟨_, rfl, (rowL r)[j], S "\n", rfl, rfl, by rw [e1]; exact sizeL16 (by omega), ?_⟩
        refine ⟨_, hD3, ?_, ?_, ?_, ?_⟩
        · rw [List.length_map, List.length_map, List.length_append, List.length_take]
          exact small1000 (by omega)
        · exact s3.keep nD
        · rw [upd_ne naD]
          exact ha3
        · rw [upd_same, take_snoc (List.getElem?_eq_getElem hjl), ← List.append_assoc, List.map_append (f := nlS) (l₂ := [(rowL r)[j]]), List.map_append (f := V.str) (l₂ := [(rowL r)[j]].map nlS)]
          rfl
      · rintro H3 ⟨s3, ha3, hD3⟩
        refine ⟨s3, ?_⟩
        rw [hD3, ef, List.length_map, List.take_length]
    · rintro H1 ⟨s1, hD1⟩
      rw [hvl, List.take_length] at hD1
      have hc := rowsL_cnt hro
      have hl := rowsL_len hro
      refine ⟨Str.empty, D, _, rfl, rfl, .inl (SqL.of hD1), ?_, q _ s1⟩
      have h2 := sum_le (b := 15011) (l := (rs.flatMap rowL).map nlS) fun x hx => by
        obtain ⟨y, hy, rfl⟩ := List.mem_map.mp hx
        have := hl y hy
        have e1 : (S "\n").length = 1 := by decide +kernel
        unfold nlS
        rw [len_app]
        omega
      rw [List.length_map] at h2
      have e0 : Str.empty.length = 0 := rfl
      rw [e0, Nat.mul_zero, Nat.add_zero]
      omega
end
end C
set_option Elab.async false
set_option linter.all false
set_option pp.maxSteps 1500
set_option maxRecDepth 100000
set_option maxHeartbeats 4000000
namespace C
open PySem PySem.Spec PyProof.Rows L2 Kx M TL
local macro_rules | `(tactic| tm_at "same") => `(tactic| first
  | assumption
  | exact L2.Same.refl _
  | exact L2.Same.upd (by tm_at "same") (by tm_at "free")
  | exact sameTransR (by assumption) (by tm_at "same"))
local macro_rules | `(tactic| tm_at "free") => `(tactic| first
  | assumption
  | exact sameFreeR (by assumption) (by tm_at "same"))
local macro_rules | `(tactic| tm_at "but") => `(tactic| first
  | assumption
  | exact But.refl _ _
  | exact But.transR (by assumption) (by tm_at "but")
  | exact But.upd
  | exact But.self (by tm_at "but")
  | exact But.new1 (by tm_at "but") (by assumption)
  | exact But.new (by tm_at "but") (by tm_at "free")
  | exact L2.Same.but (by assumption) _)
local macro_rules | `(tactic| tm_at "fact") => `(tactic| first
  | exact upd_same
  | assumption
  | exact SqL.of upd_same
  | exact SqT.of upd_same
  | exact SqL.of (by assumption)
  | exact SqT.of (by assumption)
  | exact But.lstR (by assumption) (by assumption) (by tm_at "but"))
local macro_rules | `(tactic| tm_at "cond") => `(tactic| first
  | rfl
  | assumption
  | decide
  | omega
  | exact ⟨by decide, by decide⟩
  | exact .inr ⟨by decide, by decide⟩
  | exact .inl ⟨by decide, by decide⟩
  | exact ⟨by decide, by decide, by decide⟩
  | exact cdivw (by assumption) (by assumption)
  | exact log2_ok (by assumption)
  | exact Or.inl ⟨rfl, _, SqL.of upd_same⟩
  | exact Or.inl ⟨rfl, _, SqL.of (by assumption)⟩
  | exact ⟨_, rfl⟩
  | exact Nat.le_of_ble_eq_true rfl
  | exact small1000 (by omega))
local macro_rules | `(tactic| tm_at "prop") => `(tactic| first
  | assumption
  | omega)
local macro_rules | `(tactic| tm_at "s") => `(tactic| first
  | refine ⟨_, rfl, ?_⟩
  | refine ⟨_, _, rfl, rfl, ?_⟩
  | refine ⟨_, _, _, rfl, rfl, (by tm_at "fact"), (by tm_at "cond"), ?_⟩
  | refine ⟨_, _, _, _, rfl, rfl, (by tm_at "fact"), rfl, ?_⟩
  | refine ⟨_, _, rfl, (by tm_at "fact"), ?_⟩
  | refine And.intro (by tm_at "cond") ?_
  | refine .inl ⟨_, rfl, ?_⟩
  | refine ⟨_, _, rfl, .inl (by tm_at "fact"), ?_⟩
  | refine dec_false (by tm_at "prop") ?_
  | refine dec_true (by tm_at "prop") ?_
  | refine decN_false (by tm_at "prop") ?_
  | refine decN_true (by tm_at "prop") ?_
  | refine iteT ?_
  | refine iteF ?_
  | refine ⟨_, _, rfl, ?_⟩)
local macro_rules | `(tactic| tm_at "go") => `(tactic| repeat tm_at "s")

section
variable {P : Program} {w : World} {K : PySem.W.Frag} {mg : Str → Option Value} {base : Heap} {aH aR : Addr}
/-! ### the written lines hold the rows' words -/
theorem tl_catN (ls : List Str) : tl (catN ls) = (ls.map fun x => tl x ++ [10]).flatten := by
  unfold catN
  rw [join_eq, tl_join]
  induction ls with
  | nil => rfl
  | cons x r ih =>
    rw [List.map_cons, List.map_cons, List.map_cons, List.flatten_cons, ← ih]
    have e : tl (x ++ S "\n") = tl x ++ [10] := by rw [tl_append, tl_nl]
    rw [e]
    cases r with
    | nil => exact (List.append_nil _).symm
    | cons y s => rfl
theorem catN_snoc (ls : List Str) (x : Str) : catN (ls ++ [x]) = catN ls ++ x ++ S "\n" := by
  refine ext_tl ?_
  rw [tl_catN, tl_append, tl_append, tl_catN, tl_nl, List.map_append, List.flatten_append, List.append_assoc]
  rw [List.map_singleton, List.flatten_singleton]
theorem catN_join : ∀ ls : List Str, catN ls = Txt.join (S "\n") (ls ++ [Str.empty])
  | [] => rfl
  | x :: r => by
    refine ext_tl ?_
    rw [tl_catN, join_eq]
    have e : x :: r ++ [Str.empty] = x :: (r ++ [Str.empty]) := rfl
    rw [e, join_cons _ _ (by simp), tl_append, tl_append, tl_nl, ← join_eq, ← catN_join r, tl_catN]
    rfl
theorem catN_len {ls : List Str} (h1 : ∀ x ∈ ls, x.length ≤ 15010) (h2 : ls.length ≤ 100) : (catN ls).length ≤ 1600000 := by
  unfold catN
  rw [join_eq]
  have h3 := join_len Str.empty (ls.map fun x => x ++ S "\n")
  have h4 := sum_le (b := 15011) (l := ls.map fun x => x ++ S "\n") fun x hx => by
    obtain ⟨y, hy, rfl⟩ := List.mem_map.mp hx
    have := h1 y hy
    have e1 : (S "\n").length = 1 := by decide +kernel
    rw [len_app]
    omega
  rw [List.length_map] at h4
  have e0 : Str.empty.length = 0 := rfl
  rw [e0, Nat.mul_zero, Nat.add_zero] at h3
  omega
/-- a line inside a claim -/
def ind (ws : List Str) : Str := S "  " ++ Txt.join (S " ") ws
theorem tl_two : tl (S "  ") = [32, 32] := by decide +kernel
theorem ind_lay {ws : List Str} (h : Wk ws) : Lay [ind ws] [ws] := by
  have e2 : (S "  ").length = 2 := by decide +kernel
  refine Lay.one ?_ ?_ ?_ h.ne
  · refine map_tl_inj ?_
    unfold ind
    rw [words_tl, tl_append, tl_two, List.foldl_append]
    have e : List.foldl wstep ([], []) [32, 32] = ([], []) := by decide +kernel
    rw [e, ← words_tl, wk_words h]
  · unfold ind
    rw [tl_append, tl_two]
    intro z
    rcases List.mem_append.mp z with z | z
    · simp at z
    · exact wk_nl h z
  · unfold ind
    rw [len_app, join_eq]
    have h1 := join_len (S " ") ws
    have h2 := wk_len h
    omega
theorem ind_lays : ∀ {W : List (List Str)}, (∀ ws ∈ W, Wk ws) → Lay (W.map ind) W
  | [], _ => Lay.nil
  | ws :: W, h => (ind_lay (h ws (List.mem_cons_self ..))).append (ind_lays fun x hx => h x (List.mem_cons_of_mem _ hx))
def midW (r : M.Row) : List (List Str) := r.gs.map (fW (S "given")) ++ r.ss.map (pW (S "same")) ++ r.as.map (fW (S "ask")) ++ r.ks.map (pW (S "keep")) ++ r.hs.map (fW (S "hint")) ++ (if r.rule = S "any" then [] else [S "walk" :: Txt.split r.rule (S " ")])
def headW (r : M.Row) : List Str := [S "claim", r.a, S "with", r.b]
theorem rowW_eq (r : M.Row) : rowW r = headW r :: (midW r ++ [[S "end"]]) := by
  unfold rowW midW headW
  simp only [List.append_assoc, List.cons_append, List.nil_append]
theorem fL_ind {hd hd2 : Str} (h : hd2 = S "  " ++ hd ++ S " ") (f : Form) : fL hd2 f = ind (fW hd f) := by
  unfold fL ind fW
  rw [h, join_eq, join_cons _ _ (wd_ne f), ← join_eq, ← wr_join]
  simp only [app_assoc]
theorem pL_ind {hd hd2 : Str} (h : hd2 = S "  " ++ hd ++ S " ") (p : Str × Str) : pL hd2 p = ind (pW hd p) := by
  unfold pL ind pW
  rw [h, join_eq, join_cons _ _ (by simp), join_cons _ _ (by simp)]
  show _ = S "  " ++ (hd ++ S " " ++ (p.1 ++ S " " ++ p.2))
  simp only [app_assoc]
theorem rowL_eq {r : M.Row} (h : r.Ok) : rowL r = Txt.join (S " ") (headW r) :: ((midW r).map ind ++ [S "end"]) := by
  have e0 : S "claim " ++ r.a ++ S " with " ++ r.b = Txt.join (S " ") (headW r) := by
    unfold headW
    rw [join_eq, join_cons _ _ (by simp), join_cons _ _ (by simp), join_cons _ _ (by simp)]
    show _ = S "claim" ++ S " " ++ (r.a ++ S " " ++ (S "with" ++ S " " ++ r.b))
    rw [show S "claim " = S "claim" ++ S " " by decide +kernel, show S " with " = S " " ++ S "with" ++ S " " by decide +kernel]
    simp only [app_assoc]
  have e1 : ∀ fs : List Form, fs.map (fL (S "  given ")) = (fs.map (fW (S "given"))).map ind := fun fs => by
    rw [List.map_map]
    exact List.map_congr_left fun f _ => fL_ind (by decide +kernel) f
  have e2 : ∀ fs : List Form, fs.map (fL (S "  ask ")) = (fs.map (fW (S "ask"))).map ind := fun fs => by
    rw [List.map_map]
    exact List.map_congr_left fun f _ => fL_ind (by decide +kernel) f
  have e3 : ∀ fs : List Form, fs.map (fL (S "  hint ")) = (fs.map (fW (S "hint"))).map ind := fun fs => by
    rw [List.map_map]
    exact List.map_congr_left fun f _ => fL_ind (by decide +kernel) f
  have e4 : ∀ ps : List (Str × Str), ps.map (pL (S "  same ")) = (ps.map (pW (S "same"))).map ind := fun ps => by
    rw [List.map_map]
    exact List.map_congr_left fun f _ => pL_ind (by decide +kernel) f
  have e5 : ∀ ps : List (Str × Str), ps.map (pL (S "  keep ")) = (ps.map (pW (S "keep"))).map ind := fun ps => by
    rw [List.map_map]
    exact List.map_congr_left fun f _ => pL_ind (by decide +kernel) f
  have e6 : (if r.rule = S "any" then [] else [S "  walk " ++ r.rule]) = (if r.rule = S "any" then [] else [S "walk" :: Txt.split r.rule (S " ")]).map ind := by
    split
    · rfl
    · rename_i c
      have h7 : r.rule ∈ rules7 := by
        rcases List.mem_append.mp h.ru with z | z
        · exact z
        · refine absurd ?_ c
          simp only [List.mem_cons, List.not_mem_nil, or_false] at z
          rcases z with z | z | z <;> exact z
      have hh : ∀ z ∈ rules7, S "  walk " ++ z = ind (S "walk" :: Txt.split z (S " ")) := by decide +kernel
      rw [hh _ h7]
      rfl
  unfold rowL rowL0 midW
  rw [e0, e1, e2, e3, e4, e5, e6]
  simp only [List.map_append, List.append_assoc, List.cons_append, List.nil_append]
theorem rowL_lay {r : M.Row} (h : r.Ok) : Lay (rowL r) (rowW r) := by
  have hw := wk_row h
  rw [rowL_eq h]
  rw [rowW_eq] at hw ⊢
  have h1 := wk_lay (hw _ (List.mem_cons_self ..))
  have h2 := ind_lays (W := midW r) fun x hx => hw x (List.mem_cons_of_mem _ (List.mem_append_left _ hx))
  have h3 := wk_lay (hw [S "end"] (List.mem_cons_of_mem _ (List.mem_append_right _ (List.mem_singleton.mpr rfl))))
  have e : Txt.join (S " ") [S "end"] = S "end" := by decide +kernel
  rw [e] at h3
  exact h1.append (h2.append h3)
theorem rowsL_lay : ∀ {rs : List M.Row}, (∀ r ∈ rs, r.Ok) → Lay (rs.flatMap rowL) (rs.flatMap rowW)
  | [], _ => Lay.nil
  | r :: rs, h => by
    rw [List.flatMap_cons, List.flatMap_cons]
    exact (rowL_lay (h r (List.mem_cons_self ..))).append (rowsL_lay fun x hx => h x (List.mem_cons_of_mem _ hx))
theorem rows_rdb {rs : List M.Row} (h : ∀ r ∈ rs, r.Ok) (hl : rs.length ≤ 10) : Rdb (catN (rs.flatMap rowL)) (rs.flatMap rowW) := by
  have b : Lay [Str.empty] [] := Lay.blank words_empty (fun z => by cases z) (Nat.zero_le _)
  have h1 := (rowsL_lay h).append b
  have hc := rowsL_cnt h
  rw [List.append_nil] at h1
  rw [catN_join]
  refine h1.rdb (by simp) ?_
  rw [List.length_append, List.length_singleton]
  omega
/-- the k-th line by its words -/
theorem rowL_at {r : M.Row} (h : r.Ok) {k : Nat} {ws : List Str} (hk : (rowW r)[k]? = some ws) :
    (rowL r)[k]? = some (if 0 < k ∧ k + 1 < (rowW r).length then ind ws else Txt.join (S " ") ws) := by
  rw [rowL_eq h]
  rw [rowW_eq] at hk ⊢
  cases k with
  | zero =>
    cases hk
    rfl
  | succ k =>
    rw [List.getElem?_cons_succ] at hk ⊢
    rw [List.length_cons, List.length_append, List.length_singleton]
    by_cases c : k < (midW r).length
    · rw [List.getElem?_append_left c] at hk
      rw [List.getElem?_append_left (by rw [List.length_map]; exact c), List.getElem?_map, hk, if_pos ⟨by omega, by omega⟩]
      rfl
    · rw [List.getElem?_append_right (by omega)] at hk
      rw [List.getElem?_append_right (by rw [List.length_map]; omega), List.length_map, if_neg (by omega)]
      have c2 : k - (midW r).length = 0 := by
        have := (List.getElem?_eq_some_iff.mp hk).1
        rw [List.length_singleton] at this
        omega
      rw [c2] at hk ⊢
      cases hk
      exact (by decide +kernel : some (S "end") = some (Txt.join (S " ") [S "end"]))
theorem rowL_cnt2 {r : M.Row} (h : r.Ok) : (rowL r).length = (rowW r).length := by
  rw [rowL_eq h, rowW_eq]
  simp only [List.length_cons, List.length_append, List.length_map, List.length_nil]
end
end C
set_option Elab.async false
set_option linter.all false
set_option pp.maxSteps 1500
set_option maxRecDepth 100000
set_option maxHeartbeats 4000000
namespace C
open PySem PySem.Spec PyProof.Rows L2 Kx M TL
local macro_rules | `(tactic| tm_at "same") => `(tactic| first
  | assumption
  | exact L2.Same.refl _
  | exact L2.Same.upd (by tm_at "same") (by tm_at "free")
  | exact sameTransR (by assumption) (by tm_at "same"))
local macro_rules | `(tactic| tm_at "free") => `(tactic| first
  | assumption
  | exact sameFreeR (by assumption) (by tm_at "same"))
local macro_rules | `(tactic| tm_at "but") => `(tactic| first
  | assumption
  | exact But.refl _ _
  | exact But.transR (by assumption) (by tm_at "but")
  | exact But.upd
  | exact But.self (by tm_at "but")
  | exact But.new1 (by tm_at "but") (by assumption)
  | exact But.new (by tm_at "but") (by tm_at "free")
  | exact L2.Same.but (by assumption) _)
local macro_rules | `(tactic| tm_at "fact") => `(tactic| first
  | exact upd_same
  | assumption
  | exact SqL.of upd_same
  | exact SqT.of upd_same
  | exact SqL.of (by assumption)
  | exact SqT.of (by assumption)
  | exact But.lstR (by assumption) (by assumption) (by tm_at "but"))
local macro_rules | `(tactic| tm_at "cond") => `(tactic| first
  | rfl
  | assumption
  | decide
  | omega
  | exact ⟨by decide, by decide⟩
  | exact .inr ⟨by decide, by decide⟩
  | exact .inl ⟨by decide, by decide⟩
  | exact ⟨by decide, by decide, by decide⟩
  | exact cdivw (by assumption) (by assumption)
  | exact log2_ok (by assumption)
  | exact Or.inl ⟨rfl, _, SqL.of upd_same⟩
  | exact Or.inl ⟨rfl, _, SqL.of (by assumption)⟩
  | exact ⟨_, rfl⟩
  | exact Nat.le_of_ble_eq_true rfl
  | exact small1000 (by omega))
local macro_rules | `(tactic| tm_at "prop") => `(tactic| first
  | assumption
  | omega)
local macro_rules | `(tactic| tm_at "s") => `(tactic| first
  | refine ⟨_, rfl, ?_⟩
  | refine ⟨_, _, rfl, rfl, ?_⟩
  | refine ⟨_, _, _, rfl, rfl, (by tm_at "fact"), (by tm_at "cond"), ?_⟩
  | refine ⟨_, _, _, _, rfl, rfl, (by tm_at "fact"), rfl, ?_⟩
  | refine ⟨_, _, rfl, (by tm_at "fact"), ?_⟩
  | refine And.intro (by tm_at "cond") ?_
  | refine .inl ⟨_, rfl, ?_⟩
  | refine ⟨_, _, rfl, .inl (by tm_at "fact"), ?_⟩
  | refine dec_false (by tm_at "prop") ?_
  | refine dec_true (by tm_at "prop") ?_
  | refine decN_false (by tm_at "prop") ?_
  | refine decN_true (by tm_at "prop") ?_
  | refine iteT ?_
  | refine iteF ?_
  | refine ⟨_, _, rfl, ?_⟩)
local macro_rules | `(tactic| tm_at "go") => `(tactic| repeat tm_at "s")

section
variable {P : Program} {w : World} {K : PySem.W.Frag} {mg : Str → Option Value} {base : Heap} {aH aR : Addr}
/-! ### the law -/
def spLaw (K : PySem.W.Frag) : Sp := fun vs H Q _ => ∃ (a : Addr) (ns : List Int), vs = [.ref a] ∧ SqL K H a (ns.map V.int) ∧ ns.length ≤ 63 ∧ ∀ H', Q (.bl true) H'
theorem sizeL {n : Nat} (h : n ≤ 100000) : n ≤ sizeLine := Nat.le_trans h (by decide)
theorem strs_app (a b : List Str) : a.map V.str ++ b.map V.str = (a ++ b).map V.str := (List.map_append ..).symm
theorem flat_snoc {α β : Type} (f : α → List β) {l : List α} {i : Nat} {x : α} (h : l[i]? = some x) : (l.take (i + 1)).flatMap f = (l.take i).flatMap f ++ f x := by
  rw [take_snoc h, List.flatMap_append, List.flatMap_singleton]
theorem sc_law : FnScope ["script", "state", "rows", "k", "due", "row", "lines", "found"] ["script"] (defScope s_law) := ⟨rfl, rfl, rfl, by decide +kernel, rfl, by decide +kernel, by decide +kernel⟩
theorem ok_law {k : Nat} {f : Addr} {fd : FuncData} (F : Fun K "law" "law" s_law f fd) (B : Bi mg)
    (c__law_start : Cal P w K mg base CX0 k "_law_start" ["script"] (spStart K)) (c__law_draw : Cal P w K mg base CX0 k "_law_draw" ["state", "most"] (spDraw K))
    (c__law_some_row : Cal P w K mg base CX0 k "_law_some_row" ["state"] (spRow K)) (c__law_row_lines : Cal P w K mg base CX0 k "_law_row_lines" ["row"] (spLines K))
    (c_write_claims : Cal P w K mg base CX0 k "write_claims" ["rows"] (spWriteC K)) (c_read_claims : Cal P w K mg base CX0 k "read_claims" ["text"] (spReadC K))
    (c__law_same : Cal P w K mg base CX0 k "_law_same" ["x", "y"] (spSame K 8)) : FnOk P w K mg base CX0 (k + 1) f fd ["script"] (spLaw K) := by
  refine F.ok sc_law (fun vs H Q E h => ?_) (fun cdv A outer s H vs Q E hr h => ?_)
  · obtain ⟨a, ns, rfl, _⟩ := h
    rfl
  · obtain ⟨a, ns, rfl, ha, hns, q⟩ := h
    have nd := sc_law.nd
    refine ⟨_, (pss_cons (ps_set (i := 1) nd rfl (Or.inr rfl) (pe_cal c__law_start (Room.mono hr (by omega)) (by rfl) (pa_cons (pv 0) pa_nil)))
      (pss_cons (ps_set (i := 2) nd rfl (Or.inl rfl) (pe_callTy call_tuple_of (by rfl) B.tuple (by decide +kernel) (pa_cons (pe_lc (own := [("k", 3)]) (by rfl) nd (pi_range1 (by rfl) B.range (pa_cons (pe_cal c__law_draw (Room.mono hr (by omega)) (by rfl) (pa_cons (pv 1) (pa_cons pe_int pa_nil))) pa_nil)) (blkOk_by (own := [("k", 3)]) (N := ["script", "state", "rows", "k", "due", "row", "lines", "found"]) (sc := defScope s_law) (by decide +kernel)) (fun _ _ _ _ _ => (pg_name (i := 3) nd rfl (Or.inl rfl))) (fun _ _ _ _ _ => pts_nil) (fun _ _ _ _ _ => (pe_cal c__law_some_row (Room.mono hr (by omega)) (by rfl) (pa_cons (pv 1) pa_nil)))) pa_nil)))
      (pss_cons (ps_set (i := 4) nd rfl (Or.inl rfl) pe_str)
      (pss_cons (ps_for PassesOwn.never rfl (pi_tup (pv 2)) (pg_name (i := 5) nd rfl (Or.inl rfl))
        (pss_cons (ps_set (i := 6) nd rfl (Or.inl rfl) (pe_cal c__law_row_lines (Room.mono hr (by omega)) (by rfl) (pa_cons (pv 5) pa_nil)))
        (pss_one (ps_for PassesOwn.never rfl (pi_range1 (by rfl) B.range (pa_cons (pe_callB call_len_seq (by rfl) B.len (by decide +kernel) (pa_cons (pv 6) pa_nil)) pa_nil)) (pg_name (i := 3) nd rfl (Or.inl rfl))
          (C8.pss_cut (ps_if (PW.pt (pw_and (pt_cmpR op_lt pe_int (pv 3) (nomark _)) (pw_and1 (pt_cmpR op_lt (pv 3) (pe_op op_sub (pe_callB call_len_seq (by rfl) B.len (by decide +kernel) (pa_cons (pv 6) pa_nil)) pe_int) (nomark _)))))
            (pss_one (ps_set (i := 4) nd rfl (Or.inl rfl) (pe_op op_add_str (pv 4) pe_str)))
            pss_nil)
          (pss_one (ps_set (i := 4) nd rfl (Or.inl rfl) (pe_op op_add_str (pe_op op_add_str (pv 4) (pe_join pe_str (pe_ix ix_list (pv 6) (pv 3) (fun _ _ => rfl)))) pe_str))))))))
      (pss_cons (ps_set (i := 7) nd rfl (Or.inl rfl) (pe_cal c_write_claims (Room.mono hr (by omega)) (by rfl) (pa_cons (pv 2) pa_nil)))
      (pss_one (ps_ret (pe_and (pe_cal c__law_same (Room.mono hr (by omega)) (by rfl) (pa_cons (pv 7) (pa_cons (pv 4) pa_nil))) (pe_one (pe_cal c__law_same (Room.mono hr (by omega)) (by rfl) (pa_cons (pe_cal c_read_claims (Room.mono hr (by omega)) (by rfl) (pa_cons (pv 7) pa_nil)) (pa_cons (pv 2) pa_nil)))))))))))), ?_⟩
    refine ⟨_, rfl, a, ns, rfl, ha, fun st l H1 s1 nst so1 => ?_⟩
    tm_at "go"
    refine ⟨st, l, 4, rfl, so1, by decide, by decide, fun r H2 r0 r1 b2 so2 => ?_⟩
    obtain ⟨j, rfl⟩ : ∃ j : Nat, r = (j : Int) := ⟨r.toNat, by omega⟩
    refine ⟨_, rfl, by omega, by omega, fun D nD => ?_⟩
    have nsD := so2.ne nD
    refine lc_it walk_range (fun i H' => But st H2 H' ∧ StOk K H' st l ∧ ∃ (vs : List V) (rs : List M.Row), H' D = some (.lst vs) ∧ Ims K H' vs (rs.map rD) ∧ rs.length = i ∧ ∀ r ∈ rs, r.Ok) ⟨(same_new nD).but st, so2.new nD, [], [], upd_same, .nil, rfl, fun _ h => by cases h⟩ (fun _ _ _ _ => trivial) ?_ ?_
    · rintro i v Hx Hy hlt ⟨bx, sox, vs, rs, hDx, hi, hl, hc⟩ ⟨rfl, rfl⟩
      refine ⟨rfl, ?_⟩
      tm_at "go"
      refine fun r v H3 hr hv b3 so3 => ?_
      have hD3 : H3 D = some (.lst vs) := b3 _ _ nsD.symm hDx
      have hlv := hi.length
      rw [List.length_map] at hlv
      refine ⟨vs, hD3, small1000 (by omega), ?_⟩
      refine ⟨(bx.trans b3).new nD, so2.grow nD so3, _, rs ++ [r], upd_same, ?_, ?_, ?_⟩
      · rw [List.map_append]
        have t2 : TK H3 (upd H3 D (.lst (vs ++ [v]))) := TK.lst hD3
        exact Ims.snoc (((sox.tk b3).trans t2).ims hi) (t2.im hv)
      · rw [List.length_append, hl]
        rfl
      · intro p hp
        rcases List.mem_append.mp hp with y | y
        · exact hc p y
        · rw [List.mem_singleton] at y
          rw [y]
          exact hr
    · rintro H3 ⟨bx, so3, vs, rs, hD3, hims, hl, hro⟩
      refine ⟨D, vs, rfl, .inl ⟨SqL.of hD3, fun u nu => ?_⟩⟩
      have hrl : rs.length ≤ 3 := by omega
      clear hl hD3 bx nsD nD b2 r0 r1 so2
      have so4 := so3.new (x := .tup vs) nu
      have hims4 := (TK.new (o := .tup vs) nu).ims hims
      have hu4 : upd H3 u (.tup vs) u = some (.tup vs) := upd_same
      generalize upd H3 u (.tup vs) = H4 at so4 hims4 hu4 ⊢
      clear hims so3 nu
      have hvl := hims4.length
      rw [List.length_map] at hvl
      tm_at "go"
      have iu4 : Im K H4 (.ref u) (.tuple (rs.map rD)) := .tup (SqT.of hu4) hims4
      have nice := nice_rows hro (by omega)
      refine ⟨⟨_, SqT.of hu4⟩, ?_⟩
      refine for_it walk_tup (fun i σ H' => ∃ (v3 v5 v6 : Option V), σ = [some (.ref a), some (.ref st), some (.ref u), v3, some (.str (catN ((rs.take i).flatMap rowL))), v5, v6, none] ∧ Same H4 H')
        ⟨_, _, _, rfl, Same.refl _⟩ (fun i σ H' _ ⟨_, _, _, _, b⟩ => b.tk.tup (SqT.of hu4)) ?_ ?_
      · rintro i v σ H6 H6' hi ⟨v3, v5, v6, rfl, s6⟩ ⟨rfl, hv⟩
        have hirs : i < rs.length := by omega
        have hri : rs[i]? = some rs[i] := List.getElem?_eq_getElem hirs
        have hok := hro _ (List.getElem_mem hirs)
        obtain ⟨d, hd, imv⟩ := hims4.get hv
        rw [List.getElem?_map, hri] at hd
        cases hd
        have ef := flat_snocL rowL hri
        have hpre : ∀ x ∈ (rs.take i).flatMap rowL, x.length ≤ 15010 := rowsL_len fun x hx => hro x (List.mem_of_mem_take hx)
        have hcnt := rowsL_cnt (rs := rs.take i) fun x hx => hro x (List.mem_of_mem_take hx)
        rw [List.length_take] at hcnt
        generalize rs[i] = r at hok imv ef
        generalize (rs.take i).flatMap rowL = PL at hpre hcnt ef ⊢
        refine ⟨_, rfl, v, r, rfl, s6.tk.im imv, hok, fun wl ws H7 s7 nwl hwl hW => ?_⟩
        have wc := row_count hok
        have wkr := wk_row hok
        have hwn := hW.length
        have rlen := rowL_len hok
        have rc2 := rowL_cnt2 hok
        refine ⟨_, rfl, wl, ws, rfl, .inl (SqL.of hwl), ?_⟩
        refine ⟨_, rfl, by omega, by omega, ?_⟩
        refine for_it walk_range (fun j σ H' => ∃ (v3 : Option V), σ = [some (.ref a), some (.ref st), some (.ref u), v3, some (.str (catN (PL ++ (rowL r).take j))), some v, some (.ref wl), none] ∧ Same H7 H')
          ⟨_, by rw [List.take_zero, List.append_nil]; rfl, Same.refl _⟩ (fun _ _ _ _ _ => trivial) ?_ ?_
        · rintro j y σ H8 H8' hj ⟨v38, rfl, s8⟩ ⟨rfl, rfl⟩
          have hjw : j < (rowW r).length := by omega
          have hws : ∃ y, ws[j]? = some y := ⟨ws[j], List.getElem?_eq_getElem (by omega)⟩
          obtain ⟨y, hy⟩ := hws
          obtain ⟨b, wds, rfl, hwj, hb7⟩ := hW.get hy
          have hb8 := s8.seq hb7
          have hwl8 := s8 _ _ hwl
          have hwk := wkr _ (List.mem_of_getElem? hwj)
          have hlj := rowL_at hok hwj
          have hcl := catN_len (ls := PL ++ (rowL r).take j) (fun x hx => by
            rcases List.mem_append.mp hx with z | z
            · exact hpre x z
            · exact rlen x (List.mem_of_mem_take z)) (by rw [List.length_append, List.length_take]; omega)
          have big : (10000000 : Nat) ≤ sizeLine := by decide
          have e1 : (S "\n").length = 1 := by decide +kernel
          have e2 : (S "  ").length = 2 := by decide +kernel
          have hjn : (Txt.join (S " ") wds).length ≤ 15000 := by
            rw [join_eq]
            exact Nat.le_trans (join_len _ _) (wk_len hwk)
          have efin : ∀ X : Str, X = catN (PL ++ (rowL r).take j) ++ (if 0 < j ∧ j + 1 < (rowW r).length then ind wds else Txt.join (S " ") wds) ++ S "\n" → X = catN (PL ++ (rowL r).take (j + 1)) := fun X hX => by
            rw [take_snoc hlj, ← List.append_assoc, catN_snoc]
            exact hX
          generalize catN (PL ++ (rowL r).take j) = T at hcl efin ⊢
          have jn := wk_len hwk
          have hat : atI ws (0 + (j : Int)) = some (V.ref b) := at_of (j := j) (by omega) hy
          refine ⟨fun σ H' => σ = [some (.ref a), some (.ref st), some (.ref u), some (.int (0 + (j : Int))), some (.str (if 0 < j ∧ j + 1 < (rowW r).length then T ++ S "  " else T)), some v, some (.ref wl), none] ∧ H' = H8', ?_, ?_⟩
          · by_cases c1 : 0 < j
            · by_cases c2 : j + 1 < (rowW r).length
              · rw [if_pos ⟨c1, c2⟩]
                refine ⟨_, rfl, _, _, rfl, rfl, _, rfl, ?_⟩
                rw [decide_eq_true (by omega)]
                refine iteT ?_
                refine ⟨_, rfl, _, rfl, wl, _, rfl, .inl (SqL.of hwl8), _, _, rfl, rfl, _, _, rfl, rfl, _, rfl, ?_⟩
                rw [decide_eq_true (by omega)]
                refine iteT ?_
                refine ⟨_, rfl, T, S "  ", rfl, rfl, by rw [e2]; omega, ?_⟩
                exact ⟨rfl, rfl⟩
              · rw [if_neg (fun z => c2 z.2)]
                refine ⟨_, rfl, _, _, rfl, rfl, _, rfl, ?_⟩
                rw [decide_eq_true (by omega)]
                refine iteT ?_
                refine ⟨_, rfl, _, rfl, wl, _, rfl, .inl (SqL.of hwl8), _, _, rfl, rfl, _, _, rfl, rfl, _, rfl, ?_⟩
                rw [decide_eq_false (by omega)]
                refine iteF ?_
                exact ⟨rfl, rfl⟩
            · rw [if_neg (fun z => c1 z.1)]
              refine ⟨_, rfl, _, _, rfl, rfl, _, rfl, ?_⟩
              rw [decide_eq_false (by omega)]
              refine iteF ?_
              exact ⟨rfl, rfl⟩
          · rintro σ H9 ⟨rfl, rfl⟩
            generalize hTT : (if 0 < j ∧ j + 1 < (rowW r).length then T ++ S "  " else T) = T2
            have hT2 : T2.length ≤ 1600002 := by
              rw [← hTT]
              split
              · rw [len_app]
                omega
              · omega
            refine ⟨_, rfl, ?_⟩
            refine ⟨⟨_, rfl⟩, ?_⟩
            refine ⟨_, rfl, _, rfl, wl, _, _, .ref b, rfl, rfl, SqL.of hwl8, hat, ?_⟩
            refine ⟨S " ", b, wds, rfl, rfl, .inl hb8, Nat.le_trans jn (by decide), ?_⟩
            refine ⟨T2, _, rfl, rfl, by omega, ?_⟩
            refine ⟨_, S "\n", rfl, rfl, by rw [len_app, e1]; omega, ?_⟩
            have eT : T2 ++ Txt.join (S " ") wds ++ S "\n" = catN (PL ++ (rowL r).take (j + 1)) := by
              refine efin _ ?_
              rw [← hTT]
              split
              · unfold ind
                simp only [app_assoc]
              · rfl
            refine ⟨some (.int (0 + (j : Int))), ?_, s8⟩
            rw [← eT]
            rfl
        · rintro σ H8 ⟨v38, rfl, s8⟩
          refine ⟨v38, some v, some (.ref wl), ?_, s6.trans (s7.trans s8)⟩
          rw [ef, hwn, show ((((rowW r).length : Nat) : Int)).toNat = (rowL r).length by omega, List.take_length]
      · rintro σ H6 ⟨v3, v5, v6, rfl, s6⟩
        rw [show vs.length = rs.length by omega, List.take_length]
        have hr1 := rows_rdb hro (by omega)
        have iu6 := s6.tk.im iu4
        refine ⟨_, rfl, .ref u, rs, rfl, iu6, hro, by omega, fun H7 s7 => ?_⟩
        generalize catN (rs.flatMap rowL) = T at hr1 ⊢
        have n1 := Nice.str 7 T
        refine ⟨_, rfl, _, rfl, .str T, .str T, .str T, rfl, .str _, .str _, n1.sok, n1.few, n1.dep, fun H8 s8 => ?_⟩
        refine ⟨_, rfl, ?_⟩
        refine iteT ?_
        refine ⟨_, rfl, readC_of (E := E0) hro (by omega) hr1 fun v9 H9 s9 im9 => ?_⟩
        refine ⟨_, rfl, v9, .ref u, _, rfl, im9, s9.tk.im (s8.tk.im (s7.tk.im iu6)), nice.sok, nice.few, nice.dep, fun H10 s10 => ?_⟩
        exact q _
end
end C
section
set_option Elab.async false
open PySem PySem.W PyProof.Rows
set_option maxRecDepth 100000
set_option maxHeartbeats 0
open_top hdT for PySem.Challenge.rw_differwithin_k60_write_claims
end
set_option Elab.async false
set_option linter.all false
set_option pp.maxSteps 1500
set_option maxRecDepth 100000
set_option maxHeartbeats 4000000
namespace C
open PySem PySem.Spec PyProof.Rows L2 Kx M TL
local macro_rules | `(tactic| tm_at "same") => `(tactic| first
  | assumption
  | exact L2.Same.refl _
  | exact L2.Same.upd (by tm_at "same") (by tm_at "free")
  | exact sameTransR (by assumption) (by tm_at "same"))
local macro_rules | `(tactic| tm_at "free") => `(tactic| first
  | assumption
  | exact sameFreeR (by assumption) (by tm_at "same"))
local macro_rules | `(tactic| tm_at "but") => `(tactic| first
  | assumption
  | exact But.refl _ _
  | exact But.transR (by assumption) (by tm_at "but")
  | exact But.upd
  | exact But.self (by tm_at "but")
  | exact But.new1 (by tm_at "but") (by assumption)
  | exact But.new (by tm_at "but") (by tm_at "free")
  | exact L2.Same.but (by assumption) _)
local macro_rules | `(tactic| tm_at "fact") => `(tactic| first
  | exact upd_same
  | assumption
  | exact SqL.of upd_same
  | exact SqT.of upd_same
  | exact SqL.of (by assumption)
  | exact SqT.of (by assumption)
  | exact But.lstR (by assumption) (by assumption) (by tm_at "but"))
local macro_rules | `(tactic| tm_at "cond") => `(tactic| first
  | rfl
  | assumption
  | decide
  | omega
  | exact ⟨by decide, by decide⟩
  | exact .inr ⟨by decide, by decide⟩
  | exact .inl ⟨by decide, by decide⟩
  | exact ⟨by decide, by decide, by decide⟩
  | exact cdivw (by assumption) (by assumption)
  | exact log2_ok (by assumption)
  | exact Or.inl ⟨rfl, _, SqL.of upd_same⟩
  | exact Or.inl ⟨rfl, _, SqL.of (by assumption)⟩
  | exact ⟨_, rfl⟩
  | exact Nat.le_of_ble_eq_true rfl
  | exact small1000 (by omega))
local macro_rules | `(tactic| tm_at "prop") => `(tactic| first
  | assumption
  | omega)
local macro_rules | `(tactic| tm_at "s") => `(tactic| first
  | refine ⟨_, rfl, ?_⟩
  | refine ⟨_, _, rfl, rfl, ?_⟩
  | refine ⟨_, _, _, rfl, rfl, (by tm_at "fact"), (by tm_at "cond"), ?_⟩
  | refine ⟨_, _, _, _, rfl, rfl, (by tm_at "fact"), rfl, ?_⟩
  | refine ⟨_, _, rfl, (by tm_at "fact"), ?_⟩
  | refine And.intro (by tm_at "cond") ?_
  | refine .inl ⟨_, rfl, ?_⟩
  | refine ⟨_, _, rfl, .inl (by tm_at "fact"), ?_⟩
  | refine dec_false (by tm_at "prop") ?_
  | refine dec_true (by tm_at "prop") ?_
  | refine decN_false (by tm_at "prop") ?_
  | refine decN_true (by tm_at "prop") ?_
  | refine iteT ?_
  | refine iteF ?_
  | refine ⟨_, _, rfl, ?_⟩)
local macro_rules | `(tactic| tm_at "go") => `(tactic| repeat tm_at "s")

section
variable {P : Program} {w : World} {K : PySem.W.Frag} {mg : Str → Option Value} {base : Heap} {aH aR : Addr}
theorem def_mk {h : Heap} {nm qual : Str} {st : Stmt} {ps : List Str} {f : Addr} {oc : Value} {od an : Option Addr} {sl : Array (Option Value)} {kV dc pm cd ct : Value} (X : K.In h) (G : h.Ns mainGlobals mg)
    (a : PySem.W.nsIn K mainGlobals nm = some (some (.ref f))) (l : K.lookup f = some ⟨oc, od, .func (PySem.W.fnOf nm qual (defArgs st) (defBody st) (defScope st) .none kV dc pm an cd ct), sl⟩) (c : PySem.W.codeIn K cd qual = true) (k : PySem.W.keepIn K (.ref f) = true)
    (b : ∀ (kV doc pm : Value) (an : Option Addr) (cdv ct : Value) (us : List Value), us.length = ps.length → bindArgs (PySem.W.fnOf nm qual (defArgs st) (defBody st) (defScope st) .none kV doc pm an cdv ct) ⟨us, []⟩ = pure (ps.zip us)) : Def K mg nm qual st ps :=
  ⟨f, _, fun_mk l c k, PySem.W.mg_of X G a, (fun_mk l c k).binds b⟩
theorem mdef_mk {Cl : Addr} {nm qual : Str} {st : Stmt} {ps : List Str} {f : Addr} {oc : Value} {od an : Option Addr} {sl : Array (Option Value)} {kV dc pm cd ct : Value}
    (a : PySem.W.findIn K (.ref Cl) nm = some (some (.ref f))) (i : PySem.W.isFn K (.ref f) = true) (l : K.lookup f = some ⟨oc, od, .func (PySem.W.fnOf nm qual (defArgs st) (defBody st) (defScope st) .none kV dc pm an cd ct), sl⟩) (c : PySem.W.codeIn K cd qual = true) (k : PySem.W.keepIn K (.ref f) = true)
    (b : ∀ (kV doc pm : Value) (an : Option Addr) (cdv ct : Value) (us : List Value), us.length = ps.length → bindArgs (PySem.W.fnOf nm qual (defArgs st) (defBody st) (defScope st) .none kV doc pm an cdv ct) ⟨us, []⟩ = pure (ps.zip us)) : MDef K Cl nm qual st ps :=
  ⟨f, _, fun_mk l c k, ⟨a, i, k⟩, (fun_mk l c k).binds b⟩
theorem kdef_mk {Cl : Addr} {qual : Str} {st : Stmt} {ps : List Str} {f : Addr} {oc : Value} {od an : Option Addr} {sl : Array (Option Value)} {kV dc pm cd ct : Value} (m : PySem.W.makesIn K Cl = true)
    (a : PySem.W.findIn K (.ref Cl) "__init__" = some (some (.ref f))) (i : PySem.W.isFn K (.ref f) = true) (kc : PySem.W.keepIn K (.ref Cl) = true) (l : K.lookup f = some ⟨oc, od, .func (PySem.W.fnOf "__init__" qual (defArgs st) (defBody st) (defScope st) .none kV dc pm an cd ct), sl⟩) (c : PySem.W.codeIn K cd qual = true) (k : PySem.W.keepIn K (.ref f) = true)
    (b : ∀ (kV doc pm : Value) (an : Option Addr) (cdv ct : Value) (us : List Value), us.length = ps.length → bindArgs (PySem.W.fnOf "__init__" qual (defArgs st) (defBody st) (defScope st) .none kV doc pm an cdv ct) ⟨us, []⟩ = pure (ps.zip us)) : KDef K Cl qual st ps :=
  ⟨f, _, fun_mk l c k, ⟨m, a, i, kc⟩, (fun_mk l c k).binds b⟩
theorem rk_mk {Cl : Addr} (a : PySem.W.plainGet K Cl Str.empty = true) (b : PySem.W.hasDictIn K Cl = true) (c : PySem.W.plainOver K Cl = true) (d : PySem.W.findIn K (.ref Cl) "__setattr__" = some (some (.builtin "object.__setattr__"))) (e : PySem.W.findIn K (.ref Cl) "found" = some none) (f : PySem.W.findIn K (.ref Cl) "names" = some none) (g : PySem.W.findIn K (.ref Cl) "parts" = some none) (h : PySem.W.findIn K (.ref Cl) "stage" = some none) : Rk K Cl := ⟨⟨a, b, c, d⟩, e, f, g, h⟩
theorem cI_mk {h : Heap} {x : Str} {v : Value} {i : Int} {t : Tok} (X : K.In h) (G : h.Ns mainGlobals mg) (a : PySem.W.nsIn K mainGlobals x = some (some v)) (e : v = .int i t) : ∃ t, mg x = some (.int i t) := ⟨t, by rw [← e]; exact PySem.W.mg_of X G a⟩
theorem cS_mk {h : Heap} {x : Str} {v : Value} {i : Str} {t : Tok} (X : K.In h) (G : h.Ns mainGlobals mg) (a : PySem.W.nsIn K mainGlobals x = some (some v)) (e : v = .str i t) : ∃ t, mg x = some (.str i t) := ⟨t, by rw [← e]; exact PySem.W.mg_of X G a⟩
theorem tT_mk {a : Addr} {o : Obj} {its : Array Value} {n : Nat} {xs : List V} (l : K.lookup a = some o) (c : o.cls = .type "tuple") (d : o.data = .seq its n) (s : its.size ≤ sizeLine) (v : Vals xs its.toList) (H : Hp) : SqT K H a xs := .inr ⟨o, its, n, l, c, d, s, v⟩
theorem yT_mk {a : Addr} {o : Obj} (l : K.lookup a = some o) (c : o.cls = .type "tuple") (d : o.dict = none) : ∃ o, K.lookup a = some o ∧ o.cls = .type "tuple" ∧ o.dict = none := ⟨o, l, c, d⟩
set_option maxHeartbeats 0 in
theorem top_ok {f : Addr} {fd : FuncData} {Cl cBT aH aR : Addr} (gC_ClaimReader : mg "ClaimReader" = some (.ref Cl)) (R : Rk K Cl) (B : Bi mg) (gBT : mg "BadText" = some (.ref cBT)) (gHEADS : mg "HEADS" = some (.ref aH)) (gRULES : mg "RULES" = some (.ref aR)) (G : Gb K mg aH aR) (yH : ∃ o, K.lookup aH = some o ∧ o.cls = .type "tuple" ∧ o.dict = none)
    (d_write_integer : Def K mg "write_integer" "write_integer" s_write_integer ["n"])
    (d_write_term : Def K mg "write_term" "write_term" s_write_term ["name", "size"])
    (d_is_name : Def K mg "is_name" "is_name" s_is_name ["text"])
    (d_read_integer : Def K mg "read_integer" "read_integer" s_read_integer ["text"])
    (d_form : Def K mg "form" "form" s_form ["constant", "pairs"])
    (d_write_form : Def K mg "write_form" "write_form" s_write_form ["f"])
    (d_read_term : Def K mg "read_term" "read_term" s_read_term ["text", "sign"])
    (d_read_form : Def K mg "read_form" "read_form" s_read_form ["text"])
    (d_init : KDef K Cl "ClaimReader.__init__" s_ClaimReader___init__ ["self"])
    (d_head : MDef K Cl "take_head" "ClaimReader.take_head" s_ClaimReader_take_head ["self", "words"])
    (d_part : MDef K Cl "take_part" "ClaimReader.take_part" s_ClaimReader_take_part ["self", "words"])
    (d_end : MDef K Cl "take_end" "ClaimReader.take_end" s_ClaimReader_take_end ["self"])
    (d_take : MDef K Cl "take" "ClaimReader.take" s_ClaimReader_take ["self", "line"])
    (d_read_claims : Def K mg "read_claims" "read_claims" s_read_claims ["text"])
    (d__law_is_int : Def K mg "_law_is_int" "_law_is_int" s__law_is_int ["x"])
    (d__law_same : Def K mg "_law_same" "_law_same" s__law_same ["x", "y"])
    (d__law_form : Def K mg "_law_form" "_law_form" s__law_form ["constant", "pairs"])
    (d__law_draw : Def K mg "_law_draw" "_law_draw" s__law_draw ["state", "most"])
    (d__law_start : Def K mg "_law_start" "_law_start" s__law_start ["script"])
    (d__law_one_of : Def K mg "_law_one_of" "_law_one_of" s__law_one_of ["state", "items"])
    (d__law_text_of : Def K mg "_law_text_of" "_law_text_of" s__law_text_of ["state", "signs", "many"])
    (d__law_any_word : Def K mg "_law_any_word" "_law_any_word" s__law_any_word ["state"])
    (d__law_form_name : Def K mg "_law_form_name" "_law_form_name" s__law_form_name ["state"])
    (d__law_some_number : Def K mg "_law_some_number" "_law_some_number" s__law_some_number ["state"])
    (d__law_some_form : Def K mg "_law_some_form" "_law_some_form" s__law_some_form ["state"])
    (d__law_some_forms : Def K mg "_law_some_forms" "_law_some_forms" s__law_some_forms ["state"])
    (d__law_some_pairs : Def K mg "_law_some_pairs" "_law_some_pairs" s__law_some_pairs ["state"])
    (d__law_rules : Def K mg "_law_rules" "_law_rules" s__law_rules [])
    (d__law_some_row : Def K mg "_law_some_row" "_law_some_row" s__law_some_row ["state"])
    (d__law_written : Def K mg "_law_written" "_law_written" s__law_written ["f"])
    (d__law_row_lines : Def K mg "_law_row_lines" "_law_row_lines" s__law_row_lines ["row"])
    (d_claim_lines : Def K mg "claim_lines" "claim_lines" s_claim_lines ["row"])
    (d_write_claims : Def K mg "write_claims" "write_claims" s_write_claims ["rows"])
    (d_law : Fun K "law" "law" s_law f fd) : FnOk P w K mg base CX0 11 f fd ["script"] (spLaw K) := by
  have c_write_integer := ok_write_integer (P := P) (w := w) (mg := mg) (base := base) (k := 0) d_write_integer B G
  have c_write_term := ok_write_term (P := P) (w := w) (mg := mg) (base := base) (k := 1) d_write_term c_write_integer
  have c_is_name := ok_is_name (P := P) (w := w) (mg := mg) (base := base) (k := 0) d_is_name B G
  have c_read_integer := ok_read_integer (P := P) (w := w) (mg := mg) (base := base) (k := 0) d_read_integer B G
  have c_form := ok_form (P := P) (w := w) (mg := mg) (base := base) (k := 0) d_form B
  have c_write_form := ok_write_form (P := P) (w := w) (mg := mg) (base := base) (k := 2) d_write_form B c_write_term
  have c_read_term := ok_read_term (P := P) (w := w) (mg := mg) (base := base) (k := 1) d_read_term B c_is_name c_read_integer
  have c_read_form := ok_read_form (P := P) (w := w) (mg := mg) (base := base) (k := 3) d_read_form B (c_read_term.mono (by decide)) (c_form.mono (by decide)) c_write_form
  have i_ClaimReader := ok_init (P := P) (w := w) (mg := mg) (base := base) (k := 0) d_init R
  have m_ClaimReader_take_head := ok_head (P := P) (w := w) (mg := mg) (base := base) (k := 0) d_head R B G
  have m_ClaimReader_take_part := ok_part (P := P) (w := w) (mg := mg) (base := base) (k := 4) d_part R B G gBT yH c_read_form
  have m_ClaimReader_take_end := ok_end (P := P) (w := w) (mg := mg) (base := base) (k := 0) d_end R B G
  have m_ClaimReader_take := ok_take (P := P) (w := w) (mg := mg) (base := base) (k := 5) d_take R B G (m_ClaimReader_take_head.mono (by decide)) m_ClaimReader_take_part (m_ClaimReader_take_end.mono (by decide))
  have c_read_claims := ok_read_claims (P := P) (w := w) (mg := mg) (base := base) (k := 5) d_read_claims R B G gC_ClaimReader (i_ClaimReader.mono (by decide)) m_ClaimReader_take
  have c__law_is_int := ok__law_is_int (P := P) (w := w) (mg := mg) (base := base) (k := 0) d__law_is_int B
  have c__law_same := ok__law_same (P := P) (w := w) (mg := mg) (base := base) (k := 1) d__law_same B c__law_is_int 8
  have c__law_form := ok__law_form (P := P) (w := w) (mg := mg) (base := base) (k := 0) d__law_form B
  have c__law_draw := ok__law_draw (P := P) (w := w) (mg := mg) (base := base) (k := 0) d__law_draw B
  have c__law_start := ok__law_start (P := P) (w := w) (mg := mg) (base := base) (k := 0) d__law_start B
  have c__law_one_of := ok__law_one_of (P := P) (w := w) (mg := mg) (base := base) (k := 1) d__law_one_of B c__law_draw
  have c__law_text_of := ok__law_text_of (P := P) (w := w) (mg := mg) (base := base) (k := 1) d__law_text_of B c__law_draw
  have c__law_any_word := ok__law_any_word (P := P) (w := w) (mg := mg) (base := base) (k := 2) d__law_any_word B (c__law_draw.mono (by decide)) c__law_one_of c__law_text_of
  have c__law_form_name := ok__law_form_name (P := P) (w := w) (mg := mg) (base := base) (k := 2) d__law_form_name B (c__law_draw.mono (by decide)) c__law_one_of c__law_text_of
  have c__law_some_number := ok__law_some_number (P := P) (w := w) (mg := mg) (base := base) (k := 1) d__law_some_number B c__law_draw
  have c__law_some_form := ok__law_some_form (P := P) (w := w) (mg := mg) (base := base) (k := 3) d__law_some_form B (c__law_draw.mono (by decide)) c__law_form_name (c__law_some_number.mono (by decide)) (c__law_form.mono (by decide))
  have c__law_some_forms := ok__law_some_forms (P := P) (w := w) (mg := mg) (base := base) (k := 4) d__law_some_forms B (c__law_draw.mono (by decide)) c__law_some_form
  have c__law_some_pairs := ok__law_some_pairs (P := P) (w := w) (mg := mg) (base := base) (k := 3) d__law_some_pairs B (c__law_draw.mono (by decide)) c__law_any_word
  have c__law_rules := ok__law_rules (P := P) (w := w) (mg := mg) (base := base) (k := 0) d__law_rules B
  have c__law_some_row := ok__law_some_row (P := P) (w := w) (mg := mg) (base := base) (k := 5) d__law_some_row B (c__law_one_of.mono (by decide)) (c__law_any_word.mono (by decide)) c__law_some_forms (c__law_some_pairs.mono (by decide)) (c__law_rules.mono (by decide))
  have c__law_written := ok__law_written (P := P) (w := w) (mg := mg) (base := base) (k := 0) d__law_written B
  have c__law_row_lines := ok__law_row_lines (P := P) (w := w) (mg := mg) (base := base) (k := 1) d__law_row_lines B c__law_written
  have c_claim_lines := ok_claim_lines (P := P) (w := w) (mg := mg) (base := base) (k := 3) d_claim_lines B G c_write_form
  have c_write_claims := ok_write_claims (P := P) (w := w) (mg := mg) (base := base) (k := 4) d_write_claims B c_claim_lines
  exact ok_law (k := 10) d_law B (c__law_start.mono (by decide)) (c__law_draw.mono (by decide)) (c__law_some_row.mono (by decide)) (c__law_row_lines.mono (by decide)) (c_write_claims.mono (by decide)) (c_read_claims.mono (by decide)) c__law_same
end
theorem all_mk {l : PySem.W.OpenLaw} {w : World} {K : PySem.W.Frag} {h : Heap} {mg : Str → Option Value} {fa f0 : Addr} {Cl cBT aH aR : Addr} (X : K.In h) (G0 : h.Ns mainGlobals mg) (hfa : mg "law" = some (.ref fa))
    {od an : Option Addr} {sl : Array (Option Value)} {oc kV dc pm cd ct : Value} (a0 : PySem.W.nsIn K mainGlobals "law" = some (some (.ref f0))) (l0 : K.lookup f0 = some ⟨oc, od, .func (PySem.W.fnOf "law" "law" (defArgs s_law) (defBody s_law) (defScope s_law) .none kV dc pm an cd ct), sl⟩) (c0 : PySem.W.codeIn K cd "law" = true) (k0 : PySem.W.keepIn K (.ref f0) = true)
    (gC_ClaimReader : mg "ClaimReader" = some (.ref Cl)) (R : Rk K Cl) (B : Bi mg) (gBT : mg "BadText" = some (.ref cBT)) (gHEADS : mg "HEADS" = some (.ref aH)) (gRULES : mg "RULES" = some (.ref aR)) (G : Gb K mg aH aR) (yH : ∃ o, K.lookup aH = some o ∧ o.cls = .type "tuple" ∧ o.dict = none)
    (d_write_integer : Def K mg "write_integer" "write_integer" s_write_integer ["n"])
    (d_write_term : Def K mg "write_term" "write_term" s_write_term ["name", "size"])
    (d_is_name : Def K mg "is_name" "is_name" s_is_name ["text"])
    (d_read_integer : Def K mg "read_integer" "read_integer" s_read_integer ["text"])
    (d_form : Def K mg "form" "form" s_form ["constant", "pairs"])
    (d_write_form : Def K mg "write_form" "write_form" s_write_form ["f"])
    (d_read_term : Def K mg "read_term" "read_term" s_read_term ["text", "sign"])
    (d_read_form : Def K mg "read_form" "read_form" s_read_form ["text"])
    (d_init : KDef K Cl "ClaimReader.__init__" s_ClaimReader___init__ ["self"])
    (d_head : MDef K Cl "take_head" "ClaimReader.take_head" s_ClaimReader_take_head ["self", "words"])
    (d_part : MDef K Cl "take_part" "ClaimReader.take_part" s_ClaimReader_take_part ["self", "words"])
    (d_end : MDef K Cl "take_end" "ClaimReader.take_end" s_ClaimReader_take_end ["self"])
    (d_take : MDef K Cl "take" "ClaimReader.take" s_ClaimReader_take ["self", "line"])
    (d_read_claims : Def K mg "read_claims" "read_claims" s_read_claims ["text"])
    (d__law_is_int : Def K mg "_law_is_int" "_law_is_int" s__law_is_int ["x"])
    (d__law_same : Def K mg "_law_same" "_law_same" s__law_same ["x", "y"])
    (d__law_form : Def K mg "_law_form" "_law_form" s__law_form ["constant", "pairs"])
    (d__law_draw : Def K mg "_law_draw" "_law_draw" s__law_draw ["state", "most"])
    (d__law_start : Def K mg "_law_start" "_law_start" s__law_start ["script"])
    (d__law_one_of : Def K mg "_law_one_of" "_law_one_of" s__law_one_of ["state", "items"])
    (d__law_text_of : Def K mg "_law_text_of" "_law_text_of" s__law_text_of ["state", "signs", "many"])
    (d__law_any_word : Def K mg "_law_any_word" "_law_any_word" s__law_any_word ["state"])
    (d__law_form_name : Def K mg "_law_form_name" "_law_form_name" s__law_form_name ["state"])
    (d__law_some_number : Def K mg "_law_some_number" "_law_some_number" s__law_some_number ["state"])
    (d__law_some_form : Def K mg "_law_some_form" "_law_some_form" s__law_some_form ["state"])
    (d__law_some_forms : Def K mg "_law_some_forms" "_law_some_forms" s__law_some_forms ["state"])
    (d__law_some_pairs : Def K mg "_law_some_pairs" "_law_some_pairs" s__law_some_pairs ["state"])
    (d__law_rules : Def K mg "_law_rules" "_law_rules" s__law_rules [])
    (d__law_some_row : Def K mg "_law_some_row" "_law_some_row" s__law_some_row ["state"])
    (d__law_written : Def K mg "_law_written" "_law_written" s__law_written ["f"])
    (d__law_row_lines : Def K mg "_law_row_lines" "_law_row_lines" s__law_row_lines ["row"])
    (d_claim_lines : Def K mg "claim_lines" "claim_lines" s_claim_lines ["row"])
    (d_write_claims : Def K mg "write_claims" "write_claims" s_write_claims ["rows"]) :
    ∃ fd : FuncData, (∀ (s : Shared) (v : Value), BindsTo s fd ⟨[v], []⟩ [("script", v)]) ∧ ∀ base : Heap, K.In base → base.Ns mainGlobals mg → FnOk l.prog w K mg base CX0 11 fa fd ["script"] (spLaw K) := by
  have e := hfa.symm.trans (PySem.W.mg_of X G0 a0)
  cases e
  exact ⟨PySem.W.fnOf "law" "law" (defArgs s_law) (defBody s_law) (defScope s_law) .none kV dc pm an cd ct, fun s v => .of_eq rfl, fun base _ _ => top_ok gC_ClaimReader R B gBT gHEADS gRULES G yH d_write_integer d_write_term d_is_name d_read_integer d_form d_write_form d_read_term d_read_form d_init d_head d_part d_end d_take d_read_claims d__law_is_int d__law_same d__law_form d__law_draw d__law_start d__law_one_of d__law_text_of d__law_any_word d__law_form_name d__law_some_number d__law_some_form d__law_some_forms d__law_some_pairs d__law_rules d__law_some_row d__law_written d__law_row_lines d_claim_lines d_write_claims (fun_mk (st := s_law) l0 c0 k0)⟩
end C
open PySem PySem.W PyProof.Rows
set_option maxRecDepth 100000 in
set_option maxHeartbeats 0 in
theorem PySem.Challenge.cw_differwithin_k60_write_claims_holds : PySem.Challenge.rw_differwithin_k60_write_claims.Holds := by
  refine hdT ?_
  k_fill
  refine L2.walk_of (l := PySem.Challenge.rw_differwithin_k60_write_claims) (n := 63) (k := 11) (x := "script") (CX := fun _ => L2.CX0) (sp := fun w => C.spLaw _) rfl (by decide) rfl ⟨rfl, by decide, by decide⟩ (fun w h Y => PySem.W.kIn_of Y) ?F (fun _ _ a ns hl _ hS => ⟨a, ns, rfl, hS, hl, fun _ => rfl⟩) (fun _ _ _ _ _ h => h)
  case F =>
    intro w mg fa h KX G hmg
    refine' C.all_mk KX G hmg ?a0 ?l0 ?c0 ?k0 ?gC_ClaimReader ?R ?B ?gBT ?gHEADS ?gRULES ?G ?yH ?d_write_integer ?d_write_term ?d_is_name ?d_read_integer ?d_form ?d_write_form ?d_read_term ?d_read_form ?d_init ?d_head ?d_part ?d_end ?d_take ?d_read_claims ?d__law_is_int ?d__law_same ?d__law_form ?d__law_draw ?d__law_start ?d__law_one_of ?d__law_text_of ?d__law_any_word ?d__law_form_name ?d__law_some_number ?d__law_some_form ?d__law_some_forms ?d__law_some_pairs ?d__law_rules ?d__law_some_row ?d__law_written ?d__law_row_lines ?d_claim_lines ?d_write_claims
    (case a0 => k_is); (case l0 => k_is); (case c0 => k_is); (case k0 => k_is)
    (case gC_ClaimReader => refine' PySem.W.mg_of KX G ?a; (case a => k_is))
    (case R => exact C.rk_mk (by k_is) (by k_is) (by k_is) (by k_is) (by k_is) (by k_is) (by k_is) (by k_is))
    (case B => exact ⟨PySem.W.mg_none_of KX G (by k_is), PySem.W.mg_none_of KX G (by k_is), PySem.W.mg_none_of KX G (by k_is), PySem.W.mg_none_of KX G (by k_is), PySem.W.mg_none_of KX G (by k_is), PySem.W.mg_none_of KX G (by k_is), PySem.W.mg_none_of KX G (by k_is), PySem.W.mg_none_of KX G (by k_is), PySem.W.mg_none_of KX G (by k_is), PySem.W.mg_none_of KX G (by k_is), PySem.W.mg_none_of KX G (by k_is), PySem.W.mg_none_of KX G (by k_is), PySem.W.mg_none_of KX G (by k_is), PySem.W.mg_none_of KX G (by k_is)⟩)
    (case gBT => refine' PySem.W.mg_of KX G ?a; (case a => k_is))
    (case gHEADS => refine' PySem.W.mg_of KX G ?a; (case a => k_is))
    (case gRULES => refine' PySem.W.mg_of KX G ?a; (case a => k_is))
    (case G => exact ⟨(by refine' C.cI_mk KX G ?a ?e; (case a => k_is); (case e => exact rfl)), (by refine' C.cS_mk KX G ?a ?e; (case a => k_is); (case e => exact rfl)), (by refine' C.cS_mk KX G ?a ?e; (case a => k_is); (case e => exact rfl)), (by refine' C.cS_mk KX G ?a ?e; (case a => k_is); (case e => exact rfl)), (by refine' C.cS_mk KX G ?a ?e; (case a => k_is); (case e => exact rfl)), (by refine' PySem.W.mg_of KX G ?a; (case a => k_is)), (by refine' PySem.W.mg_of KX G ?a; (case a => k_is)), (by intro H; refine' C.tT_mk ?l ?c ?d ?s ?v H; (case l => k_is); (case c => exact rfl); (case d => exact rfl); (case s => decide); (case v => repeat (first | exact .nil | refine .cons ⟨_, rfl⟩ ?_))), (by intro H; refine' C.tT_mk ?l ?c ?d ?s ?v H; (case l => k_is); (case c => exact rfl); (case d => exact rfl); (case s => decide); (case v => repeat (first | exact .nil | refine .cons ⟨_, rfl⟩ ?_)))⟩)
    (case yH => refine' C.yT_mk ?l ?c ?d; (case l => k_is); (case c => exact rfl); (case d => exact rfl))
    (case d_write_integer => refine' C.def_mk KX G ?a ?l ?c ?k ?b; (case a => k_is); (case l => k_is); (case c => k_is); (case k => k_is); (case b => exact fun _ _ _ _ _ _ us hl => match us, hl with | [_], _ => rfl))
    (case d_write_term => refine' C.def_mk KX G ?a ?l ?c ?k ?b; (case a => k_is); (case l => k_is); (case c => k_is); (case k => k_is); (case b => exact fun _ _ _ _ _ _ us hl => match us, hl with | [_, _], _ => rfl))
    (case d_is_name => refine' C.def_mk KX G ?a ?l ?c ?k ?b; (case a => k_is); (case l => k_is); (case c => k_is); (case k => k_is); (case b => exact fun _ _ _ _ _ _ us hl => match us, hl with | [_], _ => rfl))
    (case d_read_integer => refine' C.def_mk KX G ?a ?l ?c ?k ?b; (case a => k_is); (case l => k_is); (case c => k_is); (case k => k_is); (case b => exact fun _ _ _ _ _ _ us hl => match us, hl with | [_], _ => rfl))
    (case d_form => refine' C.def_mk KX G ?a ?l ?c ?k ?b; (case a => k_is); (case l => k_is); (case c => k_is); (case k => k_is); (case b => exact fun _ _ _ _ _ _ us hl => match us, hl with | [_, _], _ => rfl))
    (case d_write_form => refine' C.def_mk KX G ?a ?l ?c ?k ?b; (case a => k_is); (case l => k_is); (case c => k_is); (case k => k_is); (case b => exact fun _ _ _ _ _ _ us hl => match us, hl with | [_], _ => rfl))
    (case d_read_term => refine' C.def_mk KX G ?a ?l ?c ?k ?b; (case a => k_is); (case l => k_is); (case c => k_is); (case k => k_is); (case b => exact fun _ _ _ _ _ _ us hl => match us, hl with | [_, _], _ => rfl))
    (case d_read_form => refine' C.def_mk KX G ?a ?l ?c ?k ?b; (case a => k_is); (case l => k_is); (case c => k_is); (case k => k_is); (case b => exact fun _ _ _ _ _ _ us hl => match us, hl with | [_], _ => rfl))
    (case d_init => refine' C.kdef_mk ?m ?a ?i ?kc ?l ?c ?k ?b; (case m => k_is); (case a => k_is); (case i => k_is); (case kc => k_is); (case l => k_is); (case c => k_is); (case k => k_is); (case b => exact fun _ _ _ _ _ _ us hl => match us, hl with | [_], _ => rfl))
    (case d_head => refine' C.mdef_mk ?a ?i ?l ?c ?k ?b; (case a => k_is); (case i => k_is); (case l => k_is); (case c => k_is); (case k => k_is); (case b => exact fun _ _ _ _ _ _ us hl => match us, hl with | [_, _], _ => rfl))
    (case d_part => refine' C.mdef_mk ?a ?i ?l ?c ?k ?b; (case a => k_is); (case i => k_is); (case l => k_is); (case c => k_is); (case k => k_is); (case b => exact fun _ _ _ _ _ _ us hl => match us, hl with | [_, _], _ => rfl))
    (case d_end => refine' C.mdef_mk ?a ?i ?l ?c ?k ?b; (case a => k_is); (case i => k_is); (case l => k_is); (case c => k_is); (case k => k_is); (case b => exact fun _ _ _ _ _ _ us hl => match us, hl with | [_], _ => rfl))
    (case d_take => refine' C.mdef_mk ?a ?i ?l ?c ?k ?b; (case a => k_is); (case i => k_is); (case l => k_is); (case c => k_is); (case k => k_is); (case b => exact fun _ _ _ _ _ _ us hl => match us, hl with | [_, _], _ => rfl))
    (case d_read_claims => refine' C.def_mk KX G ?a ?l ?c ?k ?b; (case a => k_is); (case l => k_is); (case c => k_is); (case k => k_is); (case b => exact fun _ _ _ _ _ _ us hl => match us, hl with | [_], _ => rfl))
    (case d__law_is_int => refine' C.def_mk KX G ?a ?l ?c ?k ?b; (case a => k_is); (case l => k_is); (case c => k_is); (case k => k_is); (case b => exact fun _ _ _ _ _ _ us hl => match us, hl with | [_], _ => rfl))
    (case d__law_same => refine' C.def_mk KX G ?a ?l ?c ?k ?b; (case a => k_is); (case l => k_is); (case c => k_is); (case k => k_is); (case b => exact fun _ _ _ _ _ _ us hl => match us, hl with | [_, _], _ => rfl))
    (case d__law_form => refine' C.def_mk KX G ?a ?l ?c ?k ?b; (case a => k_is); (case l => k_is); (case c => k_is); (case k => k_is); (case b => exact fun _ _ _ _ _ _ us hl => match us, hl with | [_, _], _ => rfl))
    (case d__law_draw => refine' C.def_mk KX G ?a ?l ?c ?k ?b; (case a => k_is); (case l => k_is); (case c => k_is); (case k => k_is); (case b => exact fun _ _ _ _ _ _ us hl => match us, hl with | [_, _], _ => rfl))
    (case d__law_start => refine' C.def_mk KX G ?a ?l ?c ?k ?b; (case a => k_is); (case l => k_is); (case c => k_is); (case k => k_is); (case b => exact fun _ _ _ _ _ _ us hl => match us, hl with | [_], _ => rfl))
    (case d__law_one_of => refine' C.def_mk KX G ?a ?l ?c ?k ?b; (case a => k_is); (case l => k_is); (case c => k_is); (case k => k_is); (case b => exact fun _ _ _ _ _ _ us hl => match us, hl with | [_, _], _ => rfl))
    (case d__law_text_of => refine' C.def_mk KX G ?a ?l ?c ?k ?b; (case a => k_is); (case l => k_is); (case c => k_is); (case k => k_is); (case b => exact fun _ _ _ _ _ _ us hl => match us, hl with | [_, _, _], _ => rfl))
    (case d__law_any_word => refine' C.def_mk KX G ?a ?l ?c ?k ?b; (case a => k_is); (case l => k_is); (case c => k_is); (case k => k_is); (case b => exact fun _ _ _ _ _ _ us hl => match us, hl with | [_], _ => rfl))
    (case d__law_form_name => refine' C.def_mk KX G ?a ?l ?c ?k ?b; (case a => k_is); (case l => k_is); (case c => k_is); (case k => k_is); (case b => exact fun _ _ _ _ _ _ us hl => match us, hl with | [_], _ => rfl))
    (case d__law_some_number => refine' C.def_mk KX G ?a ?l ?c ?k ?b; (case a => k_is); (case l => k_is); (case c => k_is); (case k => k_is); (case b => exact fun _ _ _ _ _ _ us hl => match us, hl with | [_], _ => rfl))
    (case d__law_some_form => refine' C.def_mk KX G ?a ?l ?c ?k ?b; (case a => k_is); (case l => k_is); (case c => k_is); (case k => k_is); (case b => exact fun _ _ _ _ _ _ us hl => match us, hl with | [_], _ => rfl))
    (case d__law_some_forms => refine' C.def_mk KX G ?a ?l ?c ?k ?b; (case a => k_is); (case l => k_is); (case c => k_is); (case k => k_is); (case b => exact fun _ _ _ _ _ _ us hl => match us, hl with | [_], _ => rfl))
    (case d__law_some_pairs => refine' C.def_mk KX G ?a ?l ?c ?k ?b; (case a => k_is); (case l => k_is); (case c => k_is); (case k => k_is); (case b => exact fun _ _ _ _ _ _ us hl => match us, hl with | [_], _ => rfl))
    (case d__law_rules => refine' C.def_mk KX G ?a ?l ?c ?k ?b; (case a => k_is); (case l => k_is); (case c => k_is); (case k => k_is); (case b => exact fun _ _ _ _ _ _ us hl => match us, hl with | [], _ => rfl))
    (case d__law_some_row => refine' C.def_mk KX G ?a ?l ?c ?k ?b; (case a => k_is); (case l => k_is); (case c => k_is); (case k => k_is); (case b => exact fun _ _ _ _ _ _ us hl => match us, hl with | [_], _ => rfl))
    (case d__law_written => refine' C.def_mk KX G ?a ?l ?c ?k ?b; (case a => k_is); (case l => k_is); (case c => k_is); (case k => k_is); (case b => exact fun _ _ _ _ _ _ us hl => match us, hl with | [_], _ => rfl))
    (case d__law_row_lines => refine' C.def_mk KX G ?a ?l ?c ?k ?b; (case a => k_is); (case l => k_is); (case c => k_is); (case k => k_is); (case b => exact fun _ _ _ _ _ _ us hl => match us, hl with | [_], _ => rfl))
    (case d_claim_lines => refine' C.def_mk KX G ?a ?l ?c ?k ?b; (case a => k_is); (case l => k_is); (case c => k_is); (case k => k_is); (case b => exact fun _ _ _ _ _ _ us hl => match us, hl with | [_], _ => rfl))
    (case d_write_claims => refine' C.def_mk KX G ?a ?l ?c ?k ?b; (case a => k_is); (case l => k_is); (case c => k_is); (case k => k_is); (case b => exact fun _ _ _ _ _ _ us hl => match us, hl with | [_], _ => rfl))
